import PyProof.Rows.All
import Wide.All
import OpenK.AllK
import Wide.FinOn
import HandS.ForMost
import HandS.Exc
import HandS.ExcOwn
import HandS.TryOnly
import HandS.Defaults
import HandS.DictComp
import HandS.SetBool
import HandS.IsInst
import HandS.NoneIn
import HandS.More
import HandS.Sort
import HandS.TupSets
import HandS.TupAny
import HandS.Zip
import HandS.Wide
import HandS.Walk
import HandS.Style
import HandS.Flow
import HandS.EndBits
import KE.KDictPairs
import KE.SortData
import HandS.MakeKwOnly
import HandS.Head0
import HandS.Head1
import HandS.Head2
import HandS.HeadEnd
import HandS.HeadHook1
import HandS.HeadHook2
import PySem.Challenge.RW_newsdoors_k66_whole_best_just_by_halves
set_option Elab.async false
set_option linter.all false
set_option maxRecDepth 100000
/-! Trees by their upper halls: ways, distances, what lies behind a door; plain Lean. -/
namespace K66
section
variable {α : Type} [DecidableEq α]

/-- the upper hall -/
def par (T : List (α × Option α)) (x : α) : Option α :=
  match T.find? (fun p => decide (p.1 = x)) with
  | some p => p.2
  | none => none

/-- halls: a root, ways up by falling ranks -/
structure Tree (T : List (α × Option α)) (rk : α → Nat) : Prop where
  nd : (T.map (·.1)).Nodup
  root : ∃ r, (r, none) ∈ T ∧ ∀ x, (x, none) ∈ T → x = r
  up : ∀ x u, (x, some u) ∈ T → u ∈ T.map (·.1) ∧ rk u < rk x

def wayF (T : List (α × Option α)) : Nat → α → List α
  | 0, x => [x]
  | n + 1, x => x :: (match par T x with
    | none => []
    | some u => wayF T n u)
def wy (T : List (α × Option α)) (rk : α → Nat) (x : α) : List α := wayF T (rk x) x

theorem find_key {β : Type} : ∀ {T : List (α × β)} {x : α} {o : β}, (T.map (·.1)).Nodup → (x, o) ∈ T → T.find? (fun p => decide (p.1 = x)) = some (x, o)
  | [], x, o, _, h => by cases h
  | p :: r, x, o, nd, h => by
    have nd' : (p.1 :: r.map (·.1)).Nodup := nd
    obtain ⟨h1, h2⟩ := List.nodup_cons.mp nd'
    rw [List.find?_cons]
    rcases List.mem_cons.mp h with e | h
    · rw [← e]; simp
    · have ne : ¬ p.1 = x := fun e => h1 (by rw [e]; exact List.mem_map.mpr ⟨(x, o), h, rfl⟩)
      simp only [decide_eq_false ne]
      exact find_key h2 h
theorem key_unique {β : Type} {T : List (α × β)} {x : α} {o o' : β} (nd : (T.map (·.1)).Nodup) (h : (x, o) ∈ T) (h' : (x, o') ∈ T) : o = o' := by
  have a := find_key nd h
  rw [find_key nd h'] at a
  have := Option.some.inj a
  exact (Prod.mk.inj this).2.symm

section
variable {T : List (α × Option α)} {rk : α → Nat}
theorem par_of_mem (nd : (T.map (·.1)).Nodup) {x : α} {o : Option α} (h : (x, o) ∈ T) : par T x = o := by
  unfold par; rw [find_key nd h]
theorem mem_of_par {x u : α} (h : par T x = some u) : (x, some u) ∈ T := by
  unfold par at h
  cases e : T.find? (fun p => decide (p.1 = x)) with
  | none => rw [e] at h; cases h
  | some p =>
    rw [e] at h
    have h1 := List.mem_of_find?_eq_some e
    have h2 : p.1 = x := by simpa using List.find?_some e
    obtain ⟨a, b⟩ := p
    simp only at h h2
    subst h2; subst h
    exact h1
theorem mem_names_of_par {x u : α} (h : par T x = some u) : x ∈ T.map (·.1) := List.mem_map.mpr ⟨_, mem_of_par h, rfl⟩
theorem mem_of_names {x : α} (nd : (T.map (·.1)).Nodup) (h : x ∈ T.map (·.1)) : (x, par T x) ∈ T := by
  obtain ⟨⟨y, o⟩, h1, rfl⟩ := List.mem_map.mp h
  rw [par_of_mem nd h1]; exact h1

namespace Tree
variable (t : Tree T rk)
include t
theorem par_up {x u : α} (h : par T x = some u) : u ∈ T.map (·.1) ∧ rk u < rk x := t.up x u (mem_of_par h)
theorem way_stable : ∀ (n m : Nat) (x : α), rk x ≤ n → rk x ≤ m → wayF T n x = wayF T m x
  | 0, 0, x, _, _ => rfl
  | 0, m + 1, x, h, _ => by
    show [x] = x :: _
    cases e : par T x with
    | none => rfl
    | some u => have := (t.par_up e).2; omega
  | n + 1, 0, x, _, h => by
    show x :: _ = [x]
    cases e : par T x with
    | none => rfl
    | some u => have := (t.par_up e).2; omega
  | n + 1, m + 1, x, h1, h2 => by
    show x :: _ = x :: _
    cases e : par T x with
    | none => rfl
    | some u =>
      have := (t.par_up e).2
      show x :: wayF T n u = x :: wayF T m u
      rw [way_stable n m u (by omega) (by omega)]
theorem wy_some {x u : α} (h : par T x = some u) : wy T rk x = x :: wy T rk u := by
  have q := (t.par_up h).2
  unfold wy
  obtain ⟨n, e⟩ : ∃ n, rk x = n + 1 := ⟨rk x - 1, by omega⟩
  rw [e]
  show x :: (match par T x with | none => [] | some u => wayF T n u) = _
  rw [h]
  show x :: wayF T n u = x :: wayF T (rk u) u
  rw [t.way_stable n (rk u) u (by omega) (Nat.le_refl _)]
theorem wy_none {x : α} (h : par T x = none) : wy T rk x = [x] := by
  unfold wy
  cases rk x with
  | zero => rfl
  | succ n => show x :: (match par T x with | none => [] | some u => wayF T n u) = _; rw [h]
theorem ind {P : α → Prop} (h0 : ∀ x, par T x = none → P x) (h1 : ∀ x u, par T x = some u → P u → P x) (x : α) : P x := by
  have : ∀ n x, rk x ≤ n → P x := by
    intro n
    induction n with
    | zero =>
      intro x hx
      cases e : par T x with
      | none => exact h0 x e
      | some u => have := (t.par_up e).2; omega
    | succ n ih =>
      intro x hx
      cases e : par T x with
      | none => exact h0 x e
      | some u => have := (t.par_up e).2; exact h1 x u e (ih u (by omega))
  exact this _ x (Nat.le_refl _)
theorem self_mem (x : α) : x ∈ wy T rk x := by
  cases e : par T x with
  | none => rw [t.wy_none e]; simp
  | some u => rw [t.wy_some e]; simp
theorem mem_trans {x y z : α} : y ∈ wy T rk x → z ∈ wy T rk y → z ∈ wy T rk x := by
  refine t.ind (P := fun x => y ∈ wy T rk x → z ∈ wy T rk y → z ∈ wy T rk x) (fun x e => ?_) (fun x u e ih => ?_) x
  · rw [t.wy_none e]
    intro h1 h2
    have : y = x := by simpa using h1
    subst this
    rw [t.wy_none e] at h2; exact h2
  · intro h1 h2
    rw [t.wy_some e] at h1 ⊢
    rcases List.mem_cons.mp h1 with rfl | h1
    · rw [t.wy_some e] at h2; exact h2
    · exact List.mem_cons_of_mem _ (ih h1 h2)
theorem rk_mem {x y : α} : y ∈ wy T rk x → y = x ∨ rk y < rk x := by
  refine t.ind (P := fun x => y ∈ wy T rk x → y = x ∨ rk y < rk x) (fun x e => ?_) (fun x u e ih => ?_) x
  · rw [t.wy_none e]; intro h; left; simpa using h
  · rw [t.wy_some e]; intro h
    have q := (t.par_up e).2
    rcases List.mem_cons.mp h with h | h
    · exact .inl h
    · rcases ih h with h | h
      · subst h; exact .inr q
      · exact .inr (by omega)
theorem wy_nodup (x : α) : (wy T rk x).Nodup := by
  refine t.ind (P := fun x => (wy T rk x).Nodup) (fun x e => ?_) (fun x u e ih => ?_) x
  · rw [t.wy_none e]; simp
  · rw [t.wy_some e]
    refine List.nodup_cons.mpr ⟨fun h => ?_, ih⟩
    have q := (t.par_up e).2
    rcases t.rk_mem h with h | h
    · subst h; omega
    · omega
theorem wy_names {x : α} (hx : x ∈ T.map (·.1)) : ∀ y, y ∈ wy T rk x → y ∈ T.map (·.1) := by
  refine t.ind (P := fun x => x ∈ T.map (·.1) → ∀ y, y ∈ wy T rk x → y ∈ T.map (·.1)) (fun x e => ?_) (fun x u e ih => ?_) x hx
  · rw [t.wy_none e]; intro hx y hy
    have : y = x := by simpa using hy
    subst this; exact hx
  · rw [t.wy_some e]; intro hx y hy
    rcases List.mem_cons.mp hy with rfl | hy
    · exact hx
    · exact ih (t.par_up e).1 y hy
theorem wy_len {x : α} (hx : x ∈ T.map (·.1)) : (wy T rk x).length ≤ T.length := by
  have := List.Nodup.length_le_of_subset (t.wy_nodup x) (fun y hy => t.wy_names hx y hy)
  rwa [List.length_map] at this
theorem wy_pos (x : α) : 0 < (wy T rk x).length := List.length_pos_of_mem (t.self_mem x)
/-- the root is on every way -/
theorem root_mem {r x : α} (hr : par T r = none) (hr2 : r ∈ T.map (·.1)) (hx : x ∈ T.map (·.1)) : r ∈ wy T rk x := by
  obtain ⟨r0, m0, u0⟩ := t.root
  have er : r = r0 := u0 r (by have := mem_of_names t.nd hr2; rw [hr] at this; exact this)
  refine t.ind (P := fun x => x ∈ T.map (·.1) → r ∈ wy T rk x) (fun x e => ?_) (fun x u e ih => ?_) x hx
  · intro hx
    have := mem_of_names t.nd hx
    rw [e] at this
    rw [er, ← u0 x this]; exact t.self_mem x
  · intro _
    rw [t.wy_some e]
    exact List.mem_cons_of_mem _ (ih (t.par_up e).1)
theorem wy_next {x y u : α} : ∀ {i : Nat}, (wy T rk x)[i]? = some y → par T y = some u → (wy T rk x)[i + 1]? = some u := by
  refine t.ind (P := fun x => ∀ {i : Nat}, (wy T rk x)[i]? = some y → par T y = some u → (wy T rk x)[i + 1]? = some u) (fun x e => ?_) (fun x v e ih => ?_) x
  · rw [t.wy_none e]; intro i h hp
    cases i with
    | zero =>
      have : x = y := by simpa using h
      subst this; rw [e] at hp; cases hp
    | succ i => simp at h
  · rw [t.wy_some e]; intro i h hp
    cases i with
    | zero =>
      have : x = y := by simpa using h
      subst this
      rw [e] at hp; cases hp
      show (wy T rk u)[0]? = some u
      cases e2 : par T u with
      | none => rw [t.wy_none e2]; rfl
      | some z => rw [t.wy_some e2]; rfl
    | succ i => exact ih (by simpa using h) hp
theorem wy_zero (x : α) : (wy T rk x)[0]? = some x := by
  cases e2 : par T x with
  | none => rw [t.wy_none e2]; rfl
  | some z => rw [t.wy_some e2]; rfl
theorem wy_end {x y : α} : ∀ {i : Nat}, (wy T rk x)[i]? = some y → par T y = none → i + 1 = (wy T rk x).length := by
  refine t.ind (P := fun x => ∀ {i : Nat}, (wy T rk x)[i]? = some y → par T y = none → i + 1 = (wy T rk x).length) (fun x e => ?_) (fun x v e ih => ?_) x
  · rw [t.wy_none e]; intro i h hp
    cases i with
    | zero => rfl
    | succ i => simp at h
  · rw [t.wy_some e]; intro i h hp
    cases i with
    | zero =>
      have : x = y := by simpa using h
      subst this; rw [e] at hp; cases hp
    | succ i =>
      have := ih (by simpa using h) hp
      rw [List.length_cons]; omega
/-- two on one way right below the same are one -/
theorem chain {s u v z : α} : s ∈ wy T rk z → u ∈ wy T rk z → par T s = some v → par T u = some v → s = u := by
  refine t.ind (P := fun z => s ∈ wy T rk z → u ∈ wy T rk z → par T s = some v → par T u = some v → s = u) (fun z e => ?_) (fun z w e ih => ?_) z
  · rw [t.wy_none e]; intro h1 h2 _ _
    have a : s = z := by simpa using h1
    have b : u = z := by simpa using h2
    rw [a, b]
  · rw [t.wy_some e]; intro h1 h2 p1 p2
    have below : ∀ {a : α}, a ∈ wy T rk w → par T z = some v → par T a = some v → False := by
      intro a ha hz hp
      rw [e] at hz; cases hz
      have q := (t.par_up hp).2
      rcases t.rk_mem ha with h | h
      · subst h; omega
      · omega
    rcases List.mem_cons.mp h1 with h1 | h1 <;> rcases List.mem_cons.mp h2 with h2 | h2
    · rw [h1, h2]
    · exact (below h2 (h1 ▸ p1) p2).elim
    · exact (below h1 (h2 ▸ p2) p1).elim
    · exact ih h1 h2 p1 p2
/-- the one ahead of it on the way -/
theorem pred {v z : α} : v ∈ wy T rk z → v ≠ z → ∃ s, s ∈ wy T rk z ∧ par T s = some v := by
  refine t.ind (P := fun z => v ∈ wy T rk z → v ≠ z → ∃ s, s ∈ wy T rk z ∧ par T s = some v) (fun z e => ?_) (fun z w e ih => ?_) z
  · rw [t.wy_none e]; intro h n; exact absurd (by simpa using h) n
  · rw [t.wy_some e]; intro h n
    rcases List.mem_cons.mp h with h | h
    · exact absurd h n
    · by_cases hw : v = w
      · subst hw; exact ⟨z, List.mem_cons_self .., e⟩
      · obtain ⟨s, h1, h2⟩ := ih h hw
        exact ⟨s, List.mem_cons_of_mem _ h1, h2⟩
end Tree

/-! ### how many doors lie between -/
def cm (T : List (α × Option α)) (rk : α → Nat) (x z : α) : Nat := ((wy T rk x).filter fun y => decide (y ∈ wy T rk z)).length
def dd (T : List (α × Option α)) (rk : α → Nat) (x z : α) : Nat := (wy T rk x).length + (wy T rk z).length - 2 * cm T rk x z

namespace Tree
variable (t : Tree T rk)
include t
theorem cm_symm (x z : α) : cm T rk x z = cm T rk z x := by
  unfold cm
  refine List.Perm.length_eq ((List.perm_ext_iff_of_nodup ((t.wy_nodup x).sublist List.filter_sublist) ((t.wy_nodup z).sublist List.filter_sublist)).mpr fun a => ?_)
  simp only [List.mem_filter, decide_eq_true_eq]
  exact ⟨fun h => ⟨h.2, h.1⟩, fun h => ⟨h.2, h.1⟩⟩
theorem cm_le (x z : α) : cm T rk x z ≤ (wy T rk x).length := List.length_filter_le _ _
theorem cm_le' (x z : α) : cm T rk x z ≤ (wy T rk z).length := by rw [t.cm_symm]; exact t.cm_le z x
theorem dd_symm (x z : α) : dd T rk x z = dd T rk z x := by
  unfold dd; rw [t.cm_symm x z]; omega
theorem dd_self (x : α) : dd T rk x x = 0 := by
  have : cm T rk x x = (wy T rk x).length := by
    unfold cm
    rw [List.filter_eq_self.mpr fun a ha => decide_eq_true ha]
  unfold dd; omega
theorem dd_zero {x z : α} (h : dd T rk x z = 0) : x = z := by
  have a := t.cm_le x z
  have b := t.cm_le' x z
  unfold dd at h
  have e1 : cm T rk x z = (wy T rk x).length := by omega
  have e2 : cm T rk z x = (wy T rk z).length := by rw [t.cm_symm z x]; omega
  have m1 : x ∈ wy T rk z := by
    have := (List.length_filter_eq_length_iff).mp e1 x (t.self_mem x)
    simpa using this
  have m2 : z ∈ wy T rk x := by
    have := (List.length_filter_eq_length_iff).mp e2 z (t.self_mem z)
    simpa using this
  rcases t.rk_mem m1 with h | h
  · exact h
  · rcases t.rk_mem m2 with h' | h'
    · exact h'.symm
    · omega
/-- across one door -/
theorem dd_in {s v z : α} (h : par T s = some v) (hz : s ∈ wy T rk z) : dd T rk s z + 1 = dd T rk v z := by
  have e : cm T rk s z = cm T rk v z + 1 := by
    unfold cm; rw [t.wy_some h, List.filter_cons, if_pos (by simpa using hz)]; rfl
  have l : (wy T rk s).length = (wy T rk v).length + 1 := by rw [t.wy_some h]; rfl
  have a := t.cm_le s z
  have b := t.cm_le' s z
  unfold dd; omega
theorem dd_out {s v z : α} (h : par T s = some v) (hz : ¬ s ∈ wy T rk z) : dd T rk s z = dd T rk v z + 1 := by
  have e : cm T rk s z = cm T rk v z := by
    unfold cm; rw [t.wy_some h, List.filter_cons, if_neg (by simpa using hz)]
  have l : (wy T rk s).length = (wy T rk v).length + 1 := by rw [t.wy_some h]; rfl
  have a := t.cm_le v z
  have b := t.cm_le' v z
  unfold dd; omega
end Tree

def adj (T : List (α × Option α)) (x y : α) : Prop := par T x = some y ∨ par T y = some x
/-- z lies behind the door from x to s -/
def bh (T : List (α × Option α)) (rk : α → Nat) (x s z : α) : Prop := if par T s = some x then s ∈ wy T rk z else ¬ x ∈ wy T rk z
instance (T : List (α × Option α)) (rk : α → Nat) (x s z : α) : Decidable (bh T rk x s z) := by unfold bh; infer_instance

theorem adj_symm {x y : α} (h : adj T x y) : adj T y x := h.symm
namespace Tree
variable (t : Tree T rk)
include t
theorem adj_ne {x y : α} (h : adj T x y) : x ≠ y := by
  rintro rfl
  rcases h with h | h <;> (have := (t.par_up h).2; omega)
theorem adj_names {x y : α} (h : adj T x y) : x ∈ T.map (·.1) ∧ y ∈ T.map (·.1) := by
  rcases h with h | h
  · exact ⟨mem_names_of_par h, (t.par_up h).1⟩
  · exact ⟨(t.par_up h).1, mem_names_of_par h⟩
theorem no_both {x s : α} (h : par T x = some s) : ¬ par T s = some x := fun h' => by
  have a := (t.par_up h).2
  have b := (t.par_up h').2
  omega
theorem bh_yes {x s z : α} (h : adj T x s) (b : bh T rk x s z) : dd T rk s z + 1 = dd T rk x z := by
  unfold bh at b
  rcases h with h | h
  · rw [if_neg (t.no_both h)] at b
    exact (t.dd_out h b).symm
  · rw [if_pos h] at b
    exact t.dd_in h b
theorem bh_no {x s z : α} (h : adj T x s) (b : ¬ bh T rk x s z) : dd T rk s z = dd T rk x z + 1 := by
  unfold bh at b
  rcases h with h | h
  · rw [if_neg (t.no_both h)] at b
    exact (t.dd_in h (Decidable.not_not.mp b)).symm
  · rw [if_pos h] at b
    exact t.dd_out h b
theorem bh_of {x s z : α} (h : adj T x s) (e : dd T rk s z + 1 = dd T rk x z) : bh T rk x s z := by
  by_cases b : bh T rk x s z
  · exact b
  · have := t.bh_no h b; omega
theorem bh_flip {x s z : α} (h : adj T x s) : bh T rk s x z ↔ ¬ bh T rk x s z := by
  constructor
  · intro b b'
    have a := t.bh_yes h b'
    have c := t.bh_yes (adj_symm h) b
    omega
  · intro b
    exact t.bh_of (adj_symm h) (t.bh_no h b).symm
/-- behind two doors of one hall lies nothing in common -/
theorem bh_disj {x s u z : α} (h1 : adj T x s) (h2 : adj T x u) (b1 : bh T rk x s z) (b2 : bh T rk x u z) : s = u := by
  unfold bh at b1 b2
  rcases h1 with h1 | h1 <;> rcases h2 with h2 | h2
  · rw [h1] at h2; exact Option.some.inj h2
  · rw [if_neg (t.no_both h1)] at b1
    rw [if_pos h2] at b2
    exact (b1 (t.mem_trans b2 (by rw [t.wy_some h2]; exact List.mem_cons_of_mem _ (t.self_mem x)))).elim
  · rw [if_neg (t.no_both h2)] at b2
    rw [if_pos h1] at b1
    exact (b2 (t.mem_trans b1 (by rw [t.wy_some h1]; exact List.mem_cons_of_mem _ (t.self_mem x)))).elim
  · rw [if_pos h1] at b1
    rw [if_pos h2] at b2
    exact t.chain b1 b2 h1 h2
/-- a door towards another hall -/
theorem toward {x z : α} (hx : x ∈ T.map (·.1)) (hz : z ∈ T.map (·.1)) (ne : x ≠ z) : ∃ s, adj T x s ∧ bh T rk x s z := by
  by_cases h : x ∈ wy T rk z
  · obtain ⟨s, h1, h2⟩ := t.pred h ne
    exact ⟨s, .inr h2, by unfold bh; rw [if_pos h2]; exact h1⟩
  · cases e : par T x with
    | none => exact (h (t.root_mem e hx hz)).elim
    | some u => exact ⟨u, .inl e, by unfold bh; rw [if_neg (t.no_both e)]; exact h⟩
theorem dd_adj {x s z : α} (h : adj T x s) : dd T rk s z + 1 = dd T rk x z ∨ dd T rk s z = dd T rk x z + 1 := by
  by_cases b : bh T rk x s z
  · exact .inl (t.bh_yes h b)
  · exact .inr (t.bh_no h b)
/-- the walk's first step towards, seen from the other end -/
theorem next {x z : α} (hx : x ∈ T.map (·.1)) (hz : z ∈ T.map (·.1)) (ne : z ≠ x) : ∃ a, adj T a z ∧ dd T rk x a + 1 = dd T rk x z := by
  obtain ⟨s, h, b⟩ := t.toward hz hx ne
  exact ⟨s, adj_symm h, by have := t.bh_yes h b; rw [t.dd_symm x s, t.dd_symm x z]; exact this⟩
theorem next_one {x z a b : α} (h1 : adj T a z) (h2 : adj T b z) (e1 : dd T rk x a + 1 = dd T rk x z) (e2 : dd T rk x b + 1 = dd T rk x z) : a = b := by
  rw [t.dd_symm x a, t.dd_symm x z] at e1
  rw [t.dd_symm x b, t.dd_symm x z] at e2
  exact t.bh_disj (adj_symm h1) (adj_symm h2) (t.bh_of (adj_symm h1) e1) (t.bh_of (adj_symm h2) e2)
/-- distances are told by the doors alone -/
theorem dd_unique {f : α → Nat} {z : α} (hz : z ∈ T.map (·.1)) (f0 : f z = 0) (fn : ∀ x, x ∈ T.map (·.1) → x ≠ z → ∃ s, adj T x s ∧ f s + 1 = f x) (fl : ∀ x s, adj T x s → f x ≤ f s + 1) :
    ∀ x, x ∈ T.map (·.1) → f x = dd T rk x z := by
  have le1 : ∀ n x, x ∈ T.map (·.1) → dd T rk x z = n → f x ≤ n := by
    intro n
    induction n with
    | zero =>
      intro x hx e
      have : x = z := t.dd_zero e
      subst this; omega
    | succ n ih =>
      intro x hx e
      have ne : x ≠ z := fun h => by subst h; rw [t.dd_self] at e; omega
      obtain ⟨s, h, b⟩ := t.toward hx hz ne
      have q := t.bh_yes h b
      have := ih s (t.adj_names h).2 (by omega)
      have := fl x s h
      omega
  have le2 : ∀ n x, x ∈ T.map (·.1) → f x = n → dd T rk x z ≤ n := by
    intro n
    induction n with
    | zero =>
      intro x hx e
      by_cases ne : x = z
      · subst ne; rw [t.dd_self]; omega
      · obtain ⟨s, h, b⟩ := fn x hx ne
        omega
    | succ n ih =>
      intro x hx e
      by_cases ne : x = z
      · subst ne; omega
      · obtain ⟨s, h, b⟩ := fn x hx ne
        have := ih s (t.adj_names h).2 (by omega)
        rcases t.dd_adj (z := z) h with q | q <;> omega
  intro x hx
  exact Nat.le_antisymm (le1 _ x hx rfl) (le2 _ x hx rfl)
end Tree
end

/-! ### weights -/
def tot (W : List (α × Int)) : Int := (W.map (·.2)).sum
def costOf (T : List (α × Option α)) (rk : α → Nat) (W : List (α × Int)) (x : α) : Int := (W.map fun p => p.2 * (dd T rk x p.1 : Int)).sum
def bw (T : List (α × Option α)) (rk : α → Nat) (W : List (α × Int)) (x s : α) : Int := (W.map fun p => if bh T rk x s p.1 then p.2 else 0).sum
def wb (T : List (α × Option α)) (rk : α → Nat) (W : List (α × Int)) (x : α) : Int := (W.map fun p => if x ∈ wy T rk p.1 then p.2 else 0).sum

section
variable {T : List (α × Option α)} {rk : α → Nat} {W : List (α × Int)}
theorem sum_le {β : Type} {f g : β → Int} : ∀ {l : List β}, (∀ p ∈ l, f p ≤ g p) → (l.map f).sum ≤ (l.map g).sum
  | [], _ => by simp
  | p :: r, h => by
    rw [List.map_cons, List.map_cons, List.sum_cons, List.sum_cons]
    have a := h p (List.mem_cons_self ..)
    have b := sum_le (l := r) fun q hq => h q (List.mem_cons_of_mem _ hq)
    omega
theorem sum_add {β : Type} {f g : β → Int} : ∀ {l : List β}, (l.map fun p => f p + g p).sum = (l.map f).sum + (l.map g).sum
  | [] => by simp
  | p :: r => by
    rw [List.map_cons, List.map_cons, List.map_cons, List.sum_cons, List.sum_cons, List.sum_cons, sum_add (l := r)]
    omega
theorem sum_congr {β : Type} {f g : β → Int} {l : List β} (h : ∀ p ∈ l, f p = g p) : (l.map f).sum = (l.map g).sum := by
  rw [List.map_congr_left h]
theorem sum_nonneg {β : Type} {f : β → Int} : ∀ {l : List β}, (∀ p ∈ l, 0 ≤ f p) → 0 ≤ (l.map f).sum
  | [], _ => by simp
  | p :: r, h => by
    rw [List.map_cons, List.sum_cons]
    have a := h p (List.mem_cons_self ..)
    have b := sum_nonneg (l := r) fun q hq => h q (List.mem_cons_of_mem _ hq)
    omega

namespace Tree
variable (t : Tree T rk)
include t
theorem bw_low {x s : α} (h : par T s = some x) : bw T rk W x s = wb T rk W s := by
  unfold bw wb
  refine sum_congr fun p _ => ?_
  have e : bh T rk x s p.1 ↔ s ∈ wy T rk p.1 := by unfold bh; rw [if_pos h]
  by_cases b : s ∈ wy T rk p.1
  · rw [if_pos b, if_pos (e.mpr b)]
  · rw [if_neg b, if_neg fun q => b (e.mp q)]
theorem bw_up {x s : α} (h : par T x = some s) : bw T rk W x s = tot W - wb T rk W x := by
  have : bw T rk W x s + wb T rk W x = tot W := by
    unfold bw wb tot
    rw [← sum_add]
    refine sum_congr fun p _ => ?_
    have e : bh T rk x s p.1 ↔ ¬ x ∈ wy T rk p.1 := by unfold bh; rw [if_neg (t.no_both h)]
    by_cases b : x ∈ wy T rk p.1
    · rw [if_pos b, if_neg fun q => (e.mp q) b]; omega
    · rw [if_neg b, if_pos (e.mpr b)]; omega
  omega
/-- halls side by side -/
theorem cost_adj {x s : α} (h : adj T x s) : costOf T rk W s = costOf T rk W x + tot W - 2 * bw T rk W x s := by
  have : costOf T rk W s + (bw T rk W x s + bw T rk W x s) = costOf T rk W x + tot W := by
    unfold costOf bw tot
    rw [← sum_add, ← sum_add, ← sum_add]
    refine sum_congr fun p _ => ?_
    by_cases b : bh T rk x s p.1
    · rw [if_pos b]
      have e := t.bh_yes h b
      have e' : (dd T rk x p.1 : Int) = (dd T rk s p.1 : Int) + 1 := by omega
      rw [e', Int.mul_add, Int.mul_one]; omega
    · rw [if_neg b]
      have e := t.bh_no h b
      have e' : (dd T rk s p.1 : Int) = (dd T rk x p.1 : Int) + 1 := by omega
      rw [e', Int.mul_add, Int.mul_one]; omega
  omega
/-- what lies behind falls from door to door on a way -/
theorem bw_fall (hW : ∀ p ∈ W, 0 ≤ p.2) {a b c z : α} (h1 : adj T a b) (h2 : adj T b c) (b1 : bh T rk a b z) (b2 : bh T rk b c z) : bw T rk W b c ≤ bw T rk W a b := by
  have ne : a ≠ c := fun e => by
    subst e
    exact (t.bh_flip h1).mp b2 b1
  unfold bw
  refine sum_le fun p hp => ?_
  have hp0 := hW p hp
  by_cases q : bh T rk b c p.1
  · have : bh T rk a b p.1 := by
      by_cases r : bh T rk a b p.1
      · exact r
      · have r' := (t.bh_flip h1).mpr r
        exact (ne (t.bh_disj (adj_symm h1) h2 r' q)).elim
    rw [if_pos q, if_pos this]; omega
  · rw [if_neg q]
    by_cases r : bh T rk a b p.1
    · rw [if_pos r]; omega
    · rw [if_neg r]; omega
/-- behind a door that bears no more than half nothing is better -/
theorem beyond (hW : ∀ p ∈ W, 0 ≤ p.2) {z : α} (hz : z ∈ T.map (·.1)) : ∀ (n : Nat) {a b : α}, dd T rk b z = n → adj T a b → bh T rk a b z → 2 * bw T rk W a b ≤ tot W →
    costOf T rk W a ≤ costOf T rk W z ∧ (2 * bw T rk W a b < tot W → costOf T rk W a < costOf T rk W z) := by
  intro n
  induction n with
  | zero =>
    intro a b e h bb le
    have : b = z := t.dd_zero e
    subst this
    have q := t.cost_adj (W := W) h
    exact ⟨by omega, fun lt => by omega⟩
  | succ n ih =>
    intro a b e h bb le
    have ne : b ≠ z := fun q => by subst q; rw [t.dd_self] at e; omega
    obtain ⟨c, h2, b2⟩ := t.toward (t.adj_names h).2 hz ne
    have d2 := t.bh_yes h2 b2
    have fall := t.bw_fall hW h h2 bb b2
    have q := t.cost_adj (W := W) h
    obtain ⟨i1, i2⟩ := ih (by omega) h2 b2 (by omega)
    exact ⟨by omega, fun lt => by have := i2 (by omega); omega⟩
/-- best just by halves -/
theorem best_iff (hW : ∀ p ∈ W, 0 ≤ p.2) {x : α} (hx : x ∈ T.map (·.1)) : (∀ s, adj T x s → 2 * bw T rk W x s ≤ tot W) ↔ ∀ y, y ∈ T.map (·.1) → costOf T rk W x ≤ costOf T rk W y := by
  constructor
  · intro h y hy
    by_cases ne : x = y
    · subst ne; exact Int.le_refl _
    · obtain ⟨s, h1, b⟩ := t.toward hx hy ne
      exact (t.beyond hW hy _ rfl h1 b (h s h1)).1
  · intro h s hs
    have q := t.cost_adj (W := W) hs
    have := h s (t.adj_names hs).2
    omega
/-- at most one door bears more than half -/
theorem heavy_one (hW : ∀ p ∈ W, 0 ≤ p.2) {x s u : α} (h1 : adj T x s) (h2 : adj T x u) (b1 : tot W < 2 * bw T rk W x s) (b2 : tot W < 2 * bw T rk W x u) : s = u := by
  by_cases ne : s = u
  · exact ne
  · have : bw T rk W x s + bw T rk W x u ≤ tot W := by
      unfold bw tot
      rw [← sum_add]
      refine sum_le fun p hp => ?_
      have hp0 := hW p hp
      by_cases q : bh T rk x s p.1
      · have r : ¬ bh T rk x u p.1 := fun r => ne (t.bh_disj h1 h2 q r)
        rw [if_pos q, if_neg r]; omega
      · rw [if_neg q]
        by_cases r : bh T rk x u p.1
        · rw [if_pos r]; omega
        · rw [if_neg r]; omega
    omega
theorem heavy_less {x s : α} (h : adj T x s) (b : tot W < 2 * bw T rk W x s) : costOf T rk W s < costOf T rk W x := by
  have := t.cost_adj (W := W) h; omega
/-- best ones hang together -/
theorem best_next (hW : ∀ p ∈ W, 0 ≤ p.2) {x z : α} (hx : x ∈ T.map (·.1)) (hz : z ∈ T.map (·.1)) (bx : ∀ y, y ∈ T.map (·.1) → costOf T rk W x ≤ costOf T rk W y)
    (bz : ∀ y, y ∈ T.map (·.1) → costOf T rk W z ≤ costOf T rk W y) (ne : x ≠ z) : ∃ s, adj T x s ∧ dd T rk s z + 1 = dd T rk x z ∧ ∀ y, y ∈ T.map (·.1) → costOf T rk W s ≤ costOf T rk W y := by
  obtain ⟨s, h, b⟩ := t.toward hx hz ne
  refine ⟨s, h, t.bh_yes h b, fun y hy => ?_⟩
  have q := t.cost_adj (W := W) h
  have c1 := bx s (t.adj_names h).2
  by_cases lt : 2 * bw T rk W x s < tot W
  · have := (t.beyond hW hz _ rfl h b (by omega)).2 lt
    have := bz x hx
    omega
  · have := bx y hy
    omega
end Tree
end
end
end K66
set_option maxHeartbeats 2000000
/-! Rules that the layer lacks: locks that may stand already, sum(d.values()), d.update(pairs), sorted of (int, text) pairs, sorted of a tuple, len of an empty set. -/
namespace K66
open PySem PySem.Spec PyProof.Rows L2 PpSet
section
variable {X : Cx}
/-! ### what is never reached -/
theorem pe_never {e : Expr} : PE X e (fun _ _ _ => False) := ⟨fun _ _ _ _ _ _ h => h.elim⟩

/-! ### locks that may stand already -/
/-- the heap with d as it was ahead of the lock -/
def res (H : Hp) (d : Addr) (H' : Hp) : Hp := fun b => if b = d then H d else H' b
theorem res_at {H H' : Hp} {d : Addr} : res H d H' d = H d := by unfold res; rw [if_pos rfl]
theorem res_ne {H H' : Hp} {d b : Addr} (h : b ≠ d) : res H d H' b = H' b := by unfold res; rw [if_neg h]
/-- d is a thing u, locked or not -/
def Lk (H : Hp) (d : Addr) (u : HO) : Prop := (H d = some u ∧ Mut (some u)) ∨ ∃ od, H d = some (.frz od u)
@[irreducible] def tLkE (t : TE) : TE := fun σ H Q => ∃ d u, Lk H d u ∧ ∀ od H0, H0 d = some (.frz od u) → (∀ b, b ≠ d → H0 b = H b) → t σ H0 fun v H' => H' d = some (.frz od u) ∧ Q v (res H d H')
@[irreducible] def tLkS (t : TS) : TS := fun D σ H => ∃ d u, Lk H d u ∧ ∀ od H0, H0 d = some (.frz od u) → (∀ b, b ≠ d → H0 b = H b) →
  t ⟨fun σ' H' => H' d = some (.frz od u) ∧ D.nx σ' (res H d H'), fun v H' => H' d = some (.frz od u) ∧ D.rt v (res H d H'), fun σ' H' => H' d = some (.frz od u) ∧ D.bk σ' (res H d H'), fun σ' H' => H' d = some (.frz od u) ∧ D.ct σ' (res H d H')⟩ σ H0
theorem res_upd {H H' : Hp} {d : Addr} {u : HO} (h : H d = some u) : res H d H' = upd H' d u := by
  funext b; unfold res upd; split <;> simp_all
theorem res_self {H H' : Hp} {d : Addr} (h : H' d = H d) : res H d H' = H' := by
  funext b; unfold res; split <;> simp_all
theorem pe_lk {e : Expr} {t : TE} (h : PE X e t) : PE X e (tLkE t) := by
  refine ⟨fun pins s σ H Q I hw => ?_⟩
  unfold tLkE at hw
  obtain ⟨d, u, (⟨hd, mu⟩ | ⟨od, hd⟩), hw⟩ := hw
  · refine (pe_lock h).run pins s σ H Q I ⟨d, u, hd, mu, fun od => ?_⟩
    have q := hw od (upd H d (.frz od u)) upd_same (fun b hb => upd_ne hb)
    simpa only [res_upd hd] using q
  · refine thn (h.run pins s σ H _ I (hw od H hd fun _ _ => rfl)) fun v s1 ⟨x, H1, I2, r, e2, q⟩ => ?_
    rw [res_self (e2.trans hd.symm)] at q
    exact ⟨x, H1, I2, r, q⟩
theorem ps_lk {st : Stmt} {t : TS} (h : PS X st t) : PS X st (tLkS t) := by
  refine ⟨fun pins s σ H D I hw => ?_⟩
  unfold tLkS at hw
  obtain ⟨d, u, (⟨hd, mu⟩ | ⟨od, hd⟩), hw⟩ := hw
  · refine (ps_lock h).run pins s σ H D I ⟨d, u, hd, mu, fun od => ?_⟩
    have q := hw od (upd H d (.frz od u)) upd_same (fun b hb => upd_ne hb)
    simpa only [res_upd hd] using q
  · refine thn (h.run pins s σ H _ I (hw od H hd fun _ _ => rfl)) fun f s1 q => ?_
    cases f with
    | next => obtain ⟨σ', H', I2, e, q⟩ := q; rw [res_self (e.trans hd.symm)] at q; exact ⟨σ', _, I2, q⟩
    | brk => obtain ⟨σ', H', I2, e, q⟩ := q; rw [res_self (e.trans hd.symm)] at q; exact ⟨σ', _, I2, q⟩
    | cont => obtain ⟨σ', H', I2, e, q⟩ := q; rw [res_self (e.trans hd.symm)] at q; exact ⟨σ', _, I2, q⟩
    | ret v => obtain ⟨x, σ', H', I2, r, e, q⟩ := q; rw [res_self (e.trans hd.symm)] at q; exact ⟨x, σ', _, I2, r, q⟩
theorem lkE_of {t : TE} {σ : L2.St} {H : Hp} {Q : VK} (d : Addr) (u : HO) (h : Lk H d u) (k : ∀ od H0, H0 d = some (.frz od u) → (∀ b, b ≠ d → H0 b = H b) → t σ H0 fun v H' => H' d = some (.frz od u) ∧ Q v (res H d H')) : tLkE t σ H Q := by
  unfold tLkE; exact ⟨d, u, h, k⟩
theorem lkS_of {t : TS} {D : Ends} {σ : L2.St} {H : Hp} (d : Addr) (u : HO) (h : Lk H d u) (k : ∀ od H0, H0 d = some (.frz od u) → (∀ b, b ≠ d → H0 b = H b) →
    t ⟨fun σ' H' => H' d = some (.frz od u) ∧ D.nx σ' (res H d H'), fun v H' => H' d = some (.frz od u) ∧ D.rt v (res H d H'), fun σ' H' => H' d = some (.frz od u) ∧ D.bk σ' (res H d H'), fun σ' H' => H' d = some (.frz od u) ∧ D.ct σ' (res H d H')⟩ σ H0) : tLkS t D σ H := by
  unfold tLkS; exact ⟨d, u, h, k⟩
theorem lkS_asg {te : TE} {D : Ends} {σ : L2.St} {H : Hp} {i : Nat} (h : tLkE te σ H fun x H' => D.nx (σ.set i (some x)) H') : tLkS (tAsg te (gName i)) D σ H := by
  unfold tLkE at h
  obtain ⟨d, u, h1, h2⟩ := h
  exact lkS_of d u h1 h2
theorem Lk.of_rd {H : Hp} {d : Addr} {kvs : List (Key × V)} (h : Rd H d (.dK kvs)) : Lk H d (.dK kvs) := h.elim (fun h => .inl ⟨h, True.intro⟩) .inr
/-- what stood ahead of the lock stands behind it -/
theorem same_res {H H0 H' : Hp} {d : Addr} (h : ∀ b, b ≠ d → H0 b = H b) (s : Same H0 H') : Same H (res H d H') := fun b o e => by
  by_cases hb : b = d
  · subst hb; rw [res_at]; exact e
  · rw [res_ne hb]; exact s b o ((h b hb).trans e)

/-! ### name = {..} on one line -/
theorem ps_setDc {i : Nat} {y : Str} {py : Pos} {kx vx tg iter : Expr} {ifs : List Expr} {scope : Scope} {own : List (Str × Nat)} {pos spos : Pos} {wi : TI} {g : TG} {tt : TT} {tk tv : TE} (hc : X.calm = true) (hN : X.N.Nodup) (hy : X.N[i]? = some y) (hyl : X.env.scope.names.lookup y = some .local)
    (hsw : swapsWith (.DictComp kx vx [⟨tg, iter, ifs, 0⟩] scope pos) (some (.Name y py)) spos.line X.env = pure true) (hi : PI X tg iter wi) (ok : BlkOk X.N X.env.scope scope own)
    (hg : ∀ (s : Shared) (H : Hp) (C : Addr) (cl : List (Str × Addr)) (fp : List Addr), PG (X.blk s H scope (compEnvC scope cl C X.env) fp) tg g) (ht : ∀ (s : Shared) (H : Hp) (C : Addr) (cl : List (Str × Addr)) (fp : List Addr), PTs (X.blk s H scope (compEnvC scope cl C X.env) fp) ifs tt)
    (hk : ∀ (s : Shared) (H : Hp) (C : Addr) (cl : List (Str × Addr)) (fp : List Addr), PE (X.blk s H scope (compEnvC scope cl C X.env) fp) kx tk)
    (he : ∀ (s : Shared) (H : Hp) (C : Addr) (cl : List (Str × Addr)) (fp : List Addr), PE (X.blk s H scope (compEnvC scope cl C X.env) fp) vx tv) (hs : ∀ x, foldedSetIterable iter X.env x = pure x := by intro _; rfl) :
    PS X (.Assign [.Name y py] (.DictComp kx vx [⟨tg, iter, ifs, 0⟩] scope pos) spos) (tAsg (tDc wi g tt tk tv (own.map (·.2))) (gName i)) := by
  refine ⟨fun pins s σ H D I h => ?_⟩
  rw [exec_Assign_Name_used _ _ _ _ hsw]
  refine wpAny_bind (wpAny_standAt (wpAny_bind ?_))
  show wpAny _ X.A (do let _ ← comprehension (.DictComp kx vx [⟨tg, iter, ifs, 0⟩] scope pos) scope X.env (firstIterPos [⟨tg, iter, ifs, 0⟩] pos) newDict false (eval iter X.env) (some (assign (.Name y py) X.env))) _ _ s
  have h : tDc wi g tt tk tv (own.map (·.2)) σ H (fun x H1 => gName i x σ H1 D.nx) := h
  refine wpAny_bind (thn (dc_core (Qf := fun _ s' => SP X pins D .next s') hc hN I hi ok hg ht hk he hs h fun L C s' m H' I' q hn f => ?_) fun _ s' hq => wpAny_pure (wpAny_pure hq))
  show wpAny _ _ (assign (.Name y py) X.env (.ref L)) _ _ _
  refine wpAny_assign_Name (store_ok2 (v := V.ref L) I' hN hy (.inl hyl) rfl (fun s2 I2 ⟨a, sb, ha⟩ => ?_) (.inr hyl))
  obtain ⟨f0, f1, f2, f3, f4, f5⟩ := f
  have haC : C ≠ a := by
    rcases ha with z | z
    · rw [z]; exact f1
    · exact fun e => f4 y a z e.symm
  refine ⟨m, hn.sameBut sb haC, fun h3 sb3 => ?_⟩
  exact ⟨_, H', I2.turned (t' := s2.toks) (fun b o hb e => (sb3.2 b hb).trans e) f0 f1 f3 f4 f5, q⟩
theorem swd_true {kx vx : Expr} {gs : List Comprehension} {scope : Scope} {pos py : Pos} {y : Str} {l : Nat} {env : Env} (hk : env.scope.kind = .function) (hy : env.scope.names.lookup y = some .local) (hl : (py.line == pos.line) = true)
    (ha : (scope.names.any fun (n, k) => n == y && (k == .local || k == .cell)) = false) : swapsWith (.DictComp kx vx gs scope pos) (some (.Name y py)) l env = pure true := by
  have ky : env.kindOf y = some .local := hy
  have hb : env.blockKind = .function := by unfold Env.blockKind; rw [hk]; rfl
  unfold swapsWith
  simp only [hb, ky, ha, Expr.pos, hl]
  rfl

/-! ### sum(d.values()) -/
def tSumVals (td : TE) : TE := fun σ H Q => td σ H fun x H1 => ∃ (a : Addr) (kvs : List (Key × V)) (is : List Int), x = V.ref a ∧ Rd H1 a (.dK kvs) ∧ kvs.map (·.2) = is.map V.int ∧ Q (.int is.sum) H1
theorem pe_sumVals {o : Expr} {p pos apos mpos : Pos} {td : TE} (hc : X.calm = true) (hg : Gl X "sum") (hm : X.mg "sum" = none) (hd : PE X o td) (hbase : attributeBase o "values" X.env (eval o X.env) = eval o X.env := by rfl) (hline : (apos.endLine == mpos.line) = true := by rfl)
    (hse : starEach [Expr.Call (.Attribute o "values" apos) [] [] mpos] X.env = [(false, eval (Expr.Call (.Attribute o "values" apos) [] [] mpos) X.env)] := by rfl) :
    PE X (.Call (.Name "sum" p) [.Call (.Attribute o "values" apos) [] [] mpos] [] pos) (tSumVals td) := by
  refine ⟨fun pins s σ H Q I h => ?_⟩
  refine wpAny_Call_Name_kw (ld_blt I hg hm (u := .builtin "sum") (by first | rfl | decide +kernel) ?_ (by first | decide +kernel | decide) (by first | decide +kernel | decide))
  rw [hse]
  refine PySem.callWith_builtin1 (wpAny_Call_method0_late hbase hline (thn (hd.run pins s σ H _ I h) fun v s1 ⟨x, H1, I1, r1, a, kvs, is, ex, ha, hv, q⟩ => ?_))
  subst ex
  obtain rfl : v = Value.ref a := r1
  obtain ⟨_, hsys, vs, rel, dof⟩ := dk_rd I1.hok ha
  obtain ⟨ep, dat⟩ := dof.dictAt
  have dat' := dat
  obtain ⟨ob, es, ho, ex, hdat, hko, hpr, hnd⟩ := dat'
  refine ⟨"dict", "dict.values", PySem.F.plainAttrs_dict, PySem.F.slot_dict_values, PySem.F.type_dict_values, ⟨ob, ho, ex.1⟩, fun b e => ?_, Calls.callWith_builtin rfl (PySem.evalArgs_none ?_)⟩
  · cases e
    exact ⟨ob, ho, ex.2.1⟩
  refine call_meetsIn PySem.F.slot_dict_values ⟨ob, ho, ex.1⟩ PySem.F.entry_dict_values (PySem.F.args_dict_values_1 _) (meets_dict_values (mixKind X.prog X.w) a hsys) ⟨⟨vs, dof⟩, ?_⟩
  have k1 : ∀ b u, s1.heap.get? b = some u → (s1.heap.push { cls := .type "dict_values", data := .fields #[.ref a] }).get? b = some u := fun b u e => Heap.get?_push_of_some _ e
  have dat1 : (s1.heap.push { cls := .type "dict_values", data := .fields #[.ref a] }).DictAt (mixKind X.prog X.w) a vs ep := dat.keep k1
  have hlv : vs.length = is.length := by
    have e1 := congrArg List.length hv
    rw [List.length_map, List.length_map] at e1
    rw [← e1]
    exact (KV.length rel).symm
  have hval : ∀ (i : Nat) (v : Value), (∃ k, vs[i]? = some (k, v)) → ∃ t, v = Value.int (is.getD i 0) t := fun i v ⟨k, hk⟩ => by
    obtain ⟨x, h1, h2⟩ := KV.at' rel hk
    have e1 : (kvs.map (·.2))[i]? = some x := by rw [List.getElem?_map, h1] <;> rfl
    rw [hv, List.getElem?_map] at e1
    obtain ⟨j, hj, e2⟩ := Option.map_eq_some_iff.mp e1
    subst e2
    obtain ⟨t, e3⟩ := h2
    refine ⟨t, ?_⟩
    rw [e3, List.getD_eq_getElem?_getD, hj] <;> rfl
  refine call_sum_walkG (wpAny_pyIter_values (v := s1.heap.objs.size) (d := a) ⟨_, Heap.get?_push_size _ rfl, rfl, rfl⟩ dat1 ?_)
  have hlt : a < s1.heap.objs.size := Heap.lt_size ho
  have hsz : (s1.heap.push { cls := .type "dict_values", data := .fields #[.ref a] }).objs.size = s1.heap.objs.size + 1 := Heap.size_push _ _
  refine ⟨_, _, _, _, _, _, (fun i => is.getD i 0), rfl, Walks.dictValues (knd := mixKind X.prog X.w) (A := X.A.in1) (I.ok.hd hc) (s1.heap.push { cls := .type "dict_values", data := .fields #[.ref a] }).objs.size a (by rw [hsz]; exact Nat.ne_of_lt (Nat.lt_succ_of_lt hlt)) vs ep,
    ⟨⟨_, Heap.get?_push_size _ rfl, rfl, rfl⟩, dat1.keep fun b u e => Heap.get?_push_of_some _ e⟩, fun b hb => ?_, hval, fun h' tk t' hk => ?_⟩
  · show b < ((s1.heap.push _).push _).objs.size
    rw [Heap.size_push, Heap.size_push]
    rw [hsz] at hb
    rcases List.mem_cons.mp hb with e | hb
    · rw [e]
      exact Nat.lt_succ_self _
    · have e : b = a := List.mem_singleton.mp hb
      rw [e]
      exact Nat.lt_succ_of_lt (Nat.lt_succ_of_lt hlt)
  · refine ⟨.int is.sum, H1, I1.kept (t' := tk) fun b u e => hk b u (fun hmem => ?_) (Heap.get?_push_of_some _ (k1 b u e)), ⟨t', ?_⟩, q⟩
    · have e1 : b = (s1.heap.push { cls := .type "dict_values", data := .fields #[.ref a] }).objs.size := List.mem_singleton.mp hmem
      have e2 := Heap.lt_size e
      rw [hsz] at e1
      rw [e1] at e2
      exact absurd e2 (Nat.not_lt.mpr (Nat.le_succ _))
    · rw [PyProof.Rows.preSum_getD, hlv, List.take_of_length_le (Nat.le_refl _)]

/-! ### d.update(pairs) -/
def rUpdate (K : PySem.W.Frag) : V → List V → Hp → VK → Prop := fun x vs H Q => ∃ (d a : Addr) (ps : List Addr) (acc kvs : List (Key × V)), x = .ref d ∧ vs = [.ref a] ∧ H d = some (.dK acc) ∧ SqL K H a (ps.map V.ref) ∧
  Paired (fun p kv => SqT K H p [kV kv.1, kv.2]) ps kvs ∧ acc.length + kvs.length ≤ sizeLine ∧ Q .non (upd H d (.dK (mergeK acc kvs)))
theorem PairItems_of {h : Heap} : ∀ {ps : List Addr} {prs : List (Key × Value)}, prs.length = ps.length → (∀ (j : Nat) (q : Key × Value), prs[j]? = some q → ∃ (b : Addr) (u : Value), ps[j]? = some b ∧ IsTup h b #[u, q.2] ∧ keyIs q.1 u = true) →
    ∃ us : List (Value × Value), us.length = prs.length ∧ (∀ (j : Nat) (k v : Value), us[j]? = some (k, v) → ∃ q : Key × Value, prs[j]? = some q ∧ v = q.2 ∧ keyIs q.1 k = true ∧ ∃ b : Addr, ps[j]? = some b ∧ IsTup h b #[k, v])
  | [], [], _, _ => ⟨[], rfl, fun j k v e => by simp at e⟩
  | p :: ps, q :: prs, hl, h => by
    obtain ⟨b, u, e1, e2, e3⟩ := h 0 q rfl
    obtain ⟨us, l, r⟩ := PairItems_of (ps := ps) (prs := prs) (by simpa using hl) fun j q' e => h (j + 1) q' (by simpa using e)
    refine ⟨(u, q.2) :: us, by simp [l], fun j k v e => ?_⟩
    cases j with
    | zero =>
      have e' : (u, q.2) = (k, v) := Option.some.inj e
      cases e'
      exact ⟨q, rfl, rfl, e3, b, e1, e2⟩
    | succ j => exact r j k v (by simpa using e)
  | [], _ :: _, hl, _ => by simp at hl
  | _ :: _, [], hl, _ => by simp at hl
theorem mt_update (hcalm : X.calm = true) : MtR X "dict.update" (rUpdate X.K) := by
  intro pins s σ H x vs v us Q I rx rv h
  obtain ⟨d, a, ps, acc, kvs, ex, ev, hd, hq, hp, hz, q⟩ := h
  subst ex
  subst ev
  obtain rfl : v = Value.ref d := rx
  obtain ⟨u, eu, ru⟩ := Vals.one rv
  subst eu
  obtain rfl : u = Value.ref a := ru
  obtain ⟨its, rvl, pl, hzl⟩ := I.list hq
  have ei := refs_at rvl
  subst ei
  obtain ⟨prs, rel, hl, hpr⟩ := pairs_of I hp
  obtain ⟨us, ul, ur⟩ := PairItems_of hl hpr
  obtain ⟨zd, hsys, vacc, racc, dof⟩ := dk_of I.hok hd
  obtain ⟨o, n, ho, hc, hdn, hdat⟩ := pl
  have hne : a ≠ d := by
    rintro rfl
    obtain ⟨ob, _, _, h1, h2, _⟩ := dof
    rw [ho] at h1; cases h1
    have h3 := h2.1
    rw [hc] at h3
    exact absurd h3 (by decide)
  have lk : kvs.length = prs.length := rel.length
  refine PySem.call_update_pairs (knd := mixKind X.prog X.w) (acc := vacc) (kvs := prs) (PairArg.list a (ps.map Value.ref).toArray (fun j => ps.getD j 0) us) (I.ok.hd hcalm) ⟨⟨o, n, ho, hc, hdn, hdat⟩, by simp [ul, hl], fun j k v e => ?_⟩ (fun hm => ?_) ⟨by rw [ul], fun i key v e => ?_⟩ dof ?_ fun h' tk hd' k => ?_
  · obtain ⟨q', e1, e2, e3, b, e4, e5⟩ := ur j k v e
    have eb : ps.getD j 0 = b := by rw [List.getD_eq_getElem?_getD, e4]; rfl
    show (List.map Value.ref ps).toArray[j]? = some (Value.ref (ps.getD j 0)) ∧ PairAt s.heap (ps.getD j 0) k v
    rw [eb]
    refine ⟨by simp [e4], .inl ?_⟩
    obtain ⟨ob, hb1, hb2, m, hb3⟩ := e5
    exact ⟨ob, hb1, hb2, m, hb3⟩
  · rcases List.mem_cons.mp hm with e | hm
    · exact hne e.symm
    · obtain ⟨j, hj, e⟩ := List.mem_map.mp hm
      have hj' := List.mem_range.mp hj
      obtain ⟨⟨k, v⟩, hkv⟩ : ∃ p, us[j]? = some p := ⟨us[j], List.getElem?_eq_getElem hj'⟩
      obtain ⟨q', e1, e2, e3, b, e4, e5⟩ := ur j k v hkv
      have eb : ps.getD j 0 = b := by rw [List.getD_eq_getElem?_getD, e4]; rfl
      rw [eb] at e
      obtain ⟨ob, hb1, hb2, m, hb3⟩ := e5
      obtain ⟨ob', _, _, h1, h2, _⟩ := dof
      rw [← e, hb1] at h1; cases h1
      have h3 := h2.1
      rw [hb2] at h3
      exact absurd h3 (by decide)
  · obtain ⟨q', e1, e2, e3, b, e4, e5⟩ := ur i key v e
    exact ⟨q'.1, by rw [e1, e2], e3⟩
  · have := KV.length racc
    omega
  · have hlen : (mergeK acc kvs).length ≤ sizeLine := Nat.le_trans (length_mergeK kvs acc) hz
    refine ⟨.non, _, ?_, rfl, q⟩
    have he : ∃ u, h'.get? d = some u := let ⟨q, _, _, hq, _⟩ := hd'; ⟨q, hq⟩
    exact I.write (x := d) (e := d) (by rw [hd]; exact True.intro) (.inl rfl) (fun b u hb hu => k b u hb (by simp) hu) he (dk_new hlen hsys (KV.merge rel racc) hd')

/-! ### sorted of pairs (int, text) -/
def rSortIS (K : PySem.W.Frag) : List V → Hp → VK → Prop := fun vs H Q => ∃ (a : Addr) (ps : List ((Int × Str) × Addr)), vs = [V.ref a] ∧ SqL K H a (ps.map fun p => V.ref p.2) ∧ (∀ p ∈ ps, H p.2 = some (.tup [.int p.1.1, .str p.1.2])) ∧ ps.length ≤ sizeLine ∧
  ∀ (ys : List ((Int × Str) × Addr)) (p : Addr), ys.Perm ps → H p = none → Q (.ref p) (upd H p (.lst (ys.map fun p => V.ref p.2)))
theorem vals_each : ∀ {ps : List ((Int × Str) × Addr)} {us : List Value}, Vals (ps.map fun p => V.ref p.2) us → PySem.W.EachIs (fun v (b : (Int × Str) × Addr) => v = Value.ref b.2) us ps
  | [], us, r => by
    rw [List.map_nil] at r
    cases r
    exact .nil
  | p :: ps, us, r => by
    rw [List.map_cons] at r
    cases r with
    | cons h t => exact .cons h (vals_each t)
theorem each_vals : ∀ {ps : List ((Int × Str) × Addr)} {us : List Value}, PySem.W.EachIs (fun v (b : (Int × Str) × Addr) => v = Value.ref b.2) us ps → Vals (ps.map fun p => V.ref p.2) us
  | _, _, .nil => .nil
  | _, _, .cons h t => .cons h (each_vals t)
theorem cr_sortIS (hu : X.A.units + 64 < cLine) : CallR X (.builtin "sorted") (rSortIS X.K) := by
  intro pins s σ H vs us Q I r h
  obtain ⟨a, ps, rfl, hs, ht, hz, q⟩ := h
  obtain ⟨its, rv, hl, _⟩ := I.list hs
  rw [Vals.ref1 r]
  have ev := vals_each rv
  have er : PySem.W.EachIs (fun v (b : (Int × Str) × Addr) => ∃ as, Reads s.heap v (PyData.tuple [.int b.1.1, .str b.1.2]) as) its ps := by
    have hm : ∀ (l : List ((Int × Str) × Addr)) (us : List Value), (∀ p ∈ l, p ∈ ps) → PySem.W.EachIs (fun v (b : (Int × Str) × Addr) => v = Value.ref b.2) us l → PySem.W.EachIs (fun v (b : (Int × Str) × Addr) => ∃ as, Reads s.heap v (PyData.tuple [.int b.1.1, .str b.1.2]) as) us l := by
      intro l us hsub e
      induction e with
      | nil => exact .nil
      | @cons v b vs bs h t ih =>
        refine .cons ?_ (ih fun p hp => hsub p (List.mem_cons_of_mem _ hp))
        subst h
        obtain ⟨_, its, r2, o, h1, h2, n, h3⟩ := (show ObjOk X.prog X.w H s.heap b.2 (.tup [.int b.1.1, .str b.1.2]) from I.hok _ _ (ht b (hsub b (List.mem_cons_self ..))))
        cases r2 with
        | cons ra r3 =>
          cases r3 with
          | cons rb r4 =>
            cases r4
            obtain ⟨t1, rfl⟩ := ra
            obtain ⟨t2, rfl⟩ := rb
            exact ⟨_, Reads.tuple h1 h2 h3 (.cons (.int _ _) (.cons (.str _ _) .nil))⟩
    exact hm ps its (fun _ h => h) ev
  refine PySem.W.sorted_data (enc := fun b : (Int × Str) × Addr => PyData.tuple [.int b.1.1, .str b.1.2]) hl.isList ev er (PySem.W.AllAlike.of fun b b' => by simp [PySem.W.alike, PySem.W.alikeAll]) (PySem.W.Sortable.tuples fun b => ⟨_, _, rfl⟩) hz (fun b _ => ?_) fun out ho eo => ?_
  · have : (PyData.tuple [.int b.1.1, .str b.1.2]).depth ≤ 2 := by simp [PyData.depth, PyData.depthAll]
    omega
  · have hp : (ps.mergeSort (PySem.W.dataLe false fun b : (Int × Str) × Addr => PyData.tuple [.int b.1.1, .str b.1.2])).Perm ps := List.mergeSort_perm ps _
    obtain ⟨ep, he'⟩ := PyProof.Rows.sortedAll_at s.heap its (List.toArray out)
    have hlen : ((ps.mergeSort (PySem.W.dataLe false fun b : (Int × Str) × Addr => PyData.tuple [.int b.1.1, .str b.1.2])).map fun p => V.ref p.2).length ≤ sizeLine := by
      rw [List.length_map, hp.length_eq]; exact hz
    exact ⟨.ref _, upd H (s.heap.objs.size + 1) (.lst ((ps.mergeSort (PySem.W.dataLe false fun b : (Int × Str) × Addr => PyData.tuple [.int b.1.1, .str b.1.2])).map fun p => V.ref p.2)), I.laid (t' := s.toks) (fun _ _ => PyProof.Rows.sortedAll_old) (Nat.le_succ _) ⟨hlen, out, ep, each_vals eo, he'⟩, rfl, q _ _ hp (I.hok.fresh (Nat.le_succ _))⟩

/-! ### len of a dict that may be locked -/
theorem call_lenR : CallR X (.builtin "len") (fun xs H Q => ∃ a kvs, xs = [V.ref a] ∧ Rd H a (.dK kvs) ∧ Q (.int kvs.length) H) := by
  intro pins s σ H xs us Q I r h
  obtain ⟨a, kvs, rfl, ha, q⟩ := h
  obtain ⟨u, rfl, ru⟩ := vals1 r
  cases ru
  exact d_len I ha fun t s' I' => ⟨.int kvs.length, H, I', ⟨t, rfl⟩, q⟩

/-! ### len of an empty set -/
theorem call_lenSB : CallR X (.builtin "len") (fun xs H Q => ∃ (a : Addr) (S : Bool → Bool) (n : Nat), xs = [V.ref a] ∧ H a = some (SetBO X.w a S n) ∧ Q (.int n) H) := by
  intro pins s σ H xs us Q I r h
  obtain ⟨a, S, n, rfl, ha, q⟩ := h
  rw [Vals.ref1 r]
  obtain ⟨o, es, ep, t, ho, hex, hd, _, _, _, hsz, hf, hn, _, _⟩ := setBO_get I ha
  have hb : (es.size : Int) < 2 ^ 63 := by
    have e : scanBound ≤ 2 ^ 63 := by decide
    omega
  exact PySem.call_len_set ho hex hd hf hb ⟨.int n, H, I.tok _, ⟨_, by rw [hn]⟩, q⟩

/-! ### sorted of a tuple of texts -/
def rSortedTS (K : PySem.W.Frag) : List V → Hp → VK → Prop := fun vs H Q => ∃ (a : Addr) (xs : List Str), vs = [V.ref a] ∧ SqT K H a (xs.map V.str) ∧ xs.length < 64 ∧
  ∀ (ys : List Str) (p : Addr), ys.Perm xs → sortedS ys = true → H p = none → Q (.ref p) (upd H p (.lst (ys.map V.str)))
theorem cr_sortedTS : CallR X (.builtin "sorted") (rSortedTS X.K) := by
  intro pins s σ H vs us Q I r h
  obtain ⟨a, xs, rfl, hs, h64, q⟩ := h
  obtain ⟨its, rv, pl, hz⟩ := I.tuple hs
  rw [Vals.ref1 r]
  obtain ⟨o, ho, hc, n, hd⟩ := pl
  have hS : StrsAre its xs := rv.strs
  have hal : its.length = xs.length := by
    have z := rv.length
    rw [List.length_map] at z
    exact z.symm
  refine Calls.call_function_entry PyProof.Rows.kind_sorted PyProof.Rows.plain_sorted PyProof.Rows.entry_sorted (PyProof.Rows.args_sorted1 _) ?_
  unfold Builtin.«sorted»
  refine wpAny_bind (m := checkCount "sorted" 1 1 _) (wpAny_pure ?_)
  refine wpAny_bind (PySem.wpAny_collect_seq a (T := "tuple") (.inr rfl) ho hc hd (fun h' hk => ?_) (by rw [List.size_toArray, hal, sizeLine_eq]; omega))
  have I1 : Inv X pins σ H { s with heap := h' } := I.kept (t' := s.toks) hk
  refine wpAny_bind (wpAny_newList ?_ (by rw [List.toList_toArray, hal, sizeLine_eq]; omega))
  have hoL : (h'.push (seqObj "list" its.toArray.toList.toArray 0)).get? h'.objs.size = some (seqObj "list" its.toArray.toList.toArray 0) := Heap.get?_push_size _ rfl
  rw [List.toList_toArray] at hoL ⊢
  show wpAny _ _ _ _ _ { s with heap := h'.push (seqObj "list" its.toArray 0) }
  refine wpAny_bind (wpAny_holding (wpAny_call_entry PyProof.Rows.slot_list_sort ⟨_, hoL, rfl⟩ PyProof.Rows.entry_list_sort
    (list_sort_treeK strKind_oneLt (s := { s with heap := h'.push (seqObj "list" its.toArray 0) }) hoL hS.keysOf (fun v₁ v₂ rest e => keyKind_strs (by rw [← e]; exact hS)) (by rw [hal]; exact h64) fun st' hp hs => ⟨_, rfl, ?_⟩)
    (PyProof.Rows.args_list_sort _)))
  obtain ⟨ys, g1, g2, g3⟩ := sorted_out_str hS hp hs
  obtain ⟨e', he'⟩ := PyProof.Rows.sortedHeap_at (vs := its) (out := (arrOf st').map (·.2)) hoL
  have hlen : (ys.map V.str).length ≤ sizeLine := by
    rw [List.length_map, g2.length_eq]
    exact Nat.le_trans (Nat.le_of_lt h64) (by decide)
  refine wpAny_pure ⟨_, rfl, .ref h'.objs.size, upd H h'.objs.size (.lst (ys.map V.str)), I1.laid (t' := s.toks) (fun b u e => ?_) (Nat.le_refl _)
    (show ObjOk X.prog X.w _ _ _ (.lst (ys.map V.str)) from ⟨hlen, ((arrOf st').map (·.2)).toList, e', vals_of_strs g1, by rw [Array.toArray_toList]; exact he'⟩), rfl, q ys _ g2 g3 (I1.hok.fresh (Nat.le_refl _))⟩
  have hb : b < h'.objs.size := Heap.lt_size e
  rw [PyProof.Rows.sortedHeap_old (Nat.ne_of_lt hb) (by rw [size_push']; exact Nat.lt_succ_of_lt hb)]
  exact Heap.get?_push_of_some _ e
end
end K66
set_option maxHeartbeats 4000000
/-! Comprehensions and loops in the forms that the program has. -/
namespace K66
open PySem PySem.Spec PyProof.Rows L2
theorem same_upd {H : Hp} {p : Addr} {o : HO} (h : H p = none) : Same H (upd H p o) := fun b x e => by
  rw [upd_ne (ne_of_none e h)]; exact e
theorem same_upd' {H H' : Hp} {p : Addr} {o : HO} (s : Same H H') (h : H p = none) : Same H (upd H' p o) := fun b x e => by
  rw [upd_ne (ne_of_none e h)]; exact s b x e
theorem _root_.L2.Same.rd {H H' : Hp} {a : Addr} {u : HO} (s : Same H H') (h : Rd H a u) : Rd H' a u := h.elim (fun h => .inl (s _ _ h)) fun ⟨o, h⟩ => .inr ⟨o, s _ _ h⟩
theorem SqL.of' {K : PySem.W.Frag} {H : Hp} {a : Addr} {xs : List V} (h : H a = some (.lst xs)) : SqL K H a xs := .inl (.inl h)
theorem SqT.of' {K : PySem.W.Frag} {H : Hp} {a : Addr} {xs : List V} (h : H a = some (.tup xs)) : SqT K H a xs := .inl (.inl h)
theorem _root_.L2.Same.sqt {K : PySem.W.Frag} {H H' : Hp} {a : Addr} {xs : List V} (s : Same H H') (h : SqT K H a xs) : SqT K H' a xs := by
  rcases h with (h | ⟨o, h⟩) | h
  · exact .inl (.inl (s _ _ h))
  · exact .inl (.inr ⟨o, s _ _ h⟩)
  · exact .inr h
/-- a locked heap's things, but the locked one -/
theorem lk_same {H H0 : Hp} {d : Addr} (h : ∀ b, b ≠ d → H0 b = H b) {b : Addr} {o : HO} (e : H b = some o) (n : b ≠ d) : H0 b = some o := (h b n).trans e
theorem lk_free {H H0 : Hp} {d : Addr} {u : HO} (hd : H0 d = some u) (h : ∀ b, b ≠ d → H0 b = H b) {b : Addr} (e : H0 b = none) : H b = none := by
  rw [← h b fun q => by rw [q, hd] at e; cases e]; exact e
theorem res_new {H H0 H' : Hp} {d p : Addr} {u : HO} (hd : H0 d = some u) (e : H0 p = none) : res H d H' p = H' p := res_ne fun q => by rw [q, hd] at e; cases e

section
variable {α : Type}
theorem range_filterMap {β : Type} (F : α → Option β) : ∀ l : List α, ∀ i, i ≤ l.length → (l.take i).filterMap F ++ (l.drop i).filterMap F = l.filterMap F := fun l i _ => by
  rw [← List.filterMap_append, List.take_append_drop]
theorem take_fm {β : Type} (F : α → Option β) {l : List α} {i : Nat} {a : α} (h : l[i]? = some a) : (l.take (i + 1)).filterMap F = (l.take i).filterMap F ++ (F a).toList := by
  rw [List.take_add_one, h, List.filterMap_append]
  congr 1
variable {J : It} {n : Nat} {G : Hp → Prop} {Y : Nat → Hp → V → Hp → Prop} {g : TG} {tt : TT} {te tk tv : TE} {vs : List Nat} {σ : L2.St} {H1 : Hp} {D : Addr} {Qd : Hp → Prop}
/-- a comprehension that leaves the heap's things as they are: items by F of the source's items -/
theorem lc_src (wk : Walk J n G Y) (src : List α) (F : α → Option V) (hn : n = src.length) (hz : n ≤ sizeLine) (hD : H1 D = none) (hG : ∀ H, Same H1 H → G H)
    (hs : ∀ (i : Nat) (a : α) (x : V) (H H' : Hp) (Kt : VK) (Kn : Hp → Prop), src[i]? = some a → Same H1 H → Y i H x H' → (∀ y H4, F a = some y → Same H H4 → Kt y H4) → (∀ H3, F a = none → Same H H3 → Kn H3) →
      g x (wipe σ vs) H' fun σ2 H2 => wipe σ2 vs = wipe σ vs ∧ tt σ2 H2 fun b H3 => if b = true then te σ2 H3 Kt else Kn H3)
    (hd : ∀ H, Same H1 H → H D = some (.lst (src.filterMap F)) → Qd H) :
    ∃ W : Nat → Nat → Hp → Prop, (∃ m, W 0 m (upd H1 D (.lst []))) ∧ ∀ i m H, W i m H →
      (J.stop i H ∧ Qd H) ∨ (J.go i H ∧ ∃ Nx : Hp → Prop, (∀ H', Nx H' → ∃ m', m' < m ∧ W (i + 1) m' H') ∧ ∀ x H', J.yld i H x H' → g x (wipe σ vs) H' fun σ2 H2 => wipe σ2 vs = wipe σ vs ∧ tt σ2 H2 fun b H3 =>
        if b = true then te σ2 H3 fun y H4 => ∃ acc, H4 D = some (.lst acc) ∧ acc.length < sizeLine ∧ Nx (upd H4 D (.lst (acc ++ [y]))) else Nx H3) := by
  subst hn
  refine lc_it wk (fun i H => Same H1 H ∧ H D = some (.lst ((src.take i).filterMap F))) ⟨same_upd hD, upd_same⟩ (fun i H _ p => hG H p.1) (fun i x H H' hi p y => ?_) (fun H p => ?_)
  · obtain ⟨p1, p2⟩ := p
    have ha : src[i]? = some src[i] := List.getElem?_eq_getElem hi
    refine hs i src[i] x H H' _ _ ha p1 y (fun y' H4 hf s4 => ?_) (fun H3 hf s3 => ?_)
    · refine ⟨_, s4 _ _ p2, ?_, same_upd' (p1.trans s4) hD, ?_⟩
      · refine Nat.lt_of_le_of_lt (List.length_filterMap_le _ _) ?_
        rw [List.length_take]; omega
      · rw [upd_same, take_fm F ha, hf]; rfl
    · exact ⟨p1.trans s3, by rw [s3 _ _ p2, take_fm F ha, hf]; simp⟩
  · obtain ⟨p1, p2⟩ := p
    rw [List.take_of_length_le (Nat.le_refl _)] at p2
    exact hd H p1 p2
/-- .. without tests -/
theorem lc_map (wk : Walk J n G Y) (src : List α) (F : α → V) (hn : n = src.length) (hz : n ≤ sizeLine) (hD : H1 D = none) (hG : ∀ H, Same H1 H → G H)
    (hs : ∀ (i : Nat) (a : α) (x : V) (H H' : Hp) (Kt : VK), src[i]? = some a → Same H1 H → Y i H x H' → (∀ H4, Same H H4 → Kt (F a) H4) →
      g x (wipe σ vs) H' fun σ2 H2 => wipe σ2 vs = wipe σ vs ∧ te σ2 H2 Kt)
    (hd : ∀ H, Same H1 H → H D = some (.lst (src.map F)) → Qd H) :
    ∃ W : Nat → Nat → Hp → Prop, (∃ m, W 0 m (upd H1 D (.lst []))) ∧ ∀ i m H, W i m H →
      (J.stop i H ∧ Qd H) ∨ (J.go i H ∧ ∃ Nx : Hp → Prop, (∀ H', Nx H' → ∃ m', m' < m ∧ W (i + 1) m' H') ∧ ∀ x H', J.yld i H x H' → g x (wipe σ vs) H' fun σ2 H2 => wipe σ2 vs = wipe σ vs ∧ tYes σ2 H2 fun b H3 =>
        if b = true then te σ2 H3 fun y H4 => ∃ acc, H4 D = some (.lst acc) ∧ acc.length < sizeLine ∧ Nx (upd H4 D (.lst (acc ++ [y]))) else Nx H3) := by
  subst hn
  refine lc_it wk (fun i H => Same H1 H ∧ H D = some (.lst ((src.take i).map F))) ⟨same_upd hD, upd_same⟩ (fun i H _ p => hG H p.1) (fun i x H H' hi p y => ?_) (fun H p => ?_)
  · obtain ⟨p1, p2⟩ := p
    have ha : src[i]? = some src[i] := List.getElem?_eq_getElem hi
    simp only [tYes, if_true]
    refine hs i src[i] x H H' _ ha p1 y (fun H4 s4 => ?_)
    refine ⟨_, s4 _ _ p2, ?_, same_upd' (p1.trans s4) hD, ?_⟩
    · rw [List.length_map, List.length_take]; omega
    · rw [upd_same, List.take_add_one, ha, List.map_append]; rfl
  · obtain ⟨p1, p2⟩ := p
    rw [List.take_of_length_le (Nat.le_refl _)] at p2
    exact hd H p1 p2
/-- .. whose items are new tuples -/
theorem lc_tup' (wk : Walk J n G Y) (src : List α) (F : α → List V) (hn : n = src.length) (hz : n ≤ sizeLine) (hD : H1 D = none) (hG : ∀ H, Same H1 H → G H)
    (hs : ∀ (i : Nat) (a : α) (x : V) (H H' : Hp) (Kt : VK), src[i]? = some a → Same H1 H → Y i H x H' → (∀ p H4, Same H H4 → H4 p = none → Kt (.ref p) (upd H4 p (.tup (F a)))) →
      g x (wipe σ vs) H' fun σ2 H2 => wipe σ2 vs = wipe σ vs ∧ te σ2 H2 Kt)
    (hd : ∀ (H : Hp) (as : List Addr), Same H1 H → H D = some (.lst (as.map V.ref)) → Paired (fun p a => H p = some (.tup (F a)) ∧ H1 p = none) as src → Qd H) :
    ∃ W : Nat → Nat → Hp → Prop, (∃ m, W 0 m (upd H1 D (.lst []))) ∧ ∀ i m H, W i m H →
      (J.stop i H ∧ Qd H) ∨ (J.go i H ∧ ∃ Nx : Hp → Prop, (∀ H', Nx H' → ∃ m', m' < m ∧ W (i + 1) m' H') ∧ ∀ x H', J.yld i H x H' → g x (wipe σ vs) H' fun σ2 H2 => wipe σ2 vs = wipe σ vs ∧ tYes σ2 H2 fun b H3 =>
        if b = true then te σ2 H3 fun y H4 => ∃ acc, H4 D = some (.lst acc) ∧ acc.length < sizeLine ∧ Nx (upd H4 D (.lst (acc ++ [y]))) else Nx H3) := by
  subst hn
  have snoc : ∀ {R : Addr → α → Prop} {as : List Addr} {l : List α} {p : Addr} {a : α}, Paired R as l → R p a → Paired R (as ++ [p]) (l ++ [a]) := fun h hr => by
    induction h with
    | nil => exact .cons hr .nil
    | cons h1 _ ih => exact .cons h1 ih
  refine lc_it wk (fun i H => Same H1 H ∧ ∃ as : List Addr, H D = some (.lst (as.map V.ref)) ∧ Paired (fun p a => H p = some (.tup (F a)) ∧ H1 p = none) as (src.take i)) ⟨same_upd hD, [], upd_same, .nil⟩ (fun i H _ p => hG H p.1) (fun i x H H' hi p y => ?_) (fun H p => ?_)
  · obtain ⟨p1, as, p2, p3⟩ := p
    have ha : src[i]? = some src[i] := List.getElem?_eq_getElem hi
    simp only [tYes, if_true]
    refine hs i src[i] x H H' _ ha p1 y (fun q H4 s4 nq => ?_)
    have nD : D ≠ q := ne_of_none (s4 _ _ p2) nq
    have hl := p3.length
    rw [List.length_take] at hl
    refine ⟨as.map V.ref, by rw [upd_ne nD]; exact s4 _ _ p2, ?_, same_upd' (same_upd' (p1.trans s4) ((p1.trans s4).free nq)) hD, as ++ [q], ?_, ?_⟩
    · rw [List.length_map]; omega
    · rw [upd_same, List.map_append]; rfl
    · rw [List.take_add_one, ha]
      have mv : ∀ p a, (H p = some (.tup (F a)) ∧ H1 p = none) → (upd (upd H4 q (.tup (F src[i]))) D (.lst (as.map V.ref ++ [.ref q])) p = some (.tup (F a)) ∧ H1 p = none) := fun p a ⟨e1, e2⟩ => by
        have n1 : p ≠ D := fun z => by rw [z, p2] at e1; cases e1
        have n2 : p ≠ q := ne_of_none (s4 _ _ e1) nq
        exact ⟨by rw [upd_ne n1, upd_ne n2]; exact s4 _ _ e1, e2⟩
      exact snoc (L2.Paired.mapP p3 mv) ⟨by rw [upd_ne nD.symm, upd_same], (p1.trans s4).free nq⟩
  · obtain ⟨p1, as, p2, p3⟩ := p
    rw [List.take_of_length_le (Nat.le_refl _)] at p3
    exact hd H as p1 p2 p3

/-! ### dict comprehensions -/
theorem dc_it (w : Walk J n G Y) (Pv : Nat → Hp → Prop) (h0 : Pv 0 (upd H1 D (.dK []))) (hG : ∀ i H, i ≤ n → Pv i H → G H)
    (hs : ∀ i x H H', i < n → Pv i H → Y i H x H' → g x (wipe σ vs) H' fun σ2 H2 => wipe σ2 vs = wipe σ vs ∧ tt σ2 H2 fun b H3 =>
      if b = true then tk σ2 H3 fun y H4 => tv σ2 H4 fun z H5 => ∃ kvs k, y = kV k ∧ H5 D = some (.dK kvs) ∧ kvs.length < sizeLine ∧ Pv (i + 1) (upd H5 D (.dK (putK kvs k z))) else Pv (i + 1) H3) (hd : ∀ H, Pv n H → Qd H) :
    ∃ W : Nat → Nat → Hp → Prop, (∃ m, W 0 m (upd H1 D (.dK []))) ∧ ∀ i m H, W i m H →
      (J.stop i H ∧ Qd H) ∨ (J.go i H ∧ ∃ Nx : Hp → Prop, (∀ H', Nx H' → ∃ m', m' < m ∧ W (i + 1) m' H') ∧ ∀ x H', J.yld i H x H' → g x (wipe σ vs) H' fun σ2 H2 => wipe σ2 vs = wipe σ vs ∧ tt σ2 H2 fun b H3 =>
        if b = true then tk σ2 H3 fun y H4 => tv σ2 H4 fun z H5 => ∃ kvs k, y = kV k ∧ H5 D = some (.dK kvs) ∧ kvs.length < sizeLine ∧ Nx (upd H5 D (.dK (putK kvs k z))) else Nx H3) := by
  refine ⟨fun i m H => m = n - i ∧ i ≤ n ∧ Pv i H, ⟨n, by simp, Nat.zero_le _, h0⟩, ?_⟩
  rintro i m H ⟨rfl, hi, p⟩
  have q := hG i H hi p
  by_cases hlt : i < n
  · refine .inr ⟨w.goes i H hlt q, Pv (i + 1), fun H' p' => ⟨n - (i + 1), by omega, rfl, hlt, p'⟩, fun x H' y => hs i x H H' hlt p (w.yields i H x H' hlt q y)⟩
  · have e : i = n := by omega
    subst e
    exact .inl ⟨w.stops H q, hd H p⟩
end

/-! ### dicts with texts as keys -/
section
variable {β : Type}
def tab (f : β → V) (l : List (Str × β)) : List (Key × V) := l.map fun p => (Sum.inr p.1, f p.2)
theorem tab_len (f : β → V) (l : List (Str × β)) : (tab f l).length = l.length := List.length_map ..
theorem tab_keys (f : β → V) (l : List (Str × β)) : (tab f l).map (·.1) = (l.map (·.1)).map Sum.inr := by
  unfold tab; rw [List.map_map, List.map_map]; rfl
theorem tab_vals (f : β → V) (l : List (Str × β)) : (tab f l).map (·.2) = (l.map (·.2)).map f := by
  unfold tab; rw [List.map_map, List.map_map]; rfl
theorem tab_at (f : β → V) (l : List (Str × β)) (i : Nat) : (tab f l)[i]? = l[i]?.map fun p => (Sum.inr p.1, f p.2) := List.getElem?_map ..
theorem val_tab (f : β → V) : ∀ (l : List (Str × β)) (x : Str), valV (tab f l) (Sum.inr x) = (l.find? fun p => decide (p.1 = x)).map fun p => f p.2
  | [], x => rfl
  | p :: r, x => by
    rw [List.find?_cons]
    by_cases e : p.1 = x
    · rw [decide_eq_true e]
      exact valV_pos (p := (Sum.inr p.1, f p.2)) (congrArg Sum.inr e)
    · rw [decide_eq_false e]
      show valV ((Sum.inr p.1, f p.2) :: tab f r) (Sum.inr x) = _
      rw [valV_neg (p := (Sum.inr p.1, f p.2)) fun q => e (Sum.inr.inj q)]
      exact val_tab f r x
theorem val_mem {f : β → V} {l : List (Str × β)} {x : Str} {b : β} (nd : (l.map (·.1)).Nodup) (h : (x, b) ∈ l) : valV (tab f l) (Sum.inr x) = some (f b) := by
  rw [val_tab, find_key nd h]; rfl
theorem val_out {f : β → V} {l : List (Str × β)} {x : Str} (h : ¬ x ∈ l.map (·.1)) : valV (tab f l) (Sum.inr x) = none := by
  rw [val_tab]
  have : l.find? (fun p => decide (p.1 = x)) = none := List.find?_eq_none.mpr fun p hp => by
    have ne : ¬ p.1 = x := fun e => h (by rw [← e]; exact List.mem_map.mpr ⟨p, hp, rfl⟩)
    simp [ne]
  rw [this]; rfl
theorem val_some {f : β → V} {l : List (Str × β)} {x : Str} {v : V} (h : valV (tab f l) (Sum.inr x) = some v) : ∃ b, (x, b) ∈ l ∧ v = f b := by
  rw [val_tab] at h
  obtain ⟨p, h1, h2⟩ := Option.map_eq_some_iff.mp h
  have e : p.1 = x := by simpa using List.find?_some h1
  exact ⟨p.2, by rw [← e]; exact List.mem_of_find?_eq_some h1, h2.symm⟩
theorem val_iff {f : β → V} {l : List (Str × β)} {x : Str} : (valV (tab f l) (Sum.inr x)).isSome = decide (x ∈ l.map (·.1)) := by
  by_cases h : x ∈ l.map (·.1)
  · obtain ⟨p, hp, rfl⟩ := List.mem_map.mp h
    rw [decide_eq_true h, ← valV_any]
    refine List.any_eq_true.mpr ⟨(Sum.inr p.1, f p.2), List.mem_map.mpr ⟨p, hp, rfl⟩, by simp⟩
  · rw [val_out h, decide_eq_false h]; rfl
theorem put_new {f : β → V} {l : List (Str × β)} {x : Str} {b : β} (h : ¬ x ∈ l.map (·.1)) : putK (tab f l) (Sum.inr x) (f b) = tab f (l ++ [(x, b)]) := by
  rw [putK_new _ (val_out h)]
  unfold tab
  rw [List.map_append]; rfl
end

theorem lst_trues {K : PySem.W.Frag} {α : Type} {l : List α} {H : Hp} {D : Addr} (e : H D = some (.lst (l.map fun _ => V.bl true))) : SqL K H D ((l.map fun _ => true).map V.bl) := .inl (.inl (by rw [List.map_map]; exact e))
theorem all_trues {α : Type} (l : List α) : ((l.map fun _ => true).all id) = true := by simp
theorem atH_len {β : Type} {f : β → V} {l : List (Str × β)} {n : Nat} (h : l.length ≤ n) : (tab f l).length ≤ n := by rw [tab_len]; exact h

/-! ### what may be read stays to be read -/
structure RdM (H H1 : Hp) : Prop where
  d : ∀ b kvs, Rd H b (.dK kvs) → Rd H1 b (.dK kvs)
  l : ∀ b xs, Rd H b (.lst xs) → Rd H1 b (.lst xs)
  t : ∀ b xs, Rd H b (.tup xs) → Rd H1 b (.tup xs)
theorem RdM.refl (H : Hp) : RdM H H := ⟨fun _ _ h => h, fun _ _ h => h, fun _ _ h => h⟩
theorem RdM.trans {H H1 H2 : Hp} (a : RdM H H1) (b : RdM H1 H2) : RdM H H2 := ⟨fun c k h => b.d c k (a.d c k h), fun c k h => b.l c k (a.l c k h), fun c k h => b.t c k (a.t c k h)⟩
theorem _root_.L2.Same.rdm {H H1 : Hp} (s : Same H H1) : RdM H H1 := ⟨fun _ _ h => s.rd h, fun _ _ h => s.rd h, fun _ _ h => s.rd h⟩
theorem RdM.sql {K : PySem.W.Frag} {H H1 : Hp} {a : Addr} {xs : List V} (m : RdM H H1) (h : SqL K H a xs) : SqL K H1 a xs := h.elim (fun h => .inl (m.l _ _ h)) .inr
theorem RdM.sqt {K : PySem.W.Frag} {H H1 : Hp} {a : Addr} {xs : List V} (m : RdM H H1) (h : SqT K H a xs) : SqT K H1 a xs := h.elim (fun h => .inl (m.t _ _ h)) .inr
theorem lk_rdm {H H0 : Hp} {d : Addr} {kvs : List (Key × V)} {od : Obj} (h : Rd H d (.dK kvs)) (h0 : H0 d = some (.frz od (.dK kvs))) (he : ∀ b, b ≠ d → H0 b = H b) : RdM H H0 := by
  have go : ∀ b u, Rd H b u → (b = d → u = .dK kvs) → Rd H0 b u := fun b u hr hu => by
    by_cases e : b = d
    · rw [hu e, e]; exact .inr ⟨od, h0⟩
    · rcases hr with hr | ⟨o, hr⟩
      · exact .inl ((he b e).trans hr)
      · exact .inr ⟨o, (he b e).trans hr⟩
  have one : ∀ b u, Rd H b u → b = d → (∀ o w, u ≠ .frz o w) → u = .dK kvs := fun b u hr e nf => by
    subst e
    rcases h with h | ⟨o1, h⟩ <;> rcases hr with hr | ⟨o2, hr⟩ <;> rw [h] at hr <;> cases hr
    · rfl
    · exact absurd rfl (nf _ _)
    · rfl
  exact ⟨fun b k hr => go b _ hr fun e => one b _ hr e (fun _ _ z => nomatch z), fun b k hr => go b _ hr fun e => one b _ hr e (fun _ _ z => nomatch z), fun b k hr => go b _ hr fun e => one b _ hr e (fun _ _ z => nomatch z)⟩

/-! ### comprehensions over dicts, their locks within -/
section
variable {β : Type} {f : β → V} {l : List (Str × β)} {d : Addr} {i j k : Nat} {te tk tv : TE} {tt : TT} {vs : List Nat} {σ : L2.St} {H : Hp} {Q : VK} {K : PySem.W.Frag}
/-- [e for x in d] -/
theorem lk_keys (F : Str × β → V) (hσ : σ[i]? = some (some (.ref d))) (hR : Rd H d (.dK (tab f l))) (hz : l.length ≤ sizeLine)
    (hs : ∀ (p : Str × β) (H1 : Hp) (Kt : VK), p ∈ l → RdM H H1 → (∀ H4, Same H1 H4 → Kt (F p) H4) → wipe ((wipe σ vs).set j (some (.str p.1))) vs = wipe σ vs ∧ te ((wipe σ vs).set j (some (.str p.1))) H1 Kt)
    (hd : ∀ D H', Same H H' → H D = none → H' D = some (.lst (l.map F)) → Q (.ref D) H') : tLkE (tLc (iKeys (tVar i)) (gName j) tYes te vs) σ H Q := by
  refine lkE_of d _ (Lk.of_rd hR) fun od H0 h0 he => ?_
  refine ⟨_, hσ, d, od, rfl, .inl ⟨_, h0, fun D hD => ?_⟩⟩
  refine lc_map walk_keys l F (tab_len f l) (by rw [tab_len]; exact hz) hD (fun H1 s => s _ _ h0) (fun m p x H1 H2 Kt hp s1 hy hk => ?_) (fun H1 s1 e => ?_)
  · obtain ⟨rfl, ky, v, hv, rfl⟩ := hy
    rw [tab_at, hp] at hv
    cases (show (Sum.inr p.1, f p.2) = (ky, v) from Option.some.inj hv)
    exact hs p H2 Kt (List.mem_of_getElem? hp) ((lk_rdm hR h0 he).trans s1.rdm) hk
  · exact ⟨s1 _ _ h0, hd D _ (same_res he s1) (lk_free h0 he hD) ((res_new h0 hD).trans e)⟩
/-- [e for x in d if ..] -/
theorem lk_keysF (F : Str × β → Option V) (hσ : σ[i]? = some (some (.ref d))) (hR : Rd H d (.dK (tab f l))) (hz : l.length ≤ sizeLine)
    (hs : ∀ (p : Str × β) (H1 : Hp) (Kt : VK) (Kn : Hp → Prop), p ∈ l → RdM H H1 → (∀ y H4, F p = some y → Same H1 H4 → Kt y H4) → (∀ H3, F p = none → Same H1 H3 → Kn H3) → wipe ((wipe σ vs).set j (some (.str p.1))) vs = wipe σ vs ∧ tt ((wipe σ vs).set j (some (.str p.1))) H1 fun b H3 => if b = true then te ((wipe σ vs).set j (some (.str p.1))) H3 Kt else Kn H3)
    (hd : ∀ D H', Same H H' → H D = none → H' D = some (.lst (l.filterMap F)) → Q (.ref D) H') : tLkE (tLc (iKeys (tVar i)) (gName j) tt te vs) σ H Q := by
  refine lkE_of d _ (Lk.of_rd hR) fun od H0 h0 he => ?_
  refine ⟨_, hσ, d, od, rfl, .inl ⟨_, h0, fun D hD => ?_⟩⟩
  refine lc_src walk_keys l F (tab_len f l) (by rw [tab_len]; exact hz) hD (fun H1 s => s _ _ h0) (fun m p x H1 H2 Kt Kn hp s1 hy hk hn => ?_) (fun H1 s1 e => ?_)
  · obtain ⟨rfl, ky, v, hv, rfl⟩ := hy
    rw [tab_at, hp] at hv
    cases (show (Sum.inr p.1, f p.2) = (ky, v) from Option.some.inj hv)
    exact hs p H2 Kt Kn (List.mem_of_getElem? hp) ((lk_rdm hR h0 he).trans s1.rdm) hk hn
  · exact ⟨s1 _ _ h0, hd D _ (same_res he s1) (lk_free h0 he hD) ((res_new h0 hD).trans e)⟩
/-- [e for v in d.values()] -/
theorem lk_vals (F : Str × β → V) (hσ : σ[i]? = some (some (.ref d))) (hR : Rd H d (.dK (tab f l))) (hz : l.length ≤ sizeLine)
    (hs : ∀ (p : Str × β) (H1 : Hp) (Kt : VK), p ∈ l → RdM H H1 → (∀ H4, Same H1 H4 → Kt (F p) H4) → wipe ((wipe σ vs).set j (some (f p.2))) vs = wipe σ vs ∧ te ((wipe σ vs).set j (some (f p.2))) H1 Kt)
    (hd : ∀ D H', Same H H' → H D = none → H' D = some (.lst (l.map F)) → Q (.ref D) H') : tLkE (tLc (iVals (tVar i)) (gName j) tYes te vs) σ H Q := by
  refine lkE_of d _ (Lk.of_rd hR) fun od H0 h0 he => ?_
  refine ⟨_, hσ, d, od, _, rfl, h0, fun D hD => ?_⟩
  refine lc_map walk_values l F (tab_len f l) (by rw [tab_len]; exact hz) hD (fun H1 s => s _ _ h0) (fun m p x H1 H2 Kt hp s1 hy hk => ?_) (fun H1 s1 e => ?_)
  · obtain ⟨rfl, ky, hv⟩ := hy
    rw [tab_at, hp] at hv
    cases (show (Sum.inr p.1, f p.2) = (ky, x) from Option.some.inj hv)
    exact hs p H2 Kt (List.mem_of_getElem? hp) ((lk_rdm hR h0 he).trans s1.rdm) hk
  · exact ⟨s1 _ _ h0, hd D _ (same_res he s1) (lk_free h0 he hD) ((res_new h0 hD).trans e)⟩
/-- [e for x, v in d.items() if ..] -/
theorem lk_itemsF (F : Str × β → Option V) (hσ : σ[i]? = some (some (.ref d))) (hR : Rd H d (.dK (tab f l))) (hz : l.length ≤ sizeLine)
    (hs : ∀ (p : Str × β) (H1 : Hp) (Kt : VK) (Kn : Hp → Prop), p ∈ l → RdM H H1 → (∀ y H4, F p = some y → Same H1 H4 → Kt y H4) → (∀ H3, F p = none → Same H1 H3 → Kn H3) →
      wipe (((wipe σ vs).set j (some (.str p.1))).set k (some (f p.2))) vs = wipe σ vs ∧ tt (((wipe σ vs).set j (some (.str p.1))).set k (some (f p.2))) H1 fun b H3 => if b = true then te (((wipe σ vs).set j (some (.str p.1))).set k (some (f p.2))) H3 Kt else Kn H3)
    (hd : ∀ D H', Same H H' → H D = none → H' D = some (.lst (l.filterMap F)) → Q (.ref D) H') : tLkE (tLc (iItems (tVar i)) (gTup K 2 (gCons (gName j) (gCons (gName k) gNil))) tt te vs) σ H Q := by
  refine lkE_of d _ (Lk.of_rd hR) fun od H0 h0 he => ?_
  refine ⟨_, hσ, d, od, _, rfl, h0, fun D hD => ?_⟩
  refine lc_src walk_items l F (tab_len f l) (by rw [tab_len]; exact hz) hD (fun H1 s => s _ _ h0) (fun m p x H1 H2 Kt Kn hp s1 hy hk hn => ?_) (fun H1 s1 e => ?_)
  · obtain ⟨t, y, z, rfl, nt, rfl, e1, e2⟩ := hy
    simp only [tab_at, hp] at e1 e2
    cases (show kV (Sum.inr p.1) = y from Option.some.inj e1)
    cases (show f p.2 = z from Option.some.inj e2)
    have st : Same H1 (upd H1 t (.tup [kV (Sum.inr p.1), f p.2])) := same_upd nt
    refine ⟨t, _, rfl, SqT.of' upd_same, rfl, _, _, rfl, _, _, rfl, rfl, ?_⟩
    exact hs p _ Kt Kn (List.mem_of_getElem? hp) ((lk_rdm hR h0 he).trans (s1.trans st).rdm) (fun y H4 hf s4 => hk y H4 hf (st.trans s4)) (fun H3 hf s3 => hn H3 hf (st.trans s3))
  · exact ⟨s1 _ _ h0, hd D _ (same_res he s1) (lk_free h0 he hD) ((res_new h0 hD).trans e)⟩
/-- [e for x, v in d.items()] -/
theorem lk_items (F : Str × β → V) (hσ : σ[i]? = some (some (.ref d))) (hR : Rd H d (.dK (tab f l))) (hz : l.length ≤ sizeLine)
    (hs : ∀ (p : Str × β) (H1 : Hp) (Kt : VK), p ∈ l → RdM H H1 → (∀ H4, Same H1 H4 → Kt (F p) H4) →
      wipe (((wipe σ vs).set j (some (.str p.1))).set k (some (f p.2))) vs = wipe σ vs ∧ te (((wipe σ vs).set j (some (.str p.1))).set k (some (f p.2))) H1 Kt)
    (hd : ∀ D H', Same H H' → H D = none → H' D = some (.lst (l.map F)) → Q (.ref D) H') : tLkE (tLc (iItems (tVar i)) (gTup K 2 (gCons (gName j) (gCons (gName k) gNil))) tYes te vs) σ H Q := by
  refine lk_itemsF (fun p => some (F p)) hσ hR hz (fun p H1 Kt Kn hp m hk _ => ?_) (fun D H' s hD e => hd D H' s hD (by rw [e]; congr 1; exact congrArg HO.lst (by induction l <;> simp_all)))
  obtain ⟨a, b⟩ := hs p H1 Kt hp m fun H4 s4 => hk _ H4 rfl s4
  exact ⟨a, by simp only [tYes, if_true]; exact b⟩
end
end K66
/-! Neighbours in a row, layers of distances, halls turned, halls made. -/
namespace K66
section
variable {α : Type} [DecidableEq α]
/-! ### neighbours -/
def nb1 (x : α) (p : α × Option α) : List α := match p.2 with
  | none => []
  | some u => (if p.1 = x then [u] else []) ++ (if u = x then [p.1] else [])
def nbrs (T : List (α × Option α)) (x : α) : List α := T.flatMap (nb1 x)
theorem mem_nb1 {x s : α} {p : α × Option α} : s ∈ nb1 x p ↔ ∃ u, p.2 = some u ∧ ((p.1 = x ∧ s = u) ∨ (u = x ∧ s = p.1)) := by
  obtain ⟨y, o⟩ := p
  cases o with
  | none => simp [nb1]
  | some u =>
    simp only [nb1, List.mem_append, Option.some.injEq, exists_eq_left']
    by_cases h1 : y = x <;> by_cases h2 : u = x <;> simp [h1, h2]
theorem nbrs_snoc (T : List (α × Option α)) (p : α × Option α) (x : α) : nbrs (T ++ [p]) x = nbrs T x ++ nb1 x p := by
  unfold nbrs; rw [List.flatMap_append]; simp
section
variable {T : List (α × Option α)} {rk : α → Nat}
namespace Tree
variable (t : Tree T rk)
include t
theorem mem_nbrs {x s : α} : s ∈ nbrs T x ↔ adj T x s := by
  unfold nbrs
  rw [List.mem_flatMap]
  constructor
  · rintro ⟨p, hp, hs⟩
    obtain ⟨u, e, h⟩ := mem_nb1.mp hs
    obtain ⟨y, o⟩ := p
    simp only at e h
    subst e
    have := par_of_mem t.nd hp
    rcases h with ⟨rfl, rfl⟩ | ⟨rfl, rfl⟩
    · exact .inl this
    · exact .inr this
  · rintro (h | h)
    · exact ⟨_, mem_of_par h, mem_nb1.mpr ⟨s, rfl, .inl ⟨rfl, rfl⟩⟩⟩
    · exact ⟨_, mem_of_par h, mem_nb1.mpr ⟨x, rfl, .inr ⟨rfl, rfl⟩⟩⟩
theorem nbrs_nodup (x : α) : (nbrs T x).Nodup := by
  have key : ∀ l : List (α × Option α), (∀ p ∈ l, p ∈ T) → (l.map (·.1)).Nodup → (nbrs l x).Nodup := by
    intro l
    induction l with
    | nil => intro _ _; simp [nbrs]
    | cons p l ih =>
      intro hs nd
      have nd' : (p.1 :: l.map (·.1)).Nodup := nd
      obtain ⟨n1, n2⟩ := List.nodup_cons.mp nd'
      have ih' := ih (fun q hq => hs q (List.mem_cons_of_mem _ hq)) n2
      show (nb1 x p ++ nbrs l x).Nodup
      have hp := hs p (List.mem_cons_self ..)
      obtain ⟨y, o⟩ := p
      cases o with
      | none => simpa [nb1] using ih'
      | some u =>
        have hpar := par_of_mem t.nd hp
        have hne : y ≠ u := fun e => by subst e; have := (t.par_up hpar).2; omega
        rw [List.nodup_append]
        refine ⟨?_, ih', ?_⟩
        · simp only [nb1]
          by_cases h1 : y = x <;> by_cases h2 : u = x <;> simp [h1, h2]
          exact hne (h1.trans h2.symm)
        · intro a ha b hb e
          subst e
          obtain ⟨w, e, h⟩ := mem_nb1.mp ha
          cases e
          have hb' : a ∈ l.flatMap (nb1 x) := hb
          obtain ⟨q, hq, hb2⟩ := List.mem_flatMap.mp hb'
          obtain ⟨w2, e2, h2⟩ := mem_nb1.mp hb2
          have hq2 := par_of_mem t.nd (show (q.1, some w2) ∈ T by rw [← e2]; exact hs q (List.mem_cons_of_mem _ hq))
          have hqy : q.1 ≠ y := fun e => n1 (by rw [← e]; exact List.mem_map.mpr ⟨q, hq, rfl⟩)
          rcases h with ⟨h3, h4⟩ | ⟨h3, h4⟩ <;> rcases h2 with ⟨h5, h6⟩ | ⟨h5, h6⟩
          · exact hqy (h5.trans h3.symm)
          · simp only at h3
            subst h3 h4 h5
            exact t.no_both hpar (by rw [h6]; exact hq2)
          · simp only at h4
            subst h4 h5
            rw [← h6] at hq2
            exact t.no_both hpar (by rw [h3]; exact hq2)
          · simp only at h4
            exact hqy (h6.symm.trans h4)
  exact key T (fun _ h => h) t.nd
end Tree

/-! ### layers -/
/-- found: all halls within k doors of x, here: those k doors away -/
structure Lay (T : List (α × Option α)) (rk : α → Nat) (x : α) (k : Nat) (F : List (α × Nat)) (here : List α) : Prop where
  nF : (F.map (·.1)).Nodup
  mF : ∀ s n, (s, n) ∈ F ↔ s ∈ T.map (·.1) ∧ dd T rk x s = n ∧ n ≤ k
  nH : here.Nodup
  mH : ∀ s, s ∈ here ↔ s ∈ T.map (·.1) ∧ dd T rk x s = k
def nextL (T : List (α × Option α)) (F : List (α × Nat)) (here : List α) : List α := here.flatMap fun o => (nbrs T o).filter fun s => !decide (s ∈ F.map (·.1))
theorem nodup_flatMap {β γ : Type} {f : β → List γ} : ∀ {l : List β}, l.Nodup → (∀ a ∈ l, (f a).Nodup) → (∀ a ∈ l, ∀ b ∈ l, ∀ c, c ∈ f a → c ∈ f b → a = b) → (l.flatMap f).Nodup
  | [], _, _, _ => by simp
  | a :: l, nd, h1, h2 => by
    obtain ⟨n1, n2⟩ := List.nodup_cons.mp nd
    rw [List.flatMap_cons, List.nodup_append]
    refine ⟨h1 a (List.mem_cons_self ..), nodup_flatMap n2 (fun b hb => h1 b (List.mem_cons_of_mem _ hb)) (fun b hb c hc => h2 b (List.mem_cons_of_mem _ hb) c (List.mem_cons_of_mem _ hc)), fun c hc d hd e => ?_⟩
    subst e
    obtain ⟨b, hb, hb2⟩ := List.mem_flatMap.mp hd
    have := h2 a (List.mem_cons_self ..) b (List.mem_cons_of_mem _ hb) c hc hb2
    subst this
    exact n1 hb
theorem lay0 (t : Tree T rk) {x : α} (hx : x ∈ T.map (·.1)) : Lay T rk x 0 [(x, 0)] [x] where
  nF := by simp
  mF := fun s n => by
    constructor
    · intro h
      have : (s, n) = (x, 0) := by simpa using h
      cases this
      exact ⟨hx, t.dd_self x, Nat.le_refl _⟩
    · rintro ⟨h1, h2, h3⟩
      have e : n = 0 := by omega
      subst e
      have := t.dd_zero h2
      subst this
      simp
  nH := by simp
  mH := fun s => by
    constructor
    · intro h
      have : s = x := by simpa using h
      subst this
      exact ⟨hx, t.dd_self _⟩
    · rintro ⟨h1, h2⟩
      have := t.dd_zero h2
      subst this
      simp
theorem Lay.found {x : α} {k : Nat} {F : List (α × Nat)} {here : List α} (y : Lay T rk x k F here) {s : α} : s ∈ F.map (·.1) ↔ s ∈ T.map (·.1) ∧ dd T rk x s ≤ k := by
  constructor
  · intro h
    obtain ⟨⟨a, n⟩, h1, rfl⟩ := List.mem_map.mp h
    obtain ⟨h2, h3, h4⟩ := (y.mF a n).mp h1
    exact ⟨h2, h3 ▸ h4⟩
  · rintro ⟨h1, h2⟩
    exact List.mem_map.mpr ⟨(s, dd T rk x s), (y.mF _ _).mpr ⟨h1, rfl, h2⟩, rfl⟩
theorem Lay.mem_next (t : Tree T rk) {x : α} {k : Nat} {F : List (α × Nat)} {here : List α} (y : Lay T rk x k F here) (hx : x ∈ T.map (·.1)) {s : α} : s ∈ nextL T F here ↔ s ∈ T.map (·.1) ∧ dd T rk x s = k + 1 := by
  unfold nextL
  rw [List.mem_flatMap]
  constructor
  · rintro ⟨o, ho, hs⟩
    rw [List.mem_filter] at hs
    obtain ⟨h1, h2⟩ := hs
    have ha := t.mem_nbrs.mp h1
    have hn := (t.adj_names ha).2
    obtain ⟨ho1, ho2⟩ := (y.mH o).mp ho
    have nf : ¬ (s ∈ T.map (·.1) ∧ dd T rk x s ≤ k) := fun q => by
      have := y.found.mpr q
      simp [this] at h2
    have : ¬ dd T rk x s ≤ k := fun q => nf ⟨hn, q⟩
    have l := t.dd_adj (z := x) ha
    rw [t.dd_symm s x, t.dd_symm o x] at l
    exact ⟨hn, by omega⟩
  · rintro ⟨h1, h2⟩
    have ne : s ≠ x := fun e => by subst e; rw [t.dd_self] at h2; omega
    obtain ⟨a, h3, h4⟩ := t.next hx h1 ne
    refine ⟨a, (y.mH a).mpr ⟨(t.adj_names h3).1, by omega⟩, ?_⟩
    rw [List.mem_filter]
    refine ⟨t.mem_nbrs.mpr h3, ?_⟩
    have : ¬ s ∈ F.map (·.1) := fun q => by have := (y.found.mp q).2; omega
    simp [this]
theorem Lay.nodup_next (t : Tree T rk) {x : α} {k : Nat} {F : List (α × Nat)} {here : List α} (y : Lay T rk x k F here) (hx : x ∈ T.map (·.1)) : (nextL T F here).Nodup := by
  refine nodup_flatMap y.nH (fun a _ => (t.nbrs_nodup a).sublist List.filter_sublist) fun a ha b hb c hc hd => ?_
  have hk := ((y.mem_next t hx).mp (List.mem_flatMap.mpr ⟨a, ha, hc⟩)).2
  have h1 := t.mem_nbrs.mp (List.mem_filter.mp hc).1
  have h2 := t.mem_nbrs.mp (List.mem_filter.mp hd).1
  have e1 := ((y.mH a).mp ha).2
  have e2 := ((y.mH b).mp hb).2
  exact t.next_one (x := x) h1 h2 (by omega) (by omega)
theorem Lay.step (t : Tree T rk) {x : α} {k : Nat} {F : List (α × Nat)} {here : List α} (y : Lay T rk x k F here) (hx : x ∈ T.map (·.1)) : Lay T rk x (k + 1) (F ++ (nextL T F here).map fun s => (s, k + 1)) (nextL T F here) where
  nF := by
    rw [List.map_append, List.map_map, List.nodup_append]
    have e : ((fun p : α × Nat => p.1) ∘ fun s => (s, k + 1)) = id := rfl
    rw [e, List.map_id]
    refine ⟨y.nF, y.nodup_next t hx, fun a ha b hb q => ?_⟩
    subst q
    have h1 := (y.found.mp ha).2
    have h2 := ((y.mem_next t hx).mp hb).2
    omega
  mF := fun s n => by
    rw [List.mem_append]
    constructor
    · rintro (h | h)
      · obtain ⟨h1, h2, h3⟩ := (y.mF s n).mp h
        exact ⟨h1, h2, by omega⟩
      · obtain ⟨a, h1, h2⟩ := List.mem_map.mp h
        cases h2
        obtain ⟨h3, h4⟩ := (y.mem_next t hx).mp h1
        exact ⟨h3, h4, Nat.le_refl _⟩
    · rintro ⟨h1, h2, h3⟩
      by_cases h : n ≤ k
      · exact .inl ((y.mF s n).mpr ⟨h1, h2, h⟩)
      · have e : n = k + 1 := by omega
        subst e
        exact .inr (List.mem_map.mpr ⟨s, (y.mem_next t hx).mpr ⟨h1, h2⟩, rfl⟩)
  nH := y.nodup_next t hx
  mH := fun s => y.mem_next t hx
theorem Lay.le {x : α} {k : Nat} {F : List (α × Nat)} {here : List α} (y : Lay T rk x k F here) : F.length ≤ T.length := by
  have := List.Nodup.length_le_of_subset y.nF (l₂ := T.map (·.1)) fun s hs => (y.found.mp hs).1
  rwa [List.length_map, List.length_map] at this
/-- none is here: all are found -/
theorem Lay.all (t : Tree T rk) {x : α} {k : Nat} {F : List (α × Nat)} (y : Lay T rk x k F []) (hx : x ∈ T.map (·.1)) {s : α} (hs : s ∈ T.map (·.1)) : (s, dd T rk x s) ∈ F := by
  have key : ∀ n s, s ∈ T.map (·.1) → dd T rk x s = n → n < k ∨ n = k ∧ False ∨ n > k → n < k := by
    intro n
    induction n with
    | zero =>
      intro s hs e h
      by_cases hk : k = 0
      · subst hk
        have := (y.mH s).mpr ⟨hs, e⟩
        simp at this
      · omega
    | succ n ih =>
      intro s hs e h
      have ne : s ≠ x := fun q => by subst q; rw [t.dd_self] at e; omega
      obtain ⟨a, h3, h4⟩ := t.next hx hs ne
      have ha := (t.adj_names h3).1
      by_cases h5 : n = k
      · have := (y.mH a).mpr ⟨ha, by omega⟩
        simp at this
      · have := ih a ha (by omega) (by omega)
        by_cases h6 : n + 1 = k
        · have := (y.mH s).mpr ⟨hs, by omega⟩
          simp at this
        · omega
  have hne : dd T rk x s ≠ k := fun e => by
    have := (y.mH s).mpr ⟨hs, e⟩
    simp at this
  have := key _ s hs rfl (by omega)
  exact (y.mF _ _).mpr ⟨hs, rfl, by omega⟩

/-! ### halls turned -/
def setP (T : List (α × Option α)) (k : α) (v : Option α) : List (α × Option α) := T.map fun p => if p.1 = k then (p.1, v) else p
theorem setP_names (T : List (α × Option α)) (k : α) (v : Option α) : (setP T k v).map (·.1) = T.map (·.1) := by
  unfold setP; rw [List.map_map]
  refine List.map_congr_left fun p _ => ?_
  simp only [Function.comp]; split <;> rfl
theorem setP_par {k x : α} {v : Option α} (hk : k ∈ T.map (·.1)) : par (setP T k v) x = if x = k then v else par T x := by
  unfold par setP
  have : ∀ l : List (α × Option α), k ∈ l.map (·.1) → (match (l.map fun p => if p.1 = k then (p.1, v) else p).find? (fun p => decide (p.1 = x)) with | some p => p.2 | none => none) = if x = k then v else match l.find? (fun p => decide (p.1 = x)) with | some p => p.2 | none => none := by
    intro l
    induction l with
    | nil => intro h; simp at h
    | cons p l ih =>
      intro h
      rw [List.map_cons, List.find?_cons, List.find?_cons]
      by_cases h1 : p.1 = k
      · rw [if_pos h1]
        by_cases h2 : p.1 = x
        · simp only [decide_eq_true h2]
          rw [if_pos (h2.symm.trans h1)]
        · simp only [decide_eq_false h2]
          by_cases h3 : x = k
          · exact absurd (h1.trans h3.symm) h2
          · rw [if_neg h3]
            by_cases h4 : k ∈ l.map (·.1)
            · rw [ih h4, if_neg h3]
            · have e : l.map (fun p => if p.1 = k then (p.1, v) else p) = l := by
                conv => rhs; rw [← List.map_id l]
                refine List.map_congr_left fun q hq => ?_
                rw [if_neg fun e => h4 (by rw [← e]; exact List.mem_map.mpr ⟨q, hq, rfl⟩)]; rfl
              rw [e]
      · rw [if_neg h1]
        have h4 : k ∈ l.map (·.1) := by
          rw [List.map_cons] at h
          rcases List.mem_cons.mp h with h | h
          · exact absurd h.symm h1
          · exact h
        by_cases h2 : p.1 = x
        · simp only [decide_eq_true h2]
          rw [if_neg fun e => h1 (h2.trans e)]
        · simp only [decide_eq_false h2]
          exact ih h4
  exact this T hk
/-- the pairs of the way stored, one behind another -/
def turnF (T : List (α × Option α)) (zs : List (α × α)) : List (α × Option α) := zs.foldl (fun T z => setP T z.2 (some z.1)) T
theorem turnF_snoc (T : List (α × Option α)) (zs : List (α × α)) (z : α × α) : turnF T (zs ++ [z]) = setP (turnF T zs) z.2 (some z.1) := by
  unfold turnF; rw [List.foldl_append]; rfl
theorem turnF_names : ∀ (zs : List (α × α)) (T : List (α × Option α)), (turnF T zs).map (·.1) = T.map (·.1)
  | [], T => rfl
  | z :: zs, T => by
    show (turnF (setP T z.2 (some z.1)) zs).map (·.1) = _
    rw [turnF_names zs, setP_names]
theorem turnF_out : ∀ {zs : List (α × α)} {T : List (α × Option α)} {x : α}, (∀ z ∈ zs, z.2 ∈ T.map (·.1)) → (∀ z ∈ zs, z.2 ≠ x) → par (turnF T zs) x = par T x
  | [], T, x, _, _ => rfl
  | z :: zs, T, x, h, hn => by
    show par (turnF (setP T z.2 (some z.1)) zs) x = _
    rw [turnF_out (fun w hw => by rw [setP_names]; exact h w (List.mem_cons_of_mem _ hw)) fun w hw => hn w (List.mem_cons_of_mem _ hw), setP_par (h z (List.mem_cons_self ..)), if_neg (hn z (List.mem_cons_self ..)).symm]
theorem turnF_in : ∀ {zs : List (α × α)} {T : List (α × Option α)} {l u : α}, (∀ z ∈ zs, z.2 ∈ T.map (·.1)) → (∀ z ∈ zs, ∀ w ∈ zs, z.2 = w.2 → z.1 = w.1) → (l, u) ∈ zs → par (turnF T zs) u = some l
  | [], T, l, u, _, _, h => by cases h
  | z :: zs, T, l, u, h, hu, hm => by
    show par (turnF (setP T z.2 (some z.1)) zs) u = _
    have h' : ∀ w ∈ zs, w.2 ∈ (setP T z.2 (some z.1)).map (·.1) := fun w hw => by rw [setP_names]; exact h w (List.mem_cons_of_mem _ hw)
    by_cases hin : (l, u) ∈ zs
    · exact turnF_in h' (fun a ha b hb => hu a (List.mem_cons_of_mem _ ha) b (List.mem_cons_of_mem _ hb)) hin
    · have e : z = (l, u) := by
        rcases List.mem_cons.mp hm with e | e
        · exact e.symm
        · exact absurd e hin
      subst e
      rw [turnF_out h' fun w hw q => hin ?_, setP_par (h _ (List.mem_cons_self ..)), if_pos rfl]
      have := hu w (List.mem_cons_of_mem _ hw) (l, u) (List.mem_cons_self ..) q
      obtain ⟨a, b⟩ := w
      simp only at this q
      subst this q
      exact hw
def pairsOf (l : List α) : List (α × α) := l.zip l.tail
def turnT (T : List (α × Option α)) (rk : α → Nat) (x : α) : List (α × Option α) := turnF (setP T x none) (pairsOf (wy T rk x))
theorem mem_pairs {l : List α} {a b : α} : (a, b) ∈ pairsOf l ↔ ∃ i : Nat, l[i]? = some a ∧ l[i + 1]? = some b := by
  unfold pairsOf
  constructor
  · intro h
    obtain ⟨i, hi, e⟩ := List.mem_iff_getElem.mp h
    have e2 : (l.zip l.tail)[i]? = some (a, b) := by rw [List.getElem?_eq_getElem hi, e]
    rw [List.getElem?_zip_eq_some] at e2
    obtain ⟨h1, h2⟩ := e2
    refine ⟨i, h1, ?_⟩
    rw [List.getElem?_tail] at h2; exact h2
  · rintro ⟨i, h1, h2⟩
    have : (l.zip l.tail)[i]? = some (a, b) := by
      rw [List.getElem?_zip_eq_some]
      exact ⟨h1, by rw [List.getElem?_tail]; exact h2⟩
    exact List.mem_of_getElem? this
namespace Tree
variable (t : Tree T rk)
include t
theorem way_pairs {x a b : α} : (a, b) ∈ pairsOf (wy T rk x) ↔ a ∈ wy T rk x ∧ par T a = some b := by
  rw [mem_pairs]
  constructor
  · rintro ⟨i, h1, h2⟩
    refine ⟨List.mem_of_getElem? h1, ?_⟩
    cases e : par T a with
    | none =>
      have := t.wy_end h1 e
      have := (List.getElem?_eq_some_iff.mp h2).1
      omega
    | some c =>
      have := t.wy_next h1 e
      rw [this] at h2
      exact h2
  · rintro ⟨h1, h2⟩
    obtain ⟨i, hi⟩ := List.getElem?_of_mem h1
    exact ⟨i, hi, t.wy_next hi h2⟩
theorem turn_names (x : α) : (turnT T rk x).map (·.1) = T.map (·.1) := by
  unfold turnT; rw [turnF_names, setP_names]
theorem turn_len (x : α) : (turnT T rk x).length = T.length := by
  have := congrArg List.length (t.turn_names x)
  rwa [List.length_map, List.length_map] at this
theorem turn_in {x s v : α} (hx : x ∈ T.map (·.1)) (h1 : s ∈ wy T rk x) (h2 : par T s = some v) : par (turnT T rk x) v = some s := by
  refine turnF_in (fun z hz => ?_) (fun z hz w hw e => ?_) (t.way_pairs.mpr ⟨h1, h2⟩)
  · rw [setP_names]
    obtain ⟨a, b⟩ := z
    exact (t.par_up (t.way_pairs.mp hz).2).1
  · obtain ⟨a, b⟩ := z
    obtain ⟨c, d⟩ := w
    simp only at e
    subst e
    obtain ⟨p1, p2⟩ := t.way_pairs.mp hz
    obtain ⟨q1, q2⟩ := t.way_pairs.mp hw
    exact t.chain p1 q1 p2 q2
theorem turn_out {x v : α} (hx : x ∈ T.map (·.1)) (h : ∀ s, s ∈ wy T rk x → par T s ≠ some v) : par (turnT T rk x) v = if v = x then none else par T v := by
  unfold turnT
  rw [turnF_out (fun z hz => ?_) (fun z hz e => ?_), setP_par hx]
  · rw [setP_names]
    obtain ⟨a, b⟩ := z
    exact (t.par_up (t.way_pairs.mp hz).2).1
  · obtain ⟨a, b⟩ := z
    obtain ⟨h1, h2⟩ := t.way_pairs.mp hz
    simp only at e
    subst e
    exact h a h1 h2
/-- no hall right below x is on its way -/
theorem top_way {x s : α} (h : s ∈ wy T rk x) : par T s ≠ some x := fun e => by
  have := (t.par_up e).2
  rcases t.rk_mem h with h | h
  · subst h; omega
  · omega
theorem turn_cases {x v : α} (hx : x ∈ T.map (·.1)) (hv : v ∈ T.map (·.1)) : (v = x ∧ par (turnT T rk x) v = none) ∨ (∃ s, v ≠ x ∧ s ∈ wy T rk x ∧ par T s = some v ∧ par (turnT T rk x) v = some s) ∨ (¬ v ∈ wy T rk x ∧ ∃ u, par T v = some u ∧ par (turnT T rk x) v = some u) := by
  by_cases e : v = x
  · subst e
    exact .inl ⟨rfl, by rw [t.turn_out hx fun s hs => t.top_way hs, if_pos rfl]⟩
  · by_cases h : v ∈ wy T rk x
    · obtain ⟨s, h1, h2⟩ := t.pred h e
      exact .inr (.inl ⟨s, e, h1, h2, t.turn_in hx h1 h2⟩)
    · refine .inr (.inr ⟨h, ?_⟩)
      have ho : par (turnT T rk x) v = par T v := by
        rw [t.turn_out hx fun s hs q => h (t.mem_trans hs (by rw [t.wy_some q]; exact List.mem_cons_of_mem _ (t.self_mem v))), if_neg e]
      cases q : par T v with
      | none => exact absurd (t.root_mem q hv hx) h
      | some u => exact ⟨u, rfl, by rw [ho, q]⟩
/-- halls turned are halls -/
theorem turn_tree {x : α} (hx : x ∈ T.map (·.1)) : Tree (turnT T rk x) (fun v => dd T rk v x) where
  nd := by rw [t.turn_names]; exact t.nd
  root := by
    refine ⟨x, ?_, fun v hv => ?_⟩
    · have h1 : x ∈ (turnT T rk x).map (·.1) := by rw [t.turn_names]; exact hx
      have := mem_of_names (by rw [t.turn_names]; exact t.nd) h1
      rcases t.turn_cases hx hx with ⟨_, e⟩ | ⟨s, ne, _⟩ | ⟨ne, _⟩
      · rw [e] at this; exact this
      · exact absurd rfl ne
      · exact absurd (t.self_mem x) ne
    · have hv1 : v ∈ T.map (·.1) := by rw [← t.turn_names x]; exact List.mem_map.mpr ⟨_, hv, rfl⟩
      have hp := par_of_mem (by rw [t.turn_names]; exact t.nd) hv
      rcases t.turn_cases hx hv1 with ⟨e, _⟩ | ⟨s, _, _, _, e⟩ | ⟨_, u, _, e⟩
      · exact e
      · rw [e] at hp; cases hp
      · rw [e] at hp; cases hp
  up := fun v u h => by
    have hv1 : v ∈ T.map (·.1) := by rw [← t.turn_names x]; exact List.mem_map.mpr ⟨_, h, rfl⟩
    have hp := par_of_mem (by rw [t.turn_names]; exact t.nd) h
    rw [t.turn_names]
    rcases t.turn_cases hx hv1 with ⟨_, e⟩ | ⟨s, _, h1, h2, e⟩ | ⟨h1, w, h2, e⟩
    · rw [e] at hp; cases hp
    · rw [e] at hp; cases hp
      refine ⟨t.wy_names hx _ h1, ?_⟩
      have := t.dd_in h2 h1
      show dd T rk u x < dd T rk v x
      omega
    · rw [e] at hp; cases hp
      refine ⟨(t.par_up h2).1, ?_⟩
      have := t.dd_out h2 h1
      show dd T rk u x < dd T rk v x
      omega
theorem turn_adj {x a b : α} (hx : x ∈ T.map (·.1)) : adj (turnT T rk x) a b ↔ adj T a b := by
  have one : ∀ {a b : α}, par (turnT T rk x) a = some b → adj T a b := fun {a b} h => by
    have ha : a ∈ T.map (·.1) := by rw [← t.turn_names x]; exact mem_names_of_par h
    rcases t.turn_cases hx ha with ⟨_, e⟩ | ⟨s, _, h1, h2, e⟩ | ⟨h1, w, h2, e⟩
    · rw [e] at h; cases h
    · rw [e] at h; cases h; exact .inr h2
    · rw [e] at h; cases h; exact .inl h2
  have two : ∀ {a b : α}, par T a = some b → adj (turnT T rk x) a b := fun {a b} h => by
    by_cases ha : a ∈ wy T rk x
    · exact .inr (t.turn_in hx ha h)
    · refine .inl ?_
      rcases t.turn_cases hx (mem_names_of_par h) with ⟨e, _⟩ | ⟨s, _, h1, h2, e⟩ | ⟨h1, w, h2, e⟩
      · subst e; exact absurd (t.self_mem a) ha
      · exact absurd (t.mem_trans h1 (by rw [t.wy_some h2]; exact List.mem_cons_of_mem _ (t.self_mem a))) ha
      · rw [h2] at h; cases h; exact e
  constructor
  · rintro (h | h)
    · exact one h
    · exact adj_symm (one h)
  · rintro (h | h)
    · exact two h
    · exact adj_symm (two h)
theorem turn_dd {x a b : α} (hx : x ∈ T.map (·.1)) (ha : a ∈ T.map (·.1)) (hb : b ∈ T.map (·.1)) : dd (turnT T rk x) (fun v => dd T rk v x) a b = dd T rk a b := by
  have t' := t.turn_tree hx
  refine t.dd_unique (f := fun a => dd (turnT T rk x) (fun v => dd T rk v x) a b) hb (t'.dd_self b) (fun y hy ne => ?_) (fun y s h => ?_) a ha
  · obtain ⟨s, h1, h2⟩ := t'.toward (x := y) (z := b) (by rw [t.turn_names]; exact hy) (by rw [t.turn_names]; exact hb) ne
    exact ⟨s, (t.turn_adj hx).mp h1, t'.bh_yes h1 h2⟩
  · rcases t'.dd_adj (z := b) ((t.turn_adj hx).mpr h) with q | q <;> (show dd _ _ y b ≤ dd _ _ s b + 1) <;> omega
/-- steps up of halls turned -/
theorem turn_way {x a : α} (hx : x ∈ T.map (·.1)) (ha : a ∈ T.map (·.1)) : (wy (turnT T rk x) (fun v => dd T rk v x) a).length = dd T rk x a + 1 := by
  have t' := t.turn_tree hx
  have key : a ∈ T.map (·.1) → (wy (turnT T rk x) (fun v => dd T rk v x) a).length = dd T rk a x + 1 := by
    refine t'.ind (P := fun a => a ∈ T.map (·.1) → (wy (turnT T rk x) (fun v => dd T rk v x) a).length = dd T rk a x + 1) (fun v e hv => ?_) (fun v u e ih hv => ?_) a
    · rw [t'.wy_none e]
      rcases t.turn_cases hx hv with ⟨e2, _⟩ | ⟨s, _, _, _, e2⟩ | ⟨_, u, _, e2⟩
      · subst e2; rw [t.dd_self]; rfl
      · rw [e] at e2; cases e2
      · rw [e] at e2; cases e2
    · rw [t'.wy_some e, List.length_cons]
      rcases t.turn_cases hx hv with ⟨_, e2⟩ | ⟨s, _, h1, h2, e2⟩ | ⟨h1, w, h2, e2⟩
      · rw [e] at e2; cases e2
      · rw [e] at e2; cases e2
        rw [ih (t.wy_names hx _ h1)]
        have := t.dd_in h2 h1
        omega
      · rw [e] at e2; cases e2
        rw [ih (t.par_up h2).1]
        have := t.dd_out h2 h1
        omega
  rw [t.dd_symm x a]; exact key ha
theorem turn_cost {x a : α} {W : List (α × Int)} (hx : x ∈ T.map (·.1)) (ha : a ∈ T.map (·.1)) (hW : ∀ p ∈ W, p.1 ∈ T.map (·.1)) : costOf (turnT T rk x) (fun v => dd T rk v x) W a = costOf T rk W a := by
  unfold costOf
  refine sum_congr fun p hp => ?_
  rw [t.turn_dd hx ha (hW p hp)]
end Tree
end
end
end K66
set_option maxHeartbeats 4000000
/-! Dict comprehensions in the forms that the program has. -/
namespace K66
open PySem PySem.Spec PyProof.Rows L2
section
variable {α : Type} {J : It} {n : Nat} {G : Hp → Prop} {Y : Nat → Hp → V → Hp → Prop} {g : TG} {tt : TT} {te tk tv : TE} {vs : List Nat} {σ : L2.St} {H1 : Hp} {D : Addr} {Qd : Hp → Prop}
def kept (ky : α → Str) (F : α → Option V) (l : List α) : List (Str × V) := l.filterMap fun a => (F a).map fun v => (ky a, v)
theorem kept_keys {ky : α → Str} {F : α → Option V} {l : List α} {x : Str} (h : x ∈ (kept ky F l).map (·.1)) : x ∈ l.map ky := by
  obtain ⟨p, hp, rfl⟩ := List.mem_map.mp h
  obtain ⟨a, ha, e⟩ := List.mem_filterMap.mp hp
  obtain ⟨v, _, rfl⟩ := Option.map_eq_some_iff.mp e
  exact List.mem_map.mpr ⟨a, ha, rfl⟩
theorem kept_snoc (ky : α → Str) (F : α → Option V) {l : List α} {i : Nat} {a : α} (h : l[i]? = some a) : kept ky F (l.take (i + 1)) = kept ky F (l.take i) ++ ((F a).map fun v => (ky a, v)).toList := take_fm _ h
theorem fresh_key {ky : α → Str} {F : α → Option V} {l : List α} {i : Nat} {a : α} (nd : (l.map ky).Nodup) (h : l[i]? = some a) : ¬ ky a ∈ (kept ky F (l.take i)).map (·.1) := fun q => by
  have h1 := kept_keys q
  obtain ⟨b, hb, e⟩ := List.mem_map.mp h1
  obtain ⟨j, hj⟩ := List.getElem?_of_mem hb
  rw [List.getElem?_take] at hj
  split at hj
  · rename_i hlt
    have e1 : (l.map ky)[j]? = some (ky a) := by rw [List.getElem?_map, hj, ← e]; rfl
    have e2 : (l.map ky)[i]? = some (ky a) := by rw [List.getElem?_map, h]; rfl
    have := nodup_ix' nd e1 e2
    omega
  · cases hj
where
  nodup_ix' {N : List Str} (hN : N.Nodup) {i j : Nat} {x : Str} (a : N[i]? = some x) (b : N[j]? = some x) : i = j := by
    obtain ⟨h1, e1⟩ := List.getElem?_eq_some_iff.mp a
    obtain ⟨h2, e2⟩ := List.getElem?_eq_some_iff.mp b
    exact (List.getElem_inj hN).mp (e1.trans e2.symm)
/-- a dict comprehension whose values make no new thing -/
theorem dc_src (wk : Walk J n G Y) (src : List α) (ky : α → Str) (F : α → Option V) (nd : (src.map ky).Nodup) (hn : n = src.length) (hz : n ≤ sizeLine) (hD : H1 D = none) (hG : ∀ H, Same H1 H → G H)
    (hs : ∀ (i : Nat) (a : α) (x : V) (H H' : Hp) (Kt : V → V → Hp → Prop) (Kn : Hp → Prop), src[i]? = some a → Same H1 H → Y i H x H' → (∀ v H5, F a = some v → Same H H5 → Kt (.str (ky a)) v H5) → (∀ H3, F a = none → Same H H3 → Kn H3) →
      g x (wipe σ vs) H' fun σ2 H2 => wipe σ2 vs = wipe σ vs ∧ tt σ2 H2 fun b H3 => if b = true then tk σ2 H3 fun y H4 => tv σ2 H4 fun z H5 => Kt y z H5 else Kn H3)
    (hd : ∀ H, Same H1 H → H D = some (.dK (tab id (kept ky F src))) → Qd H) :
    ∃ W : Nat → Nat → Hp → Prop, (∃ m, W 0 m (upd H1 D (.dK []))) ∧ ∀ i m H, W i m H →
      (J.stop i H ∧ Qd H) ∨ (J.go i H ∧ ∃ Nx : Hp → Prop, (∀ H', Nx H' → ∃ m', m' < m ∧ W (i + 1) m' H') ∧ ∀ x H', J.yld i H x H' → g x (wipe σ vs) H' fun σ2 H2 => wipe σ2 vs = wipe σ vs ∧ tt σ2 H2 fun b H3 =>
        if b = true then tk σ2 H3 fun y H4 => tv σ2 H4 fun z H5 => ∃ kvs k, y = kV k ∧ H5 D = some (.dK kvs) ∧ kvs.length < sizeLine ∧ Nx (upd H5 D (.dK (putK kvs k z))) else Nx H3) := by
  subst hn
  refine dc_it wk (fun i H => Same H1 H ∧ H D = some (.dK (tab id (kept ky F (src.take i))))) ⟨same_upd hD, upd_same⟩ (fun i H _ p => hG H p.1) (fun i x H H' hi p y => ?_) (fun H p => ?_)
  · obtain ⟨p1, p2⟩ := p
    have ha : src[i]? = some src[i] := List.getElem?_eq_getElem hi
    refine hs i src[i] x H H' (fun y z H5 => ∃ kvs k, y = kV k ∧ H5 D = some (.dK kvs) ∧ kvs.length < sizeLine ∧ _) _ ha p1 y (fun v H5 hf s5 => ?_) (fun H3 hf s3 => ?_)
    · refine ⟨_, Sum.inr (ky src[i]), rfl, s5 _ _ p2, ?_, same_upd' (p1.trans s5) hD, ?_⟩
      · rw [tab_len]
        refine Nat.lt_of_le_of_lt (List.length_filterMap_le _ _) ?_
        rw [List.length_take]; omega
      · rw [upd_same, kept_snoc ky F ha, hf]
        exact congrArg (fun l => some (HO.dK l)) (put_new (f := id) (fresh_key nd ha))
    · exact ⟨p1.trans s3, by rw [s3 _ _ p2, kept_snoc ky F ha, hf]; simp⟩
  · obtain ⟨p1, p2⟩ := p
    rw [List.take_of_length_le (Nat.le_refl _)] at p2
    exact hd H p1 p2
/-- no dict -/
def NoD : HO → Prop
  | .dK _ => False
  | .frz _ (.dK _) => False
  | _ => True
theorem noD_ne {H : Hp} {d b : Addr} {o : HO} {kvs : List (Key × V)} (n : NoD o) (h : H d = some (.dK kvs)) (e : H b = some o) : b ≠ d := fun z => by
  rw [z, h] at e; cases e; exact n
theorem noD_nf {H : Hp} {d b : Addr} {o : HO} {od : Obj} {kvs : List (Key × V)} (n : NoD o) (h : H d = some (.frz od (.dK kvs))) (e : H b = some o) : b ≠ d := fun z => by
  rw [z, h] at e; cases e; exact n
/-- .. whose values are new things -/
theorem dc_ref (wk : Walk J n G Y) (src : List α) (ky : α → Str) (Ob : Hp → Addr → Prop) (hOb : ∀ H H' p, Ob H p → (∀ b o, NoD o → H b = some o → H' b = some o) → Ob H' p) (hOs : ∀ H p, Ob H p → ∃ o, H p = some o ∧ ∀ kvs, o ≠ .dK kvs) (nd : (src.map ky).Nodup) (hn : n = src.length) (hz : n ≤ sizeLine) (hD : H1 D = none) (hG : ∀ H, Same H1 H → G H)
    (hs : ∀ (i : Nat) (a : α) (x : V) (H H' : Hp) (Kt : V → V → Hp → Prop), src[i]? = some a → Same H1 H → Y i H x H' → (∀ p H5, Same H H5 → H p = none → Ob H5 p → Kt (.str (ky a)) (.ref p) H5) →
      g x (wipe σ vs) H' fun σ2 H2 => wipe σ2 vs = wipe σ vs ∧ tk σ2 H2 fun y H4 => tv σ2 H4 fun z H5 => Kt y z H5)
    (hd : ∀ H (L : List (Str × Addr)), Same H1 H → L.map (·.1) = src.map ky → H D = some (.dK (tab V.ref L)) → (L.map (·.2)).Nodup → (∀ q ∈ L, Ob H q.2 ∧ H1 q.2 = none) → Qd H) :
    ∃ W : Nat → Nat → Hp → Prop, (∃ m, W 0 m (upd H1 D (.dK []))) ∧ ∀ i m H, W i m H →
      (J.stop i H ∧ Qd H) ∨ (J.go i H ∧ ∃ Nx : Hp → Prop, (∀ H', Nx H' → ∃ m', m' < m ∧ W (i + 1) m' H') ∧ ∀ x H', J.yld i H x H' → g x (wipe σ vs) H' fun σ2 H2 => wipe σ2 vs = wipe σ vs ∧ tYes σ2 H2 fun b H3 =>
        if b = true then tk σ2 H3 fun y H4 => tv σ2 H4 fun z H5 => ∃ kvs k, y = kV k ∧ H5 D = some (.dK kvs) ∧ kvs.length < sizeLine ∧ Nx (upd H5 D (.dK (putK kvs k z))) else Nx H3) := by
  subst hn
  refine dc_it wk (fun i H => Same H1 H ∧ ∃ L : List (Str × Addr), L.map (·.1) = (src.take i).map ky ∧ H D = some (.dK (tab V.ref L)) ∧ (L.map (·.2)).Nodup ∧ ∀ q ∈ L, Ob H q.2 ∧ H1 q.2 = none) ⟨same_upd hD, [], rfl, upd_same, by simp, fun q h => by cases h⟩ (fun i H _ p => hG H p.1) (fun i x H H' hi p y => ?_) (fun H p => ?_)
  · obtain ⟨p1, L, p2, p3, p4, p5⟩ := p
    have ha : src[i]? = some src[i] := List.getElem?_eq_getElem hi
    simp only [tYes, if_true]
    refine hs i src[i] x H H' (fun y z H5 => ∃ kvs k, y = kV k ∧ H5 D = some (.dK kvs) ∧ kvs.length < sizeLine ∧ _) ha p1 y (fun q H5 s5 nq ob => ?_)
    have fk : ¬ ky src[i] ∈ L.map (·.1) := fun h => by
      rw [p2] at h
      have := fresh_key (F := fun _ => some V.non) nd ha
      refine this ?_
      obtain ⟨b, hb, e⟩ := List.mem_map.mp h
      exact List.mem_map.mpr ⟨(ky b, V.non), List.mem_filterMap.mpr ⟨b, hb, rfl⟩, e⟩
    have hlen : L.length ≤ i := by
      have := congrArg List.length p2
      rw [List.length_map, List.length_map, List.length_take] at this
      omega
    have ne : ∀ b, Ob H b → b ≠ D := fun b ob e => by
      obtain ⟨o, h1, h2⟩ := hOs _ _ ob
      rw [e, p3] at h1
      exact h2 _ (Option.some.inj h1).symm
    refine ⟨_, Sum.inr (ky src[i]), rfl, s5 _ _ p3, by rw [tab_len]; omega, same_upd' (p1.trans s5) hD, L ++ [(ky src[i], q)], ?_, ?_, ?_, ?_⟩
    · rw [List.map_append, p2, List.take_add_one, ha, List.map_append]; rfl
    · rw [upd_same]
      exact congrArg (fun l => some (HO.dK l)) (put_new (f := V.ref) fk)
    · rw [List.map_append, List.nodup_append]
      refine ⟨p4, by simp, fun a ha b hb e => ?_⟩
      subst e
      have e : a = q := by simpa using hb
      subst e
      obtain ⟨r, hr, e⟩ := List.mem_map.mp ha
      obtain ⟨o, h1, _⟩ := hOs _ _ (p5 r hr).1
      rw [e, nq] at h1
      cases h1
    · intro r hr
      rcases List.mem_append.mp hr with hr | hr
      · obtain ⟨h1, h2⟩ := p5 r hr
        exact ⟨hOb _ _ _ h1 fun b o nn e => by rw [upd_ne (noD_ne nn p3 e)]; exact s5 _ _ e, h2⟩
      · have e : r = (ky src[i], q) := by simpa using hr
        subst e
        have nD : q ≠ D := fun e => by rw [e, p3] at nq; cases nq
        exact ⟨hOb _ _ _ ob fun b o nn e => by rw [upd_ne (noD_ne nn (s5 _ _ p3) e)]; exact e, p1.free nq⟩
  · obtain ⟨p1, L, p2, p3, p4, p5⟩ := p
    rw [List.take_of_length_le (Nat.le_refl _)] at p2
    exact hd H L p1 p2 p3 p4 p5
end

section
variable {β : Type} {f : β → V} {l : List (Str × β)} {d : Addr} {i j k : Nat} {te tk tv : TE} {tt : TT} {vs : List Nat} {σ : L2.St} {H : Hp} {Q : VK} {K : PySem.W.Frag}
/-- {x: e for x in d}, e makes nothing -/
theorem lk_dict (F : Str × β → V) (nd : (l.map (·.1)).Nodup) (hσ : σ[i]? = some (some (.ref d))) (hR : Rd H d (.dK (tab f l))) (hz : l.length ≤ sizeLine)
    (hs : ∀ (p : Str × β) (H1 : Hp) (Kt : V → V → Hp → Prop), p ∈ l → RdM H H1 → (∀ H4, Same H1 H4 → Kt (.str p.1) (F p) H4) → wipe ((wipe σ vs).set j (some (.str p.1))) vs = wipe σ vs ∧ tk ((wipe σ vs).set j (some (.str p.1))) H1 fun y H4 => tv ((wipe σ vs).set j (some (.str p.1))) H4 fun z H5 => Kt y z H5)
    (hd : ∀ D H', Same H H' → H D = none → H' D = some (.dK (tab id (l.map fun p => (p.1, F p)))) → Q (.ref D) H') : tLkE (tDc (iKeys (tVar i)) (gName j) tYes tk tv vs) σ H Q := by
  refine lkE_of d _ (Lk.of_rd hR) fun od H0 h0 he => ?_
  refine ⟨_, hσ, d, od, rfl, .inl ⟨_, h0, fun D hD => ?_⟩⟩
  refine dc_src walk_keys l (·.1) (fun p => some (F p)) nd (tab_len f l) (by rw [tab_len]; exact hz) hD (fun H1 s => s _ _ h0) (fun m p x H1 H2 Kt Kn hp s1 hy hk hn => ?_) (fun H1 s1 e => ?_)
  · obtain ⟨rfl, ky, v, hv, rfl⟩ := hy
    rw [tab_at, hp] at hv
    cases (show (Sum.inr p.1, f p.2) = (ky, v) from Option.some.inj hv)
    obtain ⟨a, b⟩ := hs p H2 Kt (List.mem_of_getElem? hp) ((lk_rdm hR h0 he).trans s1.rdm) (fun H4 s4 => hk _ H4 rfl s4)
    exact ⟨a, by simp only [tYes, if_true]; exact b⟩
  · refine ⟨s1 _ _ h0, hd D _ (same_res he s1) (lk_free h0 he hD) ((res_new h0 hD).trans ?_)⟩
    rw [e]
    congr 3
    unfold kept
    induction l with
    | nil => rfl
    | cons p l ih => simp
/-- {x: e for x in d}, e makes a new thing each -/
theorem lk_dictN (Ob : Hp → Addr → Prop) (hOb : ∀ H H' p, Ob H p → (∀ b o, NoD o → H b = some o → H' b = some o) → Ob H' p) (hOs : ∀ H p, Ob H p → ∃ o, H p = some o ∧ ∀ kvs, o ≠ .dK kvs) (nd : (l.map (·.1)).Nodup) (hσ : σ[i]? = some (some (.ref d))) (hR : Rd H d (.dK (tab f l))) (hz : l.length ≤ sizeLine)
    (hs : ∀ (p : Str × β) (H1 : Hp) (Kt : V → V → Hp → Prop), p ∈ l → RdM H H1 → (∀ q H4, Same H1 H4 → H1 q = none → Ob H4 q → Kt (.str p.1) (.ref q) H4) → wipe ((wipe σ vs).set j (some (.str p.1))) vs = wipe σ vs ∧ tk ((wipe σ vs).set j (some (.str p.1))) H1 fun y H4 => tv ((wipe σ vs).set j (some (.str p.1))) H4 fun z H5 => Kt y z H5)
    (hd : ∀ D H' (L : List (Str × Addr)), Same H H' → H D = none → L.map (·.1) = l.map (·.1) → H' D = some (.dK (tab V.ref L)) → (L.map (·.2)).Nodup → (∀ q ∈ L, Ob H' q.2 ∧ H q.2 = none) → Q (.ref D) H') : tLkE (tDc (iKeys (tVar i)) (gName j) tYes tk tv vs) σ H Q := by
  refine lkE_of d _ (Lk.of_rd hR) fun od H0 h0 he => ?_
  refine ⟨_, hσ, d, od, rfl, .inl ⟨_, h0, fun D hD => ?_⟩⟩
  refine dc_ref walk_keys l (·.1) Ob hOb hOs nd (tab_len f l) (by rw [tab_len]; exact hz) hD (fun H1 s => s _ _ h0) (fun m p x H1 H2 Kt hp s1 hy hk => ?_) (fun H1 L s1 e1 e2 e3 e4 => ?_)
  · obtain ⟨rfl, ky, v, hv, rfl⟩ := hy
    rw [tab_at, hp] at hv
    cases (show (Sum.inr p.1, f p.2) = (ky, v) from Option.some.inj hv)
    exact hs p H2 Kt (List.mem_of_getElem? hp) ((lk_rdm hR h0 he).trans s1.rdm) hk
  · refine ⟨s1 _ _ h0, hd D _ L (same_res he s1) (lk_free h0 he hD) e1 ((res_new h0 hD).trans e2) e3 fun q hq => ?_⟩
    obtain ⟨h1, h2⟩ := e4 q hq
    exact ⟨hOb _ _ _ h1 fun b o nn e => by rw [res_ne (noD_nf nn (s1 _ _ h0) e)]; exact e, lk_free h0 he h2⟩
/-- {x: e for x, v in d.items() if ..} -/
theorem lk_dictF (F : Str × β → Option V) (nd : (l.map (·.1)).Nodup) (hσ : σ[i]? = some (some (.ref d))) (hR : Rd H d (.dK (tab f l))) (hz : l.length ≤ sizeLine)
    (hs : ∀ (p : Str × β) (H1 : Hp) (Kt : V → V → Hp → Prop) (Kn : Hp → Prop), p ∈ l → RdM H H1 → (∀ v H4, F p = some v → Same H1 H4 → Kt (.str p.1) v H4) → (∀ H3, F p = none → Same H1 H3 → Kn H3) →
      wipe (((wipe σ vs).set j (some (.str p.1))).set k (some (f p.2))) vs = wipe σ vs ∧ tt (((wipe σ vs).set j (some (.str p.1))).set k (some (f p.2))) H1 fun b H3 => if b = true then tk (((wipe σ vs).set j (some (.str p.1))).set k (some (f p.2))) H3 fun y H4 => tv (((wipe σ vs).set j (some (.str p.1))).set k (some (f p.2))) H4 fun z H5 => Kt y z H5 else Kn H3)
    (hd : ∀ D H', Same H H' → H D = none → H' D = some (.dK (tab id (kept (·.1) F l))) → Q (.ref D) H') : tLkE (tDc (iItems (tVar i)) (gTup K 2 (gCons (gName j) (gCons (gName k) gNil))) tt tk tv vs) σ H Q := by
  refine lkE_of d _ (Lk.of_rd hR) fun od H0 h0 he => ?_
  refine ⟨_, hσ, d, od, _, rfl, h0, fun D hD => ?_⟩
  refine dc_src walk_items l (·.1) F nd (tab_len f l) (by rw [tab_len]; exact hz) hD (fun H1 s => s _ _ h0) (fun m p x H1 H2 Kt Kn hp s1 hy hk hn => ?_) (fun H1 s1 e => ?_)
  · obtain ⟨t, y, z, rfl, nt, rfl, e1, e2⟩ := hy
    simp only [tab_at, hp] at e1 e2
    cases (show kV (Sum.inr p.1) = y from Option.some.inj e1)
    cases (show f p.2 = z from Option.some.inj e2)
    have st : Same H1 (upd H1 t (.tup [kV (Sum.inr p.1), f p.2])) := same_upd nt
    refine ⟨t, _, rfl, SqT.of' upd_same, rfl, _, _, rfl, _, _, rfl, rfl, ?_⟩
    exact hs p _ Kt Kn (List.mem_of_getElem? hp) ((lk_rdm hR h0 he).trans (s1.trans st).rdm) (fun y H4 hf s4 => hk y H4 hf (st.trans s4)) (fun H3 hf s3 => hn H3 hf (st.trans s3))
  · exact ⟨s1 _ _ h0, hd D _ (same_res he s1) (lk_free h0 he hD) ((res_new h0 hD).trans e)⟩
end
end K66
set_option maxHeartbeats 4000000
/-! Lists compared; dicts merged. -/
namespace K66
open PySem PySem.Spec PyProof.Rows L2
theorem eqvAll_strs : ∀ l l' : List Str, PyData.eqvAll (l.map .str) (l'.map .str) = decide (l = l')
  | [], [] => by simp [PyData.eqvAll]
  | [], y :: l' => by simp [PyData.eqvAll]
  | x :: l, [] => by simp [PyData.eqvAll]
  | x :: l, y :: l' => by
    show (PyData.eqv (.str x) (.str y) && PyData.eqvAll (l.map .str) (l'.map .str)) = _
    rw [eqvAll_strs l l']
    have : PyData.eqv (.str x) (.str y) = decide (x = y) := by
      unfold PyData.eqv
      by_cases e : x = y <;> simp [e]
    rw [this]
    by_cases e1 : x = y <;> by_cases e2 : l = l' <;> simp [e1, e2]
theorem eqv_strs (l l' : List Str) : PyData.eqv (.list (l.map .str)) (.list (l'.map .str)) = decide (l = l') := by
  rw [PyData.eqv]; exact eqvAll_strs l l'
theorem eqv_strsT (l l' : List Str) : PyData.eqv (.tuple (l.map .str)) (.tuple (l'.map .str)) = decide (l = l') := by
  rw [PyData.eqv]; exact eqvAll_strs l l'
theorem eqv_nil (ds : List PyData) : PyData.eqv (.list ds) (.list []) = ds.isEmpty := by
  rw [PyData.eqv]
  cases ds <;> simp [PyData.eqvAll]
abbrev StrOk (l : List Str) : Prop := ∀ x ∈ l, PyData.strOk x = true
theorem canLay_strs : ∀ l : List Str, StrOk l → PyData.canLayAll0 (l.map .str) = true
  | [], _ => by simp [PyData.canLayAll0]
  | x :: l, h => by
    show PyData.canLayAll0 (.str x :: l.map .str) = true
    rw [PyData.canLayAll0, canLay_strs l fun y hy => h y (List.mem_cons_of_mem _ hy)]
    simp [PyData.canLay0, h x (List.mem_cons_self ..)]
theorem depth_strs : ∀ l : List Str, PyData.depthAll (l.map .str) = 0
  | [] => by simp [PyData.depthAll]
  | x :: l => by
    show PyData.depthAll (.str x :: l.map .str) = 0
    rw [PyData.depthAll, depth_strs l]
    simp [PyData.depth]
theorem canLay_ints : ∀ l : List Int, PyData.canLayAll0 (l.map .int) = true
  | [] => by simp [PyData.canLayAll0]
  | x :: l => by
    show PyData.canLayAll0 (.int x :: l.map .int) = true
    rw [PyData.canLayAll0, canLay_ints l]
    simp [PyData.canLay0]
theorem depth_ints : ∀ l : List Int, PyData.depthAll (l.map .int) = 0
  | [] => by simp [PyData.depthAll]
  | x :: l => by
    show PyData.depthAll (.int x :: l.map .int) = 0
    rw [PyData.depthAll, depth_ints l]
    simp [PyData.depth]
theorem shaped_strs (l : List Str) (h : StrOk l) : SeqAt.shaped (.list (l.map .str)) = true := by
  unfold SeqAt.shaped
  rw [PyData.canLay0, PyData.depth, depth_strs, canLay_strs l h]
  rfl
theorem shaped_strsT (l : List Str) (h : StrOk l) : SeqAt.shaped (.tuple (l.map .str)) = true := by
  unfold SeqAt.shaped
  rw [PyData.canLay0, PyData.depth, depth_strs, canLay_strs l h]
  rfl
theorem shaped_ints (l : List Int) : SeqAt.shaped (.list (l.map .int)) = true := by
  unfold SeqAt.shaped
  rw [PyData.canLay0, PyData.depth, depth_ints, canLay_ints]
  rfl
theorem shaped_nil : SeqAt.shaped (.list []) = true := shaped_strs [] fun _ h => by cases h
theorem dpAll_strs {K : PySem.W.Frag} {H : Hp} : ∀ l : List Str, DpAll K H (l.map V.str) (l.map .str)
  | [] => .nil
  | x :: l => .cons (.str x) (dpAll_strs l)
theorem dpAll_ints {K : PySem.W.Frag} {H : Hp} : ∀ l : List Int, DpAll K H (l.map V.int) (l.map .int)
  | [] => .nil
  | x :: l => .cons (.int x) (dpAll_ints l)
theorem dp_strs {K : PySem.W.Frag} {H : Hp} {a : Addr} {l : List Str} (h : SqL K H a (l.map V.str)) : Dp K H (.ref a) (.list (l.map .str)) := .lst h (dpAll_strs l)
theorem dp_strsT {K : PySem.W.Frag} {H : Hp} {a : Addr} {l : List Str} (h : SqT K H a (l.map V.str)) : Dp K H (.ref a) (.tuple (l.map .str)) := .tup h (dpAll_strs l)
theorem dp_ints {K : PySem.W.Frag} {H : Hp} {a : Addr} {l : List Int} (h : SqL K H a (l.map V.int)) : Dp K H (.ref a) (.list (l.map .int)) := .lst h (dpAll_ints l)
theorem dp_nil {K : PySem.W.Frag} {H : Hp} {a : Addr} (h : SqL K H a []) : Dp K H (.ref a) (.list []) := .lst h .nil

/-- new keys are put behind -/
theorem merge_new {β : Type} {f : β → V} : ∀ {new : List (Str × β)} {l : List (Str × β)}, ((l ++ new).map (·.1)).Nodup → mergeK (tab f l) (new.map fun p => (Sum.inr p.1, f p.2)) = tab f (l ++ new)
  | [], l, _ => by rw [List.append_nil]; rfl
  | p :: new, l, nd => by
    show mergeK (putK (tab f l) (Sum.inr p.1) (f p.2)) (new.map fun p => (Sum.inr p.1, f p.2)) = _
    have nd' : ((l ++ [p] ++ new).map (·.1)).Nodup := by rw [List.append_assoc]; exact nd
    have hp : ¬ p.1 ∈ l.map (·.1) := fun h => by
      rw [List.map_append, List.nodup_append] at nd
      exact nd.2.2 p.1 h p.1 (List.mem_map.mpr ⟨p, List.mem_cons_self .., rfl⟩) rfl
    rw [put_new hp, merge_new nd', List.append_assoc]
    rfl
theorem Paired.map_left {α β γ : Type} {R : γ → β → Prop} {f : α → γ} : ∀ {l : List α} {l' : List β}, Paired (fun a b => R (f a) b) l l' → Paired R (l.map f) l'
  | _, _, .nil => .nil
  | _, _, .cons h t => .cons h (Paired.map_left t)
theorem Paired.map_right {α β γ : Type} {R : α → γ → Prop} {f : β → γ} : ∀ {l : List α} {l' : List β}, Paired (fun a b => R a (f b)) l l' → Paired R l (l'.map f)
  | _, _, .nil => .nil
  | _, _, .cons h t => .cons h (Paired.map_right t)
theorem Paired.at {α β : Type} {R : α → β → Prop} : ∀ {l : List α} {l' : List β} {i : Nat} {a : α}, Paired R l l' → l[i]? = some a → ∃ b, l'[i]? = some b ∧ R a b
  | _, _, 0, a, .cons h _, e => ⟨_, rfl, by cases (show _ = a from Option.some.inj e); exact h⟩
  | _, _, i + 1, a, .cons _ t, e => by
    obtain ⟨b, h1, h2⟩ := Paired.at (i := i) t (by simpa using e)
    exact ⟨b, by simpa using h1, h2⟩
  | _, _, 0, _, .nil, e => by cases e
  | _, _, i + 1, _, .nil, e => by cases e
theorem Paired.snoc {α β : Type} {R : α → β → Prop} : ∀ {l : List α} {l' : List β} {a : α} {b : β}, Paired R l l' → R a b → Paired R (l ++ [a]) (l' ++ [b])
  | _, _, _, _, .nil, h => .cons h .nil
  | _, _, _, _, .cons h t, h' => .cons h (Paired.snoc t h')
end K66
set_option maxHeartbeats 4000000
/-! Sorted texts; a value set anew in a dict. -/
namespace K66
open PySem PySem.Spec PyProof.Rows L2
theorem rising_pw : ∀ (l : List Str) (p : Str), risingS p l = true → (p :: l).Pairwise fun a b => a.cps.toList ≤ b.cps.toList
  | [], p, _ => by simp
  | x :: r, p, h => by
    unfold risingS at h
    rw [Bool.and_eq_true] at h
    have h1 := rising_pw r x h.2
    have hx : p.cps.toList ≤ x.cps.toList := by
      have := h.1
      rw [ltCps_eq] at this
      exact List.not_lt.mp (by simpa using this)
    refine List.pairwise_cons.mpr ⟨fun y hy => ?_, h1⟩
    rcases List.mem_cons.mp hy with rfl | hy
    · exact hx
    · exact List.le_trans hx ((List.pairwise_cons.mp h1).1 y hy)
theorem sorted_pw : ∀ l : List Str, sortedS l = true → l.Pairwise fun a b => a.cps.toList ≤ b.cps.toList
  | [], _ => List.Pairwise.nil
  | x :: r, h => rising_pw r x h
theorem sortedS_eq {l l' : List Str} (p : l.Perm l') (h : sortedS l = true) (h' : sortedS l' = true) : l = l' := by
  refine List.Perm.eq_of_pairwise (fun a b _ _ h1 h2 => ?_) (sorted_pw l h) (sorted_pw l' h') p
  have := List.le_antisymm h1 h2
  cases a; cases b
  simp only [Str.mk.injEq]
  exact Array.toList_inj.mp this
theorem put_old {T : List (Str × Option Str)} {f : Option Str → V} {k : Str} {v : Option Str} (hk : k ∈ T.map (·.1)) : putK (tab f T) (Sum.inr k) (f v) = tab f (setP T k v) := by
  unfold putK
  rw [if_pos]
  · unfold tab setP
    rw [List.map_map, List.map_map]
    refine List.map_congr_left fun p hp => ?_
    by_cases e : p.1 = k
    · simp [e]
    · simp [e]
  · rw [valV_any, val_iff, decide_eq_true hk]
end K66
set_option maxHeartbeats 4000000
/-! The text by places, what the top has made, the first promises. -/
namespace K66
open PySem PySem.Spec PyProof.Rows L2
def top (i : Nat) : Stmt := PySem.Challenge.pw_newsdoors_k66_whole_best_just_by_halves.main.body.getD i (.Pass ⟨0, 0, 0, 0⟩)

/-- a def of the top: where it stands, its promise is any -/
def Dfn (K : PySem.W.Frag) (mg : Str → Option Value) (x : Str) (i : Nat) : Prop :=
  ∃ (f : Addr) (fd : FuncData), FunD K x x (defArgs (top i)) (defBody (top i)) (defScope (top i)) [] [] f fd ∧ mg x = some (.ref f)
/-- a def that is called by its name -/
structure Cal (P : Program) (w : World) (K : PySem.W.Frag) (mg : Str → Option Value) (base : Heap) (k : Nat) (x : Str) (sp : Sp) : Prop where
  ex : ∃ (f : Addr) (fd : FuncData) (ps : List Str), FnOk P w K mg base CX0 k f fd ps sp ∧ mg x = some (.ref f) ∧ PySem.W.keepIn K (.ref f) = true ∧ Binds K fd ps []
section
variable {P : Program} {w : World} {K : PySem.W.Frag} {mg : Str → Option Value} {base : Heap}
theorem cal_of {x : Str} {i : Nat} {N ps : List Str} {k : Nat} {sp : Sp} (D : Dfn K mg x i) (S : FnScope N ps (defScope (top i)))
    (hb : ∀ (kV doc pm : Value) (an : Option Addr) (cdv ct : Value) (us : List Value), us.length = ps.length → bindArgs (PySem.W.fnOf x x (defArgs (top i)) (defBody (top i)) (defScope (top i)) .none kV doc pm an cdv ct) ⟨us, []⟩ = pure (ps.zip us))
    (len : ∀ vs H Q E, sp vs H Q E → vs.length = ps.length)
    (hbody : ∀ (f : Addr) (cdv : Value) (A : Around) (outer : List Env) (s : Shared) (H : Hp) (vs : List V) (Q : VK) (E : XK), Room k (A.deeper (envOfC x (defScope (top i)) s.heap.objs.size f cdv)) → sp vs H Q E →
      ∃ t, PSs (cxOf CX0 P w K mg base N x (defScope (top i)) f cdv A outer s H E).nox (defBody (top i)) t ∧ t { nx := fun _ H' => Q .non H', rt := Q } (start N vs) H) : Cal P w K mg base (k + 1) x sp := by
  obtain ⟨f, fd, F, hm⟩ := D
  refine ⟨f, fd, ps, F.ok S len fun cdv A outer s H vs Q E hr hsp => ?_, hm, F.kp, F.bindsN hb⟩
  obtain ⟨t, h, q⟩ := hbody f cdv A outer s H vs Q E hr hsp
  exact ⟨t, h.nox, q⟩
end
section
variable {X : Cx} {e : Expr} {es : List Expr} {x : Str} {k j : Nat} {sp : Sp} {t : TA} {p pos : Pos}
theorem pc (c : Cal X.prog X.w X.K X.mg X.base k x sp) (hr : Room j X.A) (ha : PA X (e :: es) t) (hk : k ≤ j := by decide) (hg : Gl X x := by rfl)
    (hdb : (x == ("__debug__" : Str)) = false := by decide) (he : starEach (e :: es) X.env = (false, eval e X.env) :: starEach es X.env := by rfl) (hpl : (backTo pos (starEach es X.env)).any (·.1) = false := by rfl) :
    PE X (.Call (.Name x p) (e :: es) [] pos) (tCall sp [] E0 t) := by
  obtain ⟨f, fd, ps, F, hm, kp, b⟩ := c.ex
  exact pe_call F (hr.mono hk) hg hm kp b .nil pass0 ha hdb he hpl
theorem pc0 (c : Cal X.prog X.w X.K X.mg X.base k x sp) (hr : Room j X.A) (hk : k ≤ j := by decide) (hg : Gl X x := by rfl)
    (hdb : (x == ("__debug__" : Str)) = false := by decide) :
    PE X (.Call (.Name x p) [] [] pos) (tCall sp [] E0 tNil) := by
  obtain ⟨f, fd, ps, F, hm, kp, b⟩ := c.ex
  exact pe_call0 F (hr.mono hk) hg hm kp b .nil pass0 hdb
end

/-- what the top has made, as the walk asks it -/
abbrev frees : List Str := ["isinstance", "len", "all", "range", "sum", "sorted", "tuple", "min", "dict", "zip", "enumerate", "abs", "str", "max", "list", "int", "bool"]
/-- the class Want as the top has made it -/
structure WantTx (K : PySem.W.Frag) (mg : Str → Option Value) (C : Addr) : Prop where
  cl : Cls K C
  nN : NoAttr K C "names"
  nA : NoAttr K C "all_but"
  mgC : mg "Want" = some (.ref C)
  ini : ∃ (f : Addr) (fd : FuncData) (a : Addr), Mk K C f ∧ FunD K "__init__" "Want.__init__" (defArgs (inClass (top 13) 0)) (defBody (inClass (top 13) 0)) (defScope (inClass (top 13) 0)) [.ref a] [("all_but", .bl false)] f fd ∧ ∀ H, SqT K H a []
  setn : ∃ (f : Addr) (fd : FuncData), Meth K C "set_names" f ∧ FunD K "set_names" "Want.set_names" (defArgs (inClass (top 13) 1)) (defBody (inClass (top 13) 1)) (defScope (inClass (top 13) 1)) [] [] f fd
  has : ∃ (f : Addr) (fd : FuncData), Meth K C "has" f ∧ FunD K "has" "Want.has" (defArgs (inClass (top 13) 2)) (defBody (inClass (top 13) 2)) (defScope (inClass (top 13) 2)) [] [] f fd
structure Tx (K : PySem.W.Frag) (mg : Str → Option Value) : Prop where
  fr : ∀ x ∈ frees, mg x = none
  letters : ∃ t, mg "LETTERS" = some (.str "abcdefghijklmnopqrstuvwxyz" t)
  mostL : ∃ t, mg "MOST_LETTERS" = some (.int 8 t)
  mostN : ∃ t, mg "MOST_NAMES" = some (.int 60 t)
  mostH : ∃ t, mg "MOST_HALLS" = some (.int 40 t)
  mostW : ∃ t, mg "MOST_WEIGHT" = some (.int 1000000000000 t)
  want : ∃ C, WantTx K mg C
  d47 : ∃ (f : Addr) (fd : FuncData), FunD K "steps" "steps" (defArgs (top 47)) (defBody (top 47)) (defScope (top 47)) [] [("start", .non)] f fd ∧ mg "steps" = some (.ref f)
  d10 : Dfn K mg "is_whole" 10
  d11 : Dfn K mg "is_name" 11
  d12 : Dfn K mg "are_unlike_names" 12
  d15 : Dfn K mg "nobody" 15
  d20 : Dfn K mg "comes_up" 20
  d21 : Dfn K mg "are_halls" 21
  d22 : Dfn K mg "need_halls" 22
  d23 : Dfn K mg "need_hall" 23
  d25 : Dfn K mg "ways_of" 25
  d28 : Dfn K mg "is_weight" 28
  d29 : Dfn K mg "are_weights" 29
  d30 : Dfn K mg "need_weights" 30
  d31 : Dfn K mg "need_hall_weights" 31
  d32 : Dfn K mg "sides_of" 32
  d33 : Dfn K mg "doors_between" 33
  d34 : Dfn K mg "cost_from" 34
  d35 : Dfn K mg "cost" 35
  d36 : Dfn K mg "best_halls" 36
  d37 : Dfn K mg "weight_below" 37
  d38 : Dfn K mg "paper_from" 38
  d39 : Dfn K mg "paper_of_root" 39
  d40 : Dfn K mg "root_right" 40
  d41 : Dfn K mg "turned" 41
  d43 : Dfn K mg "need_wanted" 43
  d44 : Dfn K mg "doors_of" 44
  d45 : Dfn K mg "begin_of" 45
  d46 : Dfn K mg "steps_from_hall" 46
  d49 : Dfn K mg "_law_store" 49
  d50 : Dfn K mg "_law_draw" 50
  d51 : Dfn K mg "_law_names" 51
  d52 : Dfn K mg "_law_hall_names" 52
  d53 : Dfn K mg "_law_halls" 53
  d54 : Dfn K mg "_law_weights" 54
  d55 : Dfn K mg "_law_sides" 55
  d56 : Dfn K mg "_law_far" 56
  d57 : Dfn K mg "_law_halves_right" 57
  d58 : Dfn K mg "_law_walk_right" 58
  d59 : Dfn K mg "_law_news_right" 59
  d60 : Dfn K mg "_law_together" 60
  d61 : Dfn K mg "law" 61

/-! ### names -/
def LET : Str := "abcdefghijklmnopqrstuvwxyz"
structure IsNm (s : Str) : Prop where
  pos : 1 ≤ s.length
  le : s.length ≤ 8
  sg : ∀ c ∈ s.cps.toList, c ∈ LET.cps.toList

section
variable {X : Cx} {e : Expr} {es : List Expr} {x : Str} {id : String} {t : TA} {r : List V → Hp → VK → Prop} {p pos : Pos}
theorem pB (hc : CallR X (.builtin id) r) (T : Tx X.K X.mg) (ha : PA X (e :: es) t) (hf : x ∈ frees := by decide +kernel) (hv : bootBuiltins x = some (.builtin id) := by decide +kernel) (hg : Gl X x := by rfl) (hn : x ≠ "__name__" := by decide) (hdb : (x == ("__debug__" : Str)) = false := by decide)
    (he : starEach (e :: es) X.env = (false, eval e X.env) :: starEach es X.env := by rfl) (hpl : (backTo pos (starEach es X.env)).any (·.1) = false := by rfl) : PE X (.Call (.Name x p) (e :: es) [] pos) (tCB r t) :=
  pe_callB hc hg (T.fr x hf) hv ha hn hdb he hpl
theorem pT (hc : CallR X (.type id) r) (T : Tx X.K X.mg) (ha : PA X (e :: es) t) (hf : x ∈ frees := by decide +kernel) (hv : bootBuiltins x = some (.type id) := by decide +kernel) (hg : Gl X x := by rfl) (hn : x ≠ "__name__" := by decide) (hdb : (x == ("__debug__" : Str)) = false := by decide)
    (he : starEach (e :: es) X.env = (false, eval e X.env) :: starEach es X.env := by rfl) (hpl : (backTo pos (starEach es X.env)).any (·.1) = false := by rfl) : PE X (.Call (.Name x p) (e :: es) [] pos) (tCB r t) :=
  pe_callTy hc hg (T.fr x hf) hv ha hn hdb he hpl
/-- isinstance(e, T), T a built-in class by its name -/
theorem pIsi {y : Str} {te : TE} {py : Pos} (n : String) (T : Tx X.K X.mg) (he : PE X e te) (hy : bootBuiltins y = some (.type n) := by decide +kernel) (hfy : y ∈ frees := by decide +kernel) (hgy : Gl X y := by rfl) (hny : y ≠ "__name__" := by decide) (hdy : (y == ("__debug__" : Str)) = false := by decide)
    (hg : Gl X "isinstance" := by rfl)
    (hs : starEach [e, .Name y py] X.env = (false, eval e X.env) :: starEach [.Name y py] X.env := by rfl) (hs2 : starEach [.Name y py] X.env = (false, eval (.Name y py) X.env) :: starEach [] X.env := by rfl) (hpl : (backTo pos (starEach [.Name y py] X.env)).any (·.1) = false := by rfl) (hpl2 : (backTo pos (starEach ([] : List Expr) X.env)).any (·.1) = false := by rfl) :
    PE X (.Call (.Name "isinstance" p) [e, .Name y py] [] pos) (tCB (rIsi X.K) (tCons te (tCons (tC (.ty n)) tNil))) :=
  pe_callB call_isi hg (T.fr "isinstance" (by decide +kernel)) PyProof.Rows.boot_isinstance (pa_cons he (pa_cons (pe_bltn (v := .ty n) hgy (T.fr y hfy) hy rfl hny hdy) pa_nil hs2) hs) (by decide) (by decide) hs hpl
end
theorem iteY {c A B : Prop} [Decidable c] (hc : c) (h : A) : if decide c = true then A else B := by
  rw [if_pos (decide_eq_true hc)]; exact h
theorem iteN {c A B : Prop} [Decidable c] (hc : ¬ c) (h : B) : if decide c = true then A else B := by
  rw [if_neg (by simpa using hc)]; exact h
theorem DGet.rd {H : Hp} {a : Addr} {kvs : List (Key × V)} {k : Key} (e : Rd H a (.dK kvs)) : DGet H a (kV k) (valV kvs k) := .inl ⟨kvs, k, e, rfl, rfl⟩

/-! ### halls -/
def optV : Option Str → V
  | none => .non
  | some u => .str u
abbrev Halls := List (Str × Option Str)
structure Good (T : Halls) (rk : Str → Nat) : Prop where
  t : Tree T rk
  nm : ∀ x, x ∈ T.map (·.1) → IsNm x
  le : T.length ≤ 40
abbrev AtH (H : Hp) (a : Addr) (T : Halls) : Prop := Rd H a (.dK (tab optV T))
theorem small40 {n : Nat} (h : n ≤ 40) : n ≤ sizeLine := Nat.le_trans h (by decide)

section
variable {P : Program} {w : World} {K : PySem.W.Frag} {mg : Str → Option Value} {base : Heap}

def spIsWhole : Sp := fun vs H Q _ => ∃ i : Int, vs = [.int i] ∧ Q (.bl true) H
theorem sc10 : FnScope ["thing"] ["thing"] (defScope (top 10)) := ⟨rfl, rfl, rfl, by decide +kernel, rfl, by decide +kernel, by decide +kernel⟩
theorem c_is_whole (T : Tx K mg) : Cal P w K mg base 1 "is_whole" spIsWhole := by
  refine cal_of T.d10 sc10 (fun _ _ _ _ _ _ us hl => match us, hl with | [_], _ => rfl) (fun vs H Q E h => ?_) (fun f cdv A outer s H vs Q E hr h => ?_)
  · obtain ⟨i, rfl, _⟩ := h; rfl
  · obtain ⟨i, rfl, q⟩ := h
    refine ⟨_, pss_one (ps_ret (pe_and (pIsi "int" T (pv 0)) (pe_one (pe_not (pIsi "bool" T (pv 0)))))), ?_⟩
    refine ⟨_, rfl, _, _, _, _, true, rfl, .ty "int", .base (.int i), kit_ty (by decide +kernel), _, rfl, iteT ?_⟩
    exact ⟨_, rfl, _, _, _, _, false, rfl, .ty "bool", .base (.int i), kit_ty (by decide +kernel), _, rfl, q⟩

def spIsName : Sp := fun vs H Q _ => ∃ x : Str, vs = [.str x] ∧ IsNm x ∧ ∀ H', Same H H' → Q (.bl true) H'
theorem sc11 : FnScope ["thing", "letter"] ["thing"] (defScope (top 11)) := ⟨rfl, rfl, rfl, by decide +kernel, rfl, by decide +kernel, by decide +kernel⟩
theorem c_is_name (T : Tx K mg) : Cal P w K mg base 1 "is_name" spIsName := by
  refine cal_of T.d11 sc11 (fun _ _ _ _ _ _ us hl => match us, hl with | [_], _ => rfl) (fun vs H Q E h => ?_) (fun f cdv A outer s H vs Q E hr h => ?_)
  · obtain ⟨i, rfl, _⟩ := h; rfl
  · obtain ⟨x, rfl, hx, q⟩ := h
    obtain ⟨t8, m8⟩ := T.mostL
    obtain ⟨tl, ml⟩ := T.letters
    refine ⟨_, pss_cons (ps_if (PW.pt (pw_or (pt_not (pt_val (pIsi "str" T (pv 0)))) (pw_or1 (pt_not (pt_chain op_le op_le pe_int (pB call_len_str T (pa_cons (pv 0) pa_nil)) (pe_glob (v := .int 8) rfl m8 ⟨_, rfl⟩)))))) (pss_one (ps_ret pe_bl)) pss_nil)
      (pss_one (ps_ret (pB (cr_all rfl) T (pa_cons (pe_lc (own := [("letter", 1)]) (g := gName 1) (tt := tYes) rfl sc11.nd (pi_str (pv 0)) (blkOk_by (N := ["thing", "letter"]) (sc := defScope (top 11)) (by decide +kernel)) (fun _ _ _ _ _ => pg_name (i := 1) sc11.nd rfl (Or.inl rfl)) (fun _ _ _ _ _ => pts_nil)
        (fun _ _ _ _ _ => pe_cmpR op_in_sign (pv 1) (pe_glob (v := .str "abcdefghijklmnopqrstuvwxyz") rfl ml ⟨_, rfl⟩) rfl)) pa_nil)))), ?_⟩
    refine ⟨_, rfl, _, _, _, _, true, rfl, .ty "str", .base (.str x), kit_ty (by decide +kernel), _, rfl, iteF ?_⟩
    refine ⟨_, rfl, x, rfl, Nat.le_trans hx.le (by decide), _, _, rfl, rfl, _, rfl, iteY (by have := hx.pos; omega) ?_⟩
    refine ⟨_, _, rfl, rfl, _, rfl, iteNS (by have := hx.le; omega) ?_⟩
    refine ⟨_, rfl, x, rfl, fun D hD => ?_⟩
    refine lc_map walk_str x.cps.toList (fun _ => .bl true) (by simp) (by have := hx.le; simp only [Str.length] at this; exact Nat.le_trans this (by decide)) hD (fun _ _ => True.intro) (fun i a y H1 H2 Kt ha s1 hy hk => ?_) (fun H1 s1 e => ?_)
    · obtain ⟨rfl, c, hc, rfl⟩ := hy
      have hca : c = a := by
        rw [← Array.getElem?_toList, ha] at hc
        exact (Option.some.inj hc).symm
      subst hca
      refine ⟨rfl, _, rfl, c, _, rfl, rfl, ?_⟩
      have hm := hx.sg c (List.mem_of_getElem? ha)
      rw [show decide (c ∈ (Str.ofString "abcdefghijklmnopqrstuvwxyz").cps.toList) = true from decide_eq_true hm]
      exact hk _ (Same.refl _)
    · refine ⟨D, x.cps.toList.map fun _ => true, rfl, SqL.of' (by rw [List.map_map]; exact e), ?_⟩
      rw [show ((x.cps.toList.map fun _ => true).all id) = true by simp]
      exact q _ s1

theorem atH_get {H : Hp} {a : Addr} {T : Halls} {x : Str} (h : AtH H a T) (nd : (T.map (·.1)).Nodup) (hx : x ∈ T.map (·.1)) : DGet H a (.str x) (some (optV (par T x))) := by
  have := DGet.rd (k := Sum.inr x) h
  rw [val_mem (f := optV) nd (mem_of_names nd hx)] at this
  exact this
theorem optV_non {o : Option Str} : decide (optV o = .non) = o.isNone := by cases o <;> simp [optV]

/-- the way up comes to the root within as many turns as there are halls -/
def spComesUp : Sp := fun vs H Q _ => ∃ (a : Addr) (x : Str) (T : Halls) (rk : Str → Nat), vs = [.ref a, .str x] ∧ AtH H a T ∧ Good T rk ∧ x ∈ T.map (·.1) ∧ Q (.bl true) H
theorem sc20 : FnScope ["thing", "hall", "here", "turn"] ["thing", "hall"] (defScope (top 20)) := ⟨rfl, rfl, rfl, by decide +kernel, rfl, by decide +kernel, by decide +kernel⟩
theorem c_comes_up (T : Tx K mg) : Cal P w K mg base 1 "comes_up" spComesUp := by
  refine cal_of T.d20 sc20 (fun _ _ _ _ _ _ us hl => match us, hl with | [_, _], _ => rfl) (fun vs H Q E h => ?_) (fun f cdv A outer s H vs Q E hr h => ?_)
  · obtain ⟨a, x, _, _, rfl, _⟩ := h; rfl
  · obtain ⟨a, x, Ts, rk, rfl, hA, G, hx, q⟩ := h
    have hu := hu_of hr
    have t := G.t
    refine ⟨_, pss_cons (ps_set (i := 2) sc20.nd rfl (Or.inl rfl) (pv 1))
      (pss_cons (ps_for PassesOwn.never rfl (pi_range1 rfl (T.fr "range" (by decide +kernel)) (pa_cons (pB call_lenR T (pa_cons (pv 0) pa_nil)) pa_nil)) (pg_name (i := 3) sc20.nd rfl (Or.inl rfl))
        (pss_cons (ps_if (pt_cmp (pc_isN (pe_dget hu (pv 0) (pv 2) (fun _ _ => rfl)))) (pss_one (ps_ret pe_bl)) pss_nil)
        (pss_one (ps_set (i := 2) sc20.nd rfl (Or.inl rfl) (pe_dget hu (pv 0) (pv 2) (fun _ _ => rfl))))))
      (pss_one (ps_ret pe_bl))), ?_⟩
    have hl : (tab optV Ts).length ≤ 40 := by rw [tab_len]; exact G.le
    refine ⟨_, rfl, _, rfl, a, _, rfl, hA, _, rfl, by omega, by omega, ?_⟩
    refine for_range (fun i σ H1 => ∃ (y : Str) (v : Option V), σ = [some (.ref a), some (.str x), some (.str y), v] ∧ H1 = H ∧ (wy Ts rk x)[i]? = some y) ⟨x, none, rfl, rfl, t.wy_zero x⟩ ?_ ?_
    · rintro i σ H1 hi ⟨y, v, rfl, rfl, hy⟩
      have hyn : y ∈ Ts.map (·.1) := t.wy_names hx y (List.mem_of_getElem? hy)
      refine ⟨_, rfl, _, rfl, a, _, rfl, atH_get hA t.nd hyn, _, rfl, ?_⟩
      rw [optV_non]
      cases e : par Ts y with
      | none => exact iteT q
      | some u =>
        refine iteF ?_
        refine ⟨_, rfl, _, rfl, a, _, rfl, atH_get hA t.nd hyn, ?_⟩
        rw [e]
        exact ⟨u, _, rfl, rfl, t.wy_next hy e⟩
    · rintro σ H1 ⟨y, v, rfl, rfl, hy⟩
      have h1 := (List.getElem?_eq_some_iff.mp hy).1
      have h2 := t.wy_len hx
      rw [tab_len] at h1
      omega

def spAreHalls : Sp := fun vs H Q _ => ∃ (a : Addr) (T : Halls) (rk : Str → Nat), vs = [.ref a] ∧ H a = some (.dK (tab optV T)) ∧ Good T rk ∧ ∀ H', Same H H' → Q (.bl true) H'
theorem sc21 : FnScope ["thing", "roots", "hall", "upper"] ["thing"] (defScope (top 21)) := ⟨rfl, rfl, rfl, by decide +kernel, rfl, by decide +kernel, by decide +kernel⟩
theorem one_root {T : Halls} {rk : Str → Nat} (t : Tree T rk) : (T.filterMap fun p => if p.2.isNone = true then some (V.str p.1) else none).length = 1 := by
  obtain ⟨r, hr, ur⟩ := t.root
  have key : ∀ l : Halls, (l.map (·.1)).Nodup → (∀ x, (x, none) ∈ l → x = r) → (l.filterMap fun p => if p.2.isNone = true then some (V.str p.1) else none).length = if (r, none) ∈ l then 1 else 0 := by
    intro l
    induction l with
    | nil => intro _ _; rfl
    | cons p l ih =>
      intro nd hu
      have nd' : (p.1 :: l.map (·.1)).Nodup := nd
      obtain ⟨n1, n2⟩ := List.nodup_cons.mp nd'
      have ih' := ih n2 fun x hx => hu x (List.mem_cons_of_mem _ hx)
      obtain ⟨y, o⟩ := p
      cases o with
      | none =>
        have e : y = r := hu y (List.mem_cons_self ..)
        subst e
        have no : ¬ (y, none) ∈ l := fun h => n1 (List.mem_map.mpr ⟨_, h, rfl⟩)
        rw [if_neg no] at ih'
        simp only [List.filterMap_cons, Option.isNone_none, if_true, List.length_cons, ih', List.mem_cons, true_or]
      | some u =>
        have : ((r, none) ∈ (y, some u) :: l) ↔ (r, none) ∈ l := by
          constructor
          · intro h
            rcases List.mem_cons.mp h with h | h
            · cases h
            · exact h
          · exact List.mem_cons_of_mem _
        simp only [List.filterMap_cons, Option.isNone_some, Bool.false_eq_true, if_false, ih', this]
  rw [key T t.nd ur, if_pos hr]
theorem c_are_halls (T : Tx K mg) : Cal P w K mg base 2 "are_halls" spAreHalls := by
  refine cal_of T.d21 sc21 (fun _ _ _ _ _ _ us hl => match us, hl with | [_], _ => rfl) (fun vs H Q E h => ?_) (fun f cdv A outer s H vs Q E hr h => ?_)
  · obtain ⟨a, _, _, rfl, _⟩ := h; rfl
  · obtain ⟨a, Ts, rk, rfl, hA, G, q⟩ := h
    have hu := hu_of hr
    have t := G.t
    obtain ⟨t40, m40⟩ := T.mostH
    have C11 := c_is_name (P := P) (w := w) (base := base) T
    have C20 := c_comes_up (P := P) (w := w) (base := base) T
    refine ⟨_, pss_cons (ps_if (PW.pt (pw_or (pt_not (pt_val (pIsi "dict" T (pv 0)))) (pw_or1 (pt_not (pt_chain op_le op_le pe_int (pB call_lenR T (pa_cons (pv 0) pa_nil)) (pe_glob (v := .int 40) rfl m40 ⟨_, rfl⟩)))))) (pss_one (ps_ret pe_bl)) pss_nil)
      (pss_cons (ps_if (pt_not (pt_val (pB (cr_all rfl) T (pa_cons (pe_lk (pe_lc (own := [("hall", 2)]) (g := gName 2) (tt := tYes) rfl sc21.nd (pi_keys (pv 0)) (blkOk_by (N := ["thing", "roots", "hall", "upper"]) (sc := defScope (top 21)) (by decide +kernel)) (fun _ _ _ _ _ => pg_name (i := 2) sc21.nd rfl (Or.inl rfl)) (fun _ _ _ _ _ => pts_nil)
          (fun _ _ _ _ _ => pc C11 hr (pa_cons (pv 2) pa_nil)))) pa_nil)))) (pss_one (ps_ret pe_bl)) pss_nil)
      (pss_cons (ps_if (pt_not (pt_val (pB (cr_all rfl) T (pa_cons (pe_lk (pe_lc (own := [("upper", 3)]) (g := gName 3) (tt := tYes) rfl sc21.nd (pi_values (pv 0)) (blkOk_by (N := ["thing", "roots", "hall", "upper"]) (sc := defScope (top 21)) (by decide +kernel)) (fun _ _ _ _ _ => pg_name (i := 3) sc21.nd rfl (Or.inl rfl)) (fun _ _ _ _ _ => pts_nil)
          (fun _ _ _ _ _ => pe_or (pe_cmp (pc_isN (pv 3)) rfl) (pe_one (pe_and (pc C11 hr (pa_cons (pv 3) pa_nil)) (pe_one (pe_cmp (pc_din hu (pv 3) (pv 0)) rfl))))))) pa_nil)))) (pss_one (ps_ret pe_bl)) pss_nil)
      (pss_cons (ps_lk (ps_setLc (i := 1) (own := [("hall", 2), ("upper", 3)]) (g := gTup K 2 (gCons (gName 2) (gCons (gName 3) gNil))) (tt := tTest (tOp (fun x y H Q => y = .non ∧ Q (.bl (decide (x = .non))) H) (tVar 3) (tC .non))) rfl sc21.nd rfl rfl (sw_true rfl rfl rfl (by decide +kernel)) (pi_items (pv 0)) (blkOk_by (N := ["thing", "roots", "hall", "upper"]) (sc := defScope (top 21)) (by decide +kernel))
          (fun _ _ _ _ _ => pg_tup rfl (pgs_cons (pg_name (i := 2) sc21.nd rfl (.inl rfl)) (pgs_cons (pg_name (i := 3) sc21.nd rfl (.inl rfl)) pgs_nil))) (fun _ _ _ _ _ => pts_one (pt_cmpR op_isN (pv 3) pe_non (nomark _)))
          (fun _ _ _ _ _ => pv 2)))
      (pss_one (ps_ret (pe_and (pe_cmpR op_eq (pB call_len_seq T (pa_cons (pv 1) pa_nil)) pe_int (nomark _)) (pe_one (pB (cr_all rfl) T (pa_cons (pe_lk (pe_lc (own := [("hall", 2)]) (g := gName 2) (tt := tYes) rfl sc21.nd (pi_keys (pv 0)) (blkOk_by (N := ["thing", "roots", "hall", "upper"]) (sc := defScope (top 21)) (by decide +kernel)) (fun _ _ _ _ _ => pg_name (i := 2) sc21.nd rfl (Or.inl rfl)) (fun _ _ _ _ _ => pts_nil)
          (fun _ _ _ _ _ => pc C20 hr (pa_cons (pv 0) (pa_cons (pv 2) pa_nil))))) pa_nil))))))))), ?_⟩
    have hz : Ts.length ≤ sizeLine := small40 G.le
    have hlen : (tab optV Ts).length = Ts.length := tab_len ..
    have h1 : 1 ≤ Ts.length := by
      obtain ⟨r, hr, _⟩ := t.root
      exact List.length_pos_of_mem hr
    refine ⟨_, rfl, _, _, _, _, true, rfl, .ty "dict", .base (.dK hA), kit_ty (by decide +kernel), _, rfl, iteF ?_⟩
    refine ⟨_, rfl, a, _, rfl, .inl hA, _, _, rfl, rfl, _, rfl, iteY (by omega) ?_⟩
    refine ⟨_, _, rfl, rfl, _, rfl, iteNS (by have := G.le; omega) ?_⟩
    -- all are names
    refine lk_keys (fun _ => .bl true) rfl (.inl hA) hz (fun p H1 Kt hp m hk => ⟨rfl, ?_⟩) (fun D1 H1 s1 n1 e1 => ?_)
    · exact ⟨_, rfl, p.1, rfl, G.nm _ (List.mem_map.mpr ⟨p, hp, rfl⟩), fun H' s => hk H' s⟩
    refine ⟨D1, Ts.map fun _ => true, rfl, lst_trues e1, _, rfl, ?_⟩
    rw [all_trues]
    refine iteF ?_
    -- so are the upper ones, and there
    refine lk_vals (fun _ => .bl true) rfl (.inl (s1 _ _ hA)) hz (fun p H2 Kt hp m hk => ⟨rfl, ?_⟩) (fun D2 H2 s2 n2 e2 => ?_)
    · obtain ⟨x, o⟩ := p
      cases o with
      | none => exact ⟨_, rfl, _, rfl, iteT (hk _ (Same.refl _))⟩
      | some u =>
        have hu2 := (t.up x u hp).1
        refine ⟨_, rfl, _, rfl, iteF ?_⟩
        refine ⟨_, rfl, u, rfl, G.nm _ hu2, fun H' s => ⟨_, rfl, iteT ?_⟩⟩
        have hA' : AtH H' a Ts := s.rd (m.d _ _ (.inl (s1 _ _ hA)))
        refine ⟨_, rfl, _, rfl, a, _, rfl, atH_get hA' t.nd hu2, hk _ s⟩
    refine ⟨D2, Ts.map fun _ => true, rfl, lst_trues e2, _, rfl, ?_⟩
    rw [all_trues]
    refine iteF ?_
    have s12 := s1.trans s2
    -- one root
    refine lkS_asg ?_
    refine lk_itemsF (fun p => if p.2.isNone = true then some (V.str p.1) else none) rfl (.inl (s12 _ _ hA)) hz (fun p H3 Kt Kn hp m hk hn => ⟨rfl, ?_⟩) (fun D3 H3 s3 n3 e3 => ?_)
    · refine ⟨_, rfl, rfl, _, rfl, ?_⟩
      rw [optV_non]
      obtain ⟨x, o⟩ := p
      cases o with
      | none => exact iteT ⟨_, rfl, hk _ _ rfl (Same.refl _)⟩
      | some u => exact iteF (hn _ rfl (Same.refl _))
    have s123 := s12.trans s3
    refine ⟨_, rfl, D3, _, rfl, .inl (SqL.of' e3), rfl, ?_⟩
    rw [one_root t]
    refine ⟨_, rfl, iteT ?_⟩
    refine lk_keys (fun _ => .bl true) rfl (.inl (s123 _ _ hA)) hz (fun p H4 Kt hp m hk => ⟨rfl, ?_⟩) (fun D4 H4 s4 n4 e4 => ?_)
    · exact ⟨_, rfl, _, rfl, a, p.1, Ts, rk, rfl, m.d _ _ (.inl (s123 _ _ hA)), G, List.mem_map.mpr ⟨p, hp, rfl⟩, hk _ (Same.refl _)⟩
    refine ⟨D4, Ts.map fun _ => true, rfl, lst_trues e4, ?_⟩
    rw [all_trues]
    exact q _ (s123.trans s4)

def spNeedHalls : Sp := fun vs H Q _ => ∃ (a : Addr) (T : Halls) (rk : Str → Nat), vs = [.ref a] ∧ H a = some (.dK (tab optV T)) ∧ Good T rk ∧ ∀ H', Same H H' → Q .non H'
theorem sc22 : FnScope ["halls"] ["halls"] (defScope (top 22)) := ⟨rfl, rfl, rfl, by decide +kernel, rfl, by decide +kernel, by decide +kernel⟩
theorem c_need_halls (T : Tx K mg) : Cal P w K mg base 3 "need_halls" spNeedHalls := by
  refine cal_of T.d22 sc22 (fun _ _ _ _ _ _ us hl => match us, hl with | [_], _ => rfl) (fun vs H Q E h => ?_) (fun f cdv A outer s H vs Q E hr h => ?_)
  · obtain ⟨a, _, _, rfl, _⟩ := h; rfl
  · obtain ⟨a, Ts, rk, rfl, hA, G, q⟩ := h
    have C := c_are_halls (P := P) (w := w) (base := base) T
    refine ⟨_, pss_one (ps_if (pt_not (pt_val (pc C hr (pa_cons (pv 0) pa_nil)))) pss_never pss_nil), ?_⟩
    exact ⟨_, rfl, a, Ts, rk, rfl, hA, G, fun H' s => ⟨_, rfl, iteF (q H' s)⟩⟩

def spNeedHall : Sp := fun vs H Q _ => ∃ (a : Addr) (x : Str) (T : Halls), vs = [.ref a, .str x] ∧ AtH H a T ∧ IsNm x ∧ (T.map (·.1)).Nodup ∧ x ∈ T.map (·.1) ∧ ∀ H', Same H H' → Q .non H'
theorem sc23 : FnScope ["halls", "hall"] ["halls", "hall"] (defScope (top 23)) := ⟨rfl, rfl, rfl, by decide +kernel, rfl, by decide +kernel, by decide +kernel⟩
theorem c_need_hall (T : Tx K mg) : Cal P w K mg base 2 "need_hall" spNeedHall := by
  refine cal_of T.d23 sc23 (fun _ _ _ _ _ _ us hl => match us, hl with | [_, _], _ => rfl) (fun vs H Q E h => ?_) (fun f cdv A outer s H vs Q E hr h => ?_)
  · obtain ⟨a, _, _, rfl, _⟩ := h; rfl
  · obtain ⟨a, x, Ts, rfl, hA, hn, nd, hx, q⟩ := h
    have hu := hu_of hr
    have C := c_is_name (P := P) (w := w) (base := base) T
    refine ⟨_, pss_one (ps_if (PW.pt (pw_or (pt_not (pt_val (pc C hr (pa_cons (pv 1) pa_nil)))) (pw_or1 (pt_cmp (pc_dnotin hu (pv 1) (pv 0)))))) pss_never pss_nil), ?_⟩
    refine ⟨_, rfl, x, rfl, hn, fun H' s => ⟨_, rfl, iteF ?_⟩⟩
    exact ⟨_, rfl, _, rfl, a, _, rfl, atH_get (s.rd hA) nd hx, _, rfl, iteF (q _ s)⟩

def spWays : Sp := fun vs H Q _ => ∃ (a : Addr) (x : Str) (T : Halls) (rk : Str → Nat), vs = [.ref a, .str x] ∧ AtH H a T ∧ Tree T rk ∧ T.length ≤ 40 ∧ x ∈ T.map (·.1) ∧
  ∀ H' p, Same H H' → H p = none → H' p = some (.lst ((wy T rk x).map V.str)) → Q (.ref p) H'
theorem sc25 : FnScope ["halls", "hall", "found"] ["halls", "hall"] (defScope (top 25)) := ⟨rfl, rfl, rfl, by decide +kernel, rfl, by decide +kernel, by decide +kernel⟩
theorem c_ways (T : Tx K mg) : Cal P w K mg base 1 "ways_of" spWays := by
  refine cal_of T.d25 sc25 (fun _ _ _ _ _ _ us hl => match us, hl with | [_, _], _ => rfl) (fun vs H Q E h => ?_) (fun f cdv A outer s H vs Q E hr h => ?_)
  · obtain ⟨a, _, _, _, rfl, _⟩ := h; rfl
  · obtain ⟨a, x, Ts, rk, rfl, hA, t, hle, hx, q⟩ := h
    have hu := hu_of hr
    refine ⟨_, pss_cons (ps_set (i := 2) sc25.nd rfl (Or.inl rfl) (pe_lst (pa_cons (pv 1) pa_nil)))
      (pss_cons (ps_while PassesOwn.never (pt_cmp (pc_notN (pe_dget hu (pv 0) (pe_ix ix_list (pv 2) (pe_un un_neg pe_int) (fun _ _ => rfl)) (fun _ _ => rfl))))
        (pss_one (ps_expr (pe_bm PySem.F.plainAttrs_list PySem.F.slot_list_append PySem.F.type_list_append mt_append (pv 2) (pa_cons (pe_dget hu (pv 0) (pe_ix ix_list (pv 2) (pe_un un_neg pe_int) (fun _ _ => rfl)) (fun _ _ => rfl)) pa_nil)))))
      (pss_one (ps_ret (pv 2)))), ?_⟩
    refine ⟨_, rfl, by show 1 ≤ sizeLine; decide, fun p np => ?_⟩
    have hl := t.wy_len hx
    -- the part of the way that is found so far
    refine ⟨fun m σ H1 => ∃ i, m + i + 1 = (wy Ts rk x).length ∧ σ = [some (.ref a), some (.str x), some (.ref p)] ∧ Same H H1 ∧ H1 p = some (.lst (((wy Ts rk x).take (i + 1)).map V.str)), ⟨(wy Ts rk x).length - 1, 0, by have := t.wy_pos x; omega, rfl, same_upd np, ?_⟩, fun m σ H1 hW => ?_⟩
    · rw [upd_same, List.take_add_one, t.wy_zero]; rfl
    · obtain ⟨i, hm, rfl, s1, e1⟩ := hW
      have hi : i < (wy Ts rk x).length := by omega
      have hy : (wy Ts rk x)[i]? = some ((wy Ts rk x)[i]) := List.getElem?_eq_getElem hi
      generalize (wy Ts rk x)[i] = y at hy
      have hyn : y ∈ Ts.map (·.1) := t.wy_names hx y (List.mem_of_getElem? hy)
      have hlast : atI (((wy Ts rk x).take (i + 1)).map V.str) (-1) = some (.str y) := by
        rw [List.take_add_one, hy, Option.toList_some, List.map_append]
        exact atI_last _ _
      refine ⟨_, rfl, _, rfl, _, rfl, p, _, _, _, rfl, rfl, SqL.of' e1, hlast, a, _, rfl, atH_get (s1.rd hA) t.nd hyn, _, rfl, ?_⟩
      rw [optV_non]
      cases e : par Ts y with
      | none =>
        refine iteF ?_
        have he := t.wy_end hy e
        rw [List.take_of_length_le (by omega)] at e1
        exact ⟨_, rfl, q _ p s1 np e1⟩
      | some u =>
        refine iteT ?_
        have hn := t.wy_next hy e
        have hi2 := (List.getElem?_eq_some_iff.mp hn).1
        refine ⟨_, fun σ' H' h => h, ?_⟩
        refine ⟨_, rfl, .inl ⟨rfl, _, SqL.of' e1⟩, ?_⟩
        refine ⟨_, rfl, _, rfl, _, rfl, p, _, _, _, rfl, rfl, SqL.of' e1, hlast, a, _, rfl, atH_get (s1.rd hA) t.nd hyn, p, _, _, rfl, rfl, e1, ?_, ?_⟩
        · rw [List.length_map, List.length_take]; exact Nat.lt_of_le_of_lt (Nat.min_le_left _ _) (small1000 (by omega))
        · refine ⟨m - 1, by omega, i + 1, by omega, rfl, same_upd' s1 np, ?_⟩
          rw [upd_same, List.take_add_one (i := i + 1), hn, e, Option.toList_some, List.map_append]
          rfl
end
end K66
set_option maxHeartbeats 4000000
/-! Weights, sides, ways told by weights. -/
namespace K66
open PySem PySem.Spec PyProof.Rows L2
abbrev Wts := List (Str × Int)
structure GoodW (T : Halls) (W : Wts) : Prop where
  nd : (W.map (·.1)).Nodup
  mem : ∀ p ∈ W, p.1 ∈ T.map (·.1)
  nn : ∀ p ∈ W, 0 ≤ p.2
  le : ∀ p ∈ W, p.2 ≤ 1000000000000
theorem GoodW.len {T : Halls} {W : Wts} (g : GoodW T W) : W.length ≤ T.length := by
  have := List.Nodup.length_le_of_subset g.nd (l₂ := T.map (·.1)) fun s hs => by
    obtain ⟨p, hp, rfl⟩ := List.mem_map.mp hs
    exact g.mem p hp
  rwa [List.length_map, List.length_map] at this
abbrev AtW (H : Hp) (a : Addr) (W : Wts) : Prop := Rd H a (.dK (tab V.int W))
theorem atW_get {H : Hp} {a : Addr} {W : Wts} {p : Str × Int} (h : AtW H a W) (nd : (W.map (·.1)).Nodup) (hp : p ∈ W) : DGet H a (.str p.1) (some (.int p.2)) := by
  have := DGet.rd (k := Sum.inr p.1) h
  rw [val_mem (f := V.int) nd hp] at this
  exact this
theorem inV_str {x : Str} {l : List Str} : inV (.str x) (l.map V.str) = decide (x ∈ l) := by
  induction l with
  | nil => simp [inV]
  | cons y l ih =>
    unfold inV at ih ⊢
    rw [List.map_cons, List.any_cons, ih]
    by_cases e : y = x
    · subst e; simp [eqV]
    · have e' : ¬ x = y := fun h => e h.symm
      simp [eqV, e, e']
theorem flat_strs (l : List Str) : ((l.map V.str).all flatV) = true := by simp [flatV]

section
variable {P : Program} {w : World} {K : PySem.W.Frag} {mg : Str → Option Value} {base : Heap}

def spIsWeight : Sp := fun vs H Q _ => ∃ n : Int, vs = [.int n] ∧ 0 ≤ n ∧ n ≤ 1000000000000 ∧ Q (.bl true) H
theorem sc28 : FnScope ["thing"] ["thing"] (defScope (top 28)) := ⟨rfl, rfl, rfl, by decide +kernel, rfl, by decide +kernel, by decide +kernel⟩
theorem c_is_weight (T : Tx K mg) : Cal P w K mg base 2 "is_weight" spIsWeight := by
  refine cal_of T.d28 sc28 (fun _ _ _ _ _ _ us hl => match us, hl with | [_], _ => rfl) (fun vs H Q E h => ?_) (fun f cdv A outer s H vs Q E hr h => ?_)
  · obtain ⟨i, rfl, _⟩ := h; rfl
  · obtain ⟨n, rfl, h0, h1, q⟩ := h
    obtain ⟨tw, mw⟩ := T.mostW
    have C := c_is_whole (P := P) (w := w) (base := base) T
    refine ⟨_, pss_one (ps_ret (pe_and (pc C hr (pa_cons (pv 0) pa_nil)) (pe_one (pe_chain op_le op_le pe_int (pv 0) (pe_glob (v := .int 1000000000000) rfl mw ⟨_, rfl⟩))))), ?_⟩
    refine ⟨_, rfl, n, rfl, _, rfl, iteT ?_⟩
    refine ⟨_, rfl, _, _, rfl, rfl, _, rfl, iteY h0 ?_⟩
    refine ⟨_, _, rfl, rfl, ?_⟩
    show Q (.bl (decide (n ≤ 1000000000000))) H
    rw [decide_eq_true h1]
    exact q

def spAreWeights : Sp := fun vs H Q _ => ∃ (a b : Addr) (T : Halls) (W : Wts), vs = [.ref a, .ref b] ∧ AtH H a T ∧ (T.map (·.1)).Nodup ∧ T.length ≤ 40 ∧ H b = some (.dK (tab V.int W)) ∧ GoodW T W ∧ ∀ H', Same H H' → Q (.bl true) H'
theorem sc29 : FnScope ["halls", "thing", "hall", "weight"] ["halls", "thing"] (defScope (top 29)) := ⟨rfl, rfl, rfl, by decide +kernel, rfl, by decide +kernel, by decide +kernel⟩
theorem c_are_weights (T : Tx K mg) : Cal P w K mg base 3 "are_weights" spAreWeights := by
  refine cal_of T.d29 sc29 (fun _ _ _ _ _ _ us hl => match us, hl with | [_, _], _ => rfl) (fun vs H Q E h => ?_) (fun f cdv A outer s H vs Q E hr h => ?_)
  · obtain ⟨a, b, _, _, rfl, _⟩ := h; rfl
  · obtain ⟨a, b, Ts, W, rfl, hA, nd, hle, hB, G, q⟩ := h
    have hu := hu_of hr
    have C := c_is_weight (P := P) (w := w) (base := base) T
    have hz : W.length ≤ sizeLine := small40 (Nat.le_trans G.len hle)
    refine ⟨_, pss_cons (ps_if (pt_not (pt_val (pIsi "dict" T (pv 1)))) (pss_one (ps_ret pe_bl)) pss_nil)
      (pss_one (ps_ret (pB (cr_all rfl) T (pa_cons (pe_lk (pe_lc (own := [("hall", 2), ("weight", 3)]) (g := gTup K 2 (gCons (gName 2) (gCons (gName 3) gNil))) (tt := tYes) rfl sc29.nd (pi_items (pv 1)) (blkOk_by (N := ["halls", "thing", "hall", "weight"]) (sc := defScope (top 29)) (by decide +kernel))
        (fun _ _ _ _ _ => pg_tup rfl (pgs_cons (pg_name (i := 2) sc29.nd rfl (.inl rfl)) (pgs_cons (pg_name (i := 3) sc29.nd rfl (.inl rfl)) pgs_nil))) (fun _ _ _ _ _ => pts_nil)
        (fun _ _ _ _ _ => pe_and (pe_cmp (pc_din hu (pv 2) (pv 0)) rfl) (pe_one (pc C hr (pa_cons (pv 3) pa_nil)))))) pa_nil)))), ?_⟩
    refine ⟨_, rfl, _, _, _, _, true, rfl, .ty "dict", .base (.dK hB), kit_ty (by decide +kernel), _, rfl, iteF ?_⟩
    refine lk_items (fun _ => .bl true) rfl (.inl hB) hz (fun p H1 Kt hp m hk => ⟨rfl, ?_⟩) (fun D1 H1 s1 n1 e1 => ?_)
    · refine ⟨_, rfl, _, rfl, a, _, rfl, atH_get (m.d _ _ hA) nd (G.mem p hp), _, rfl, iteT ?_⟩
      exact ⟨_, rfl, p.2, rfl, G.nn p hp, G.le p hp, hk _ (Same.refl _)⟩
    refine ⟨D1, W.map fun _ => true, rfl, lst_trues e1, ?_⟩
    rw [all_trues]
    exact q _ s1

def spNeedWeights : Sp := fun vs H Q _ => ∃ (a b : Addr) (T : Halls) (W : Wts), vs = [.ref a, .ref b] ∧ AtH H a T ∧ (T.map (·.1)).Nodup ∧ T.length ≤ 40 ∧ H b = some (.dK (tab V.int W)) ∧ GoodW T W ∧ ∀ H', Same H H' → Q .non H'
theorem sc30 : FnScope ["halls", "weights"] ["halls", "weights"] (defScope (top 30)) := ⟨rfl, rfl, rfl, by decide +kernel, rfl, by decide +kernel, by decide +kernel⟩
theorem c_need_weights (T : Tx K mg) : Cal P w K mg base 4 "need_weights" spNeedWeights := by
  refine cal_of T.d30 sc30 (fun _ _ _ _ _ _ us hl => match us, hl with | [_, _], _ => rfl) (fun vs H Q E h => ?_) (fun f cdv A outer s H vs Q E hr h => ?_)
  · obtain ⟨a, b, _, _, rfl, _⟩ := h; rfl
  · obtain ⟨a, b, Ts, W, rfl, hA, nd, hle, hB, G, q⟩ := h
    have C := c_are_weights (P := P) (w := w) (base := base) T
    refine ⟨_, pss_one (ps_if (pt_not (pt_val (pc C hr (pa_cons (pv 0) (pa_cons (pv 1) pa_nil))))) pss_never pss_nil), ?_⟩
    exact ⟨_, rfl, _, rfl, a, b, Ts, W, rfl, hA, nd, hle, hB, G, fun H' s => ⟨_, rfl, iteF (q H' s)⟩⟩

def spNeedHW : Sp := fun vs H Q _ => ∃ (a b : Addr) (x : Str) (T : Halls) (rk : Str → Nat) (W : Wts), vs = [.ref a, .ref b, .str x] ∧ H a = some (.dK (tab optV T)) ∧ Good T rk ∧ H b = some (.dK (tab V.int W)) ∧ GoodW T W ∧ x ∈ T.map (·.1) ∧ ∀ H', Same H H' → Q .non H'
theorem sc31 : FnScope ["halls", "weights", "hall"] ["halls", "weights", "hall"] (defScope (top 31)) := ⟨rfl, rfl, rfl, by decide +kernel, rfl, by decide +kernel, by decide +kernel⟩
theorem c_need_hw (T : Tx K mg) : Cal P w K mg base 5 "need_hall_weights" spNeedHW := by
  refine cal_of T.d31 sc31 (fun _ _ _ _ _ _ us hl => match us, hl with | [_, _, _], _ => rfl) (fun vs H Q E h => ?_) (fun f cdv A outer s H vs Q E hr h => ?_)
  · obtain ⟨a, b, _, _, _, _, rfl, _⟩ := h; rfl
  · obtain ⟨a, b, x, Ts, rk, W, rfl, hA, G, hB, GW, hx, q⟩ := h
    have C1 := c_need_halls (P := P) (w := w) (base := base) T
    have C2 := c_need_hall (P := P) (w := w) (base := base) T
    have C3 := c_need_weights (P := P) (w := w) (base := base) T
    refine ⟨_, pss_cons (ps_expr (pc C1 hr (pa_cons (pv 0) pa_nil))) (pss_cons (ps_expr (pc C2 hr (pa_cons (pv 0) (pa_cons (pv 2) pa_nil)))) (pss_one (ps_expr (pc C3 hr (pa_cons (pv 0) (pa_cons (pv 1) pa_nil)))))), ?_⟩
    refine ⟨_, rfl, a, Ts, rk, rfl, hA, G, fun H1 s1 => ?_⟩
    refine ⟨_, rfl, _, rfl, a, x, Ts, rfl, .inl (s1 _ _ hA), G.nm x hx, G.t.nd, hx, fun H2 s2 => ?_⟩
    refine ⟨_, rfl, _, rfl, a, b, Ts, W, rfl, .inl (s2 _ _ (s1 _ _ hA)), G.t.nd, G.le, s2 _ _ (s1 _ _ hB), GW, fun H3 s3 => q _ ((s1.trans s2).trans s3)⟩

/-- what lies below a hall -/
def spBelow : Sp := fun vs H Q _ => ∃ (a b : Addr) (x : Str) (T : Halls) (rk : Str → Nat) (W : Wts), vs = [.ref a, .ref b, .str x] ∧ AtH H a T ∧ Tree T rk ∧ T.length ≤ 40 ∧ AtW H b W ∧ GoodW T W ∧ ∀ H', Same H H' → Q (.int (wb T rk W x)) H'
theorem sc37 : FnScope ["halls", "weights", "hall", "other", "weight"] ["halls", "weights", "hall"] (defScope (top 37)) := ⟨rfl, rfl, rfl, by decide +kernel, rfl, by decide +kernel, by decide +kernel⟩
theorem filterMap_sum {α : Type} {c : α → Prop} [DecidablePred c] {f : α → Int} : ∀ l : List α, ∃ ns : List Int, (l.filterMap fun p => if c p then some (V.int (f p)) else none) = ns.map V.int ∧ ns.sum = (l.map fun p => if c p then f p else 0).sum
  | [] => ⟨[], rfl, rfl⟩
  | p :: l => by
    obtain ⟨ns, h1, h2⟩ := filterMap_sum (c := c) (f := f) l
    by_cases h : c p
    · refine ⟨f p :: ns, ?_, ?_⟩
      · rw [List.filterMap_cons, if_pos h, h1]; rfl
      · rw [List.map_cons, List.sum_cons, List.sum_cons, if_pos h, h2]
    · refine ⟨ns, ?_, ?_⟩
      · rw [List.filterMap_cons, if_neg h, h1]
      · rw [List.map_cons, List.sum_cons, if_neg h, h2, Int.zero_add]
theorem c_below (T : Tx K mg) : Cal P w K mg base 2 "weight_below" spBelow := by
  refine cal_of T.d37 sc37 (fun _ _ _ _ _ _ us hl => match us, hl with | [_, _, _], _ => rfl) (fun vs H Q E h => ?_) (fun f cdv A outer s H vs Q E hr h => ?_)
  · obtain ⟨a, b, _, _, _, _, rfl, _⟩ := h; rfl
  · obtain ⟨a, b, x, Ts, rk, W, rfl, hA, t, hle, hB, GW, q⟩ := h
    have hu := hu_of hr
    have C := c_ways (P := P) (w := w) (base := base) T
    have hz : W.length ≤ sizeLine := small40 (Nat.le_trans GW.len hle)
    refine ⟨_, pss_one (ps_ret (pB (cr_sum rfl) T (pa_cons (pe_lk (pe_lc (own := [("other", 3), ("weight", 4)]) (g := gTup K 2 (gCons (gName 3) (gCons (gName 4) gNil))) (tt := tTest (tOp (rIn K false) (tVar 2) (tCall spWays [] E0 (tCons (tVar 0) (tCons (tVar 3) tNil))))) rfl sc37.nd (pi_items (pv 1)) (blkOk_by (N := ["halls", "weights", "hall", "other", "weight"]) (sc := defScope (top 37)) (by decide +kernel))
        (fun _ _ _ _ _ => pg_tup rfl (pgs_cons (pg_name (i := 3) sc37.nd rfl (.inl rfl)) (pgs_cons (pg_name (i := 4) sc37.nd rfl (.inl rfl)) pgs_nil))) (fun _ _ _ _ _ => pts_one (pt_cmpR op_in_seq (pv 2) (pc C hr (pa_cons (pv 0) (pa_cons (pv 3) pa_nil))) rfl))
        (fun _ _ _ _ _ => pv 4))) pa_nil))), ?_⟩
    refine lk_itemsF (fun p => if x ∈ wy Ts rk p.1 then some (V.int p.2) else none) rfl hB hz (fun p H1 Kt Kn hp m hk hn => ⟨rfl, ?_⟩) (fun D1 H1 s1 n1 e1 => ?_)
    · refine ⟨_, rfl, _, rfl, _, rfl, a, p.1, Ts, rk, rfl, m.d _ _ hA, t, hle, GW.mem p hp, fun H2 l s2 nl e2 => ?_⟩
      refine ⟨l, _, rfl, .inl (SqL.of' e2), rfl, flat_strs _, _, rfl, ?_⟩
      rw [if_neg Bool.false_ne_true, inV_str]
      by_cases hm : x ∈ wy Ts rk p.1
      · exact iteY hm ⟨_, rfl, hk _ _ (if_pos hm) s2⟩
      · exact iteN hm (hn _ (if_neg hm) s2)
    obtain ⟨ns, h1, h2⟩ := filterMap_sum (c := fun p : Str × Int => x ∈ wy Ts rk p.1) (f := fun p => p.2) W
    refine ⟨D1, ns, rfl, SqL.of' (by rw [e1, h1]), ?_⟩
    rw [h2]
    exact q _ s1
end
end K66
set_option maxHeartbeats 4000000
/-! Sides, distances, costs. -/
namespace K66
open PySem PySem.Spec PyProof.Rows L2
theorem nbrs_take {T : Halls} {i : Nat} {p : Str × Option Str} (h : T[i]? = some p) (x : Str) : nbrs (T.take (i + 1)) x = nbrs (T.take i) x ++ nb1 x p := by
  rw [List.take_add_one, h]; exact nbrs_snoc _ _ _
/-- p stands for a dict of each hall's neighbours -/
def SidesAt (H : Hp) (p : Addr) (T : Halls) : Prop :=
  ∃ L : List (Str × Addr), L.map (·.1) = T.map (·.1) ∧ Rd H p (.dK (tab V.ref L)) ∧ ∀ q ∈ L, H q.2 = some (.lst ((nbrs T q.1).map V.str))
theorem SidesAt.same {H H' : Hp} {p : Addr} {T : Halls} (s : Same H H') (h : SidesAt H p T) : SidesAt H' p T := by
  obtain ⟨L, h1, h2, h3⟩ := h
  exact ⟨L, h1, s.rd h2, fun q hq => s _ _ (h3 q hq)⟩
theorem SidesAt.get {H : Hp} {p : Addr} {T : Halls} {x : Str} (h : SidesAt H p T) (nd : (T.map (·.1)).Nodup) (hx : x ∈ T.map (·.1)) : ∃ l, DGet H p (.str x) (some (.ref l)) ∧ H l = some (.lst ((nbrs T x).map V.str)) := by
  obtain ⟨L, h1, h2, h3⟩ := h
  rw [← h1] at hx nd
  obtain ⟨q, hq, rfl⟩ := List.mem_map.mp hx
  refine ⟨q.2, ?_, h3 q hq⟩
  have := DGet.rd (k := Sum.inr q.1) h2
  rw [val_mem (f := V.ref) nd hq] at this
  exact this
/-- what stands while they are filled: the first i halls are done -/
structure Filling (H0 Hk : Hp) (a D : Addr) (T : Halls) (L : List (Str × Addr)) (i : Nat) : Prop where
  old : ∀ b o, b ≠ a → H0 b = some o → Hk b = some o
  at_ : Hk D = some (.dK (tab V.ref L))
  ls : ∀ q ∈ L, Hk q.2 = some (.lst ((nbrs (T.take i) q.1).map V.str))
theorem pair_val {α β : Type} {L : List (α × β)} (nd : (L.map (·.2)).Nodup) {q r : α × β} (hq : q ∈ L) (hr : r ∈ L) (e : q.2 = r.2) : q = r := by
  obtain ⟨i, hi⟩ := List.getElem?_of_mem hq
  obtain ⟨j, hj⟩ := List.getElem?_of_mem hr
  have e1 : (L.map (·.2))[i]? = some q.2 := by rw [List.getElem?_map, hi]; rfl
  have e2 : (L.map (·.2))[j]? = some q.2 := by rw [List.getElem?_map, hj, e]; rfl
  obtain ⟨h1, e1⟩ := List.getElem?_eq_some_iff.mp e1
  obtain ⟨h2, e2⟩ := List.getElem?_eq_some_iff.mp e2
  have := (List.getElem_inj nd).mp (e1.trans e2.symm)
  subst this
  rw [hi] at hj
  exact Option.some.inj hj
theorem pair_key {α β : Type} {L : List (α × β)} (nd : (L.map (·.1)).Nodup) {q r : α × β} (hq : q ∈ L) (hr : r ∈ L) (e : q.1 = r.1) : q = r := by
  obtain ⟨i, hi⟩ := List.getElem?_of_mem hq
  obtain ⟨j, hj⟩ := List.getElem?_of_mem hr
  have e1 : (L.map (·.1))[i]? = some q.1 := by rw [List.getElem?_map, hi]; rfl
  have e2 : (L.map (·.1))[j]? = some q.1 := by rw [List.getElem?_map, hj, e]; rfl
  obtain ⟨h1, e1⟩ := List.getElem?_eq_some_iff.mp e1
  obtain ⟨h2, e2⟩ := List.getElem?_eq_some_iff.mp e2
  have := (List.getElem_inj nd).mp (e1.trans e2.symm)
  subst this
  rw [hi] at hj
  exact Option.some.inj hj
section
variable {H0 Hk : Hp} {a D : Addr} {T : Halls} {L : List (Str × Addr)} {i : Nat}
theorem Filling.skip (F : Filling H0 Hk a D T L i) {x : Str} (hi : T[i]? = some (x, none)) : Filling H0 Hk a D T L (i + 1) :=
  ⟨F.old, F.at_, fun q hq => by rw [F.ls q hq, nbrs_take hi]; simp [nb1]⟩
theorem Filling.new (F : Filling H0 Hk a D T L i) {t : Addr} {o : HO} (nt : Hk t = none) : Filling H0 (upd Hk t o) a D T L i :=
  ⟨fun b o' ne e => by rw [upd_ne (ne_of_none (F.old b o' ne e) nt)]; exact F.old b o' ne e, by rw [upd_ne (ne_of_none F.at_ nt)]; exact F.at_, fun q hq => by rw [upd_ne (ne_of_none (F.ls q hq) nt)]; exact F.ls q hq⟩
/-- the two appends of one door -/
theorem Filling.step (F : Filling H0 Hk a D T L i) (nd1 : (L.map (·.1)).Nodup) (nd2 : (L.map (·.2)).Nodup) (fr : ∀ q ∈ L, H0 q.2 = none) {h u : Str} (hi : T[i]? = some (h, some u)) (ne : h ≠ u) {lh lu : Addr} (mh : (h, lh) ∈ L) (mu : (u, lu) ∈ L) :
    (upd Hk lh (.lst ((nbrs (T.take i) h).map V.str ++ [.str u]))) lu = some (.lst ((nbrs (T.take i) u).map V.str)) ∧
    Filling H0 (upd (upd Hk lh (.lst ((nbrs (T.take i) h).map V.str ++ [.str u]))) lu (.lst ((nbrs (T.take i) u).map V.str ++ [.str h]))) a D T L (i + 1) := by
  have hlu : lu ≠ lh := fun e => ne (by have := pair_val nd2 mu mh e; exact (congrArg Prod.fst this).symm)
  have hD : ∀ q ∈ L, D ≠ q.2 := fun q hq e => by
    have := F.ls q hq
    rw [← e, F.at_] at this
    cases this
  refine ⟨by rw [upd_ne hlu]; exact F.ls _ mu, fun b o nb e => ?_, ?_, fun q hq => ?_⟩
  · have n1 : b ≠ lu := ne_of_none e (fr _ mu)
    have n2 : b ≠ lh := ne_of_none e (fr _ mh)
    rw [upd_ne n1, upd_ne n2]; exact F.old b o nb e
  · rw [upd_ne (hD _ mu), upd_ne (hD _ mh)]; exact F.at_
  · rw [nbrs_take hi]
    by_cases e1 : q.1 = u
    · have : q = (u, lu) := pair_key nd1 hq mu e1
      subst this
      rw [upd_same]
      simp [nb1, ne]
    · by_cases e2 : q.1 = h
      · have : q = (h, lh) := pair_key nd1 hq mh e2
        subst this
        rw [upd_ne hlu.symm, upd_same]
        have e1' : ¬ u = h := fun e => ne e.symm
        simp [nb1, e1']
      · have n1 : q.2 ≠ lu := fun e => e1 (congrArg Prod.fst (pair_val nd2 hq mu e))
        have n2 : q.2 ≠ lh := fun e => e2 (congrArg Prod.fst (pair_val nd2 hq mh e))
        rw [upd_ne n1, upd_ne n2, F.ls q hq]
        have e1' : ¬ u = q.1 := fun e => e1 e.symm
        have e2' : ¬ h = q.1 := fun e => e2 e.symm
        simp [nb1, e1', e2']
theorem Filling.done (F : Filling H0 Hk a D T L T.length) (ha : a ≠ D) (hl : ∀ q ∈ L, a ≠ q.2) (e : L.map (·.1) = T.map (·.1)) : SidesAt (res H0 a Hk) D T := by
  refine ⟨L, e, .inl (by rw [res_ne ha.symm]; exact F.at_), fun q hq => ?_⟩
  rw [res_ne (hl q hq).symm, F.ls q hq, List.take_of_length_le (Nat.le_refl _)]
end

section
variable {P : Program} {w : World} {K : PySem.W.Frag} {mg : Str → Option Value} {base : Heap}
def spSides : Sp := fun vs H Q _ => ∃ (a : Addr) (T : Halls) (rk : Str → Nat), vs = [.ref a] ∧ AtH H a T ∧ Tree T rk ∧ T.length ≤ 40 ∧ ∀ H' p, Same H H' → H p = none → SidesAt H' p T → Q (.ref p) H'
theorem sc32 : FnScope ["halls", "found", "hall", "upper"] ["halls"] (defScope (top 32)) := ⟨rfl, rfl, rfl, by decide +kernel, rfl, by decide +kernel, by decide +kernel⟩
theorem c_sides (T : Tx K mg) : Cal P w K mg base 1 "sides_of" spSides := by
  refine cal_of T.d32 sc32 (fun _ _ _ _ _ _ us hl => match us, hl with | [_], _ => rfl) (fun vs H Q E h => ?_) (fun f cdv A outer s H vs Q E hr h => ?_)
  · obtain ⟨a, _, _, rfl, _⟩ := h; rfl
  · obtain ⟨a, Ts, rk, rfl, hA, t, hle, q⟩ := h
    have hu := hu_of hr
    have hz : Ts.length ≤ sizeLine := small40 hle
    refine ⟨_, pss_cons (ps_lk (ps_setDc (i := 1) (own := [("hall", 2)]) (g := gName 2) (tt := tYes) rfl sc32.nd rfl rfl (swd_true rfl rfl rfl (by decide +kernel)) (pi_keys (pv 0)) (blkOk_by (N := ["halls", "found", "hall", "upper"]) (sc := defScope (top 32)) (by decide +kernel)) (fun _ _ _ _ _ => pg_name (i := 2) sc32.nd rfl (Or.inl rfl)) (fun _ _ _ _ _ => pts_nil)
        (fun _ _ _ _ _ => pv 2) (fun _ _ _ _ _ => pe_lst pa_nil)))
      (pss_cons (ps_lk (ps_for PassesOwn.never rfl (pi_items (pv 0)) (pg_tup rfl (pgs_cons (pg_name (i := 2) sc32.nd rfl (.inl rfl)) (pgs_cons (pg_name (i := 3) sc32.nd rfl (.inl rfl)) pgs_nil)))
        (pss_one (ps_if (pt_cmp (pc_notN (pv 3)))
          (pss_cons (ps_expr (pe_bm PySem.F.plainAttrs_list PySem.F.slot_list_append PySem.F.type_list_append mt_append (pe_dget hu (pv 1) (pv 2) (fun _ _ => rfl)) (pa_cons (pv 3) pa_nil)))
          (pss_one (ps_expr (pe_bm PySem.F.plainAttrs_list PySem.F.slot_list_append PySem.F.type_list_append mt_append (pe_dget hu (pv 1) (pv 3) (fun _ _ => rfl)) (pa_cons (pv 2) pa_nil))))) pss_nil))))
      (pss_one (ps_ret (pv 1)))), ?_⟩
    refine lkS_asg ?_
    refine lk_dictN (fun H p => H p = some (.lst [])) (fun _ _ _ h k => k _ _ True.intro h) (fun _ _ h => ⟨_, h, fun _ z => nomatch z⟩) t.nd rfl hA hz (fun p H1 Kt hp m hk => ⟨rfl, _, rfl, Nat.zero_le _, fun p np => hk p _ (same_upd np) np upd_same⟩) (fun D H1 L s1 nD e1 e2 nd2 fr => ?_)
    have nd1 : (L.map (·.1)).Nodup := by rw [e1]; exact t.nd
    have aD : a ≠ D := by
      rcases hA with h | ⟨_, h⟩ <;> exact ne_of_none h nD
    have aL : ∀ q ∈ L, a ≠ q.2 := fun q hq => by
      rcases hA with h | ⟨_, h⟩ <;> exact ne_of_none h (fr q hq).2
    refine lkS_of a _ (Lk.of_rd (s1.rd hA)) fun od H0 h0 he => ?_
    refine ⟨_, rfl, a, od, _, rfl, h0, ?_⟩
    refine for_it walk_items (fun i σ Hk => ∃ v2 v3, σ = [some (.ref a), some (.ref D), v2, v3] ∧ Hk a = some (.frz od (.dK (tab optV Ts))) ∧ Filling H Hk a D Ts L i) ⟨_, _, rfl, h0, ⟨fun b o nb e => (he b nb).trans (s1 _ _ e), (he D aD.symm).trans e2, fun q hq => (he _ (aL q hq).symm).trans (fr q hq).1⟩⟩ (fun i σ Hk _ ⟨_, _, _, h, _⟩ => h) ?_ ?_
    · rintro i x σ Hk H' hi ⟨v2, v3, rfl, ha, F⟩ hy
      rw [tab_len] at hi
      obtain ⟨tp, y, z, rfl, nt, rfl, g1, g2⟩ := hy
      have hTi : Ts[i]? = some Ts[i] := List.getElem?_eq_getElem hi
      generalize Ts[i] = pr at hTi
      obtain ⟨h, o⟩ := pr
      simp only [tab_at, hTi] at g1 g2
      cases (show kV (Sum.inr h) = y from Option.some.inj g1)
      cases (show optV o = z from Option.some.inj g2)
      have F1 := F.new (o := .tup [kV (Sum.inr h), optV o]) nt
      have ha1 : (upd Hk tp (.tup [kV (Sum.inr h), optV o])) a = some (.frz od (.dK (tab optV Ts))) := by rw [upd_ne (ne_of_none ha nt)]; exact ha
      refine ⟨tp, _, rfl, SqT.of' upd_same, rfl, _, _, rfl, _, _, rfl, rfl, ?_⟩
      have hm := List.mem_of_getElem? hTi
      refine ⟨_, rfl, _, rfl, ?_⟩
      rw [optV_non]
      cases o with
      | none => exact iteF ⟨_, _, rfl, ha1, F1.skip hTi⟩
      | some u =>
        have hpar := par_of_mem t.nd hm
        have hne : h ≠ u := fun e => by subst e; have := (t.par_up hpar).2; omega
        have inL : ∀ x, x ∈ Ts.map (·.1) → ∃ l, (x, l) ∈ L := fun x hx => by
          rw [← e1] at hx
          obtain ⟨q, hq, rfl⟩ := List.mem_map.mp hx
          exact ⟨q.2, hq⟩
        obtain ⟨lh, mh⟩ := inL h (List.mem_map.mpr ⟨_, hm, rfl⟩)
        obtain ⟨lu, mu⟩ := inL u (t.up h u hm).1
        obtain ⟨hlu, F2⟩ := F1.step nd1 nd2 (fun q hq => (fr q hq).2) hTi hne mh mu
        have gt : ∀ {x l} {Hx : Hp}, (x, l) ∈ L → Hx D = some (.dK (tab V.ref L)) → DGet Hx D (.str x) (some (.ref l)) := fun {x l Hx} m e => by
          have := DGet.k (k := Sum.inr x) e
          rw [val_mem (f := V.ref) nd1 m] at this
          exact this
        have hD1 : (upd (upd Hk tp (.tup [kV (Sum.inr h), optV (some u)])) lh (.lst ((nbrs (Ts.take i) h).map V.str ++ [.str u]))) D = some (.dK (tab V.ref L)) := by
          rw [upd_ne fun e => by have := F1.ls _ mh; rw [← e, F1.at_] at this; cases this]; exact F1.at_
        have small : ∀ x, ((nbrs (Ts.take i) x).map V.str).length < sizeLine := fun x => by
          rw [List.length_map]
          have : (nbrs (Ts.take i) x).length ≤ 2 * i := by
            have key : ∀ l : Halls, (nbrs l x).length ≤ 2 * l.length := by
              intro l
              induction l with
              | nil => simp [nbrs]
              | cons p l ih =>
                have : (nb1 x p).length ≤ 2 := by
                  obtain ⟨y, o⟩ := p
                  cases o with
                  | none => simp [nb1]
                  | some u => simp only [nb1]; by_cases h1 : y = x <;> by_cases h2 : u = x <;> simp [h1, h2]
                show (nb1 x p ++ nbrs l x).length ≤ _
                rw [List.length_append, List.length_cons]; omega
            have := key (Ts.take i)
            rw [List.length_take] at this
            omega
          exact small1000 (by omega)
        refine iteT ?_
        refine ⟨_, rfl, _, rfl, D, _, rfl, gt mh F1.at_, .inl ⟨rfl, _, SqL.of' (F1.ls _ mh)⟩, _, rfl, lh, _, _, rfl, rfl, F1.ls _ mh, small _, ?_⟩
        refine ⟨_, rfl, _, rfl, D, _, rfl, gt mu hD1, .inl ⟨rfl, _, SqL.of' hlu⟩, _, rfl, lu, _, _, rfl, rfl, hlu, small _, ?_⟩
        refine ⟨_, _, rfl, ?_, F2⟩
        rw [upd_ne (aL _ mu), upd_ne (aL _ mh)]; exact ha1
    · rintro σ Hk ⟨v2, v3, rfl, ha, F⟩
      rw [tab_len] at F
      refine ⟨ha, _, rfl, ?_⟩
      have F' : Filling H (res H1 a Hk) a D Ts L Ts.length := ⟨fun b o nb e => by rw [res_ne nb]; exact F.old b o nb e, by rw [res_ne aD.symm]; exact F.at_, fun q hq => by rw [res_ne (aL q hq).symm]; exact F.ls q hq⟩
      refine q _ D (fun b o e => ?_) nD ⟨L, e1, .inl F'.at_, fun q hq => by rw [F'.ls q hq, List.take_of_length_le (Nat.le_refl _)]⟩
      by_cases hb : b = a
      · subst hb; rw [res_at]; exact s1 _ _ e
      · exact F'.old b o hb e
end
end K66
set_option maxHeartbeats 4000000
/-! Distances by layers. -/
namespace K66
open PySem PySem.Spec PyProof.Rows L2
/-! ### [(..) for o in src for s in nb[o] if ..] -/
def its (nb : Str → List Str) (c : Str → Bool) (l : List Str) : List (Str × Str) := l.flatMap fun o => ((nb o).filter c).map fun s => (o, s)
theorem its_snoc (nb : Str → List Str) (c : Str → Bool) {l : List Str} {i : Nat} {o : Str} (h : l[i]? = some o) : its nb c (l.take (i + 1)) = its nb c (l.take i) ++ ((nb o).filter c).map fun s => (o, s) := by
  unfold its; rw [List.take_add_one, h, List.flatMap_append]; simp
theorem its_part (nb : Str → List Str) (c : Str → Bool) {l : List Str} {i j : Nat} {o : Str} (h : l[i]? = some o) : (its nb c (l.take i) ++ (((nb o).take j).filter c).map fun s => (o, s)).length ≤ (its nb c l).length := by
  have e : its nb c l = its nb c (l.take (i + 1)) ++ its nb c (l.drop (i + 1)) := by
    unfold its; rw [← List.flatMap_append, List.take_append_drop]
  rw [e, its_snoc nb c h, List.length_append, List.length_append, List.length_append, List.length_map, List.length_map]
  have : (((nb o).take j).filter c).length ≤ ((nb o).filter c).length := List.Sublist.length_le (List.Sublist.filter c (List.take_sublist _ _))
  omega
theorem filter_take {α : Type} (c : α → Bool) {l : List α} {j : Nat} {s : α} (h : l[j]? = some s) : (l.take (j + 1)).filter c = (l.take j).filter c ++ (if c s = true then [s] else []) := by
  rw [List.take_add_one, h, List.filter_append]
  congr 1
  show List.filter c [s] = _
  by_cases e : c s = true
  · rw [if_pos e, List.filter_cons_of_pos e]; rfl
  · rw [if_neg e, List.filter_cons_of_neg e]; rfl
section
variable {K : PySem.W.Frag} {i0 j0 : Nat} {tt1 : TT} {te : TE} {wi1 : TI} {vs vs1 : List Nat} {σ : L2.St} {H1 : Hp} {D a : Addr} {Qd : Hp → Prop}
theorem lc2_tup (src : List Str) (nb : Str → List Str) (c : Str → Bool) (F : Str × Str → List V) (hm : (its nb c src).length < sizeLine) (hD : H1 D = none) (hA : SqL K H1 a (src.map V.str))
    (hw : ∀ o : Str, wipe ((wipe σ vs).set i0 (some (.str o))) vs = wipe σ vs)
    (ho : ∀ (o : Str) (H : Hp) (R : It → Hp → Prop), o ∈ src → Same H1 H → (∀ l, H1 l = some (.lst ((nb o).map V.str)) → R (Itl K l) H) → wi1 ((wipe σ vs).set i0 (some (.str o))) H R)
    (hs : ∀ (o s : Str) (H : Hp) (Kt : VK) (Kn : Hp → Prop), o ∈ src → s ∈ nb o → Same H1 H → (c s = true → ∀ p H4, Same H H4 → H4 p = none → Kt (.ref p) (upd H4 p (.tup (F (o, s))))) → (c s = false → ∀ H3, Same H H3 → Kn H3) →
      wipe ((wipe ((wipe σ vs).set i0 (some (.str o))) vs1).set j0 (some (.str s))) vs1 = wipe ((wipe σ vs).set i0 (some (.str o))) vs1 ∧ tt1 ((wipe ((wipe σ vs).set i0 (some (.str o))) vs1).set j0 (some (.str s))) H fun b H6 => if b = true then te ((wipe ((wipe σ vs).set i0 (some (.str o))) vs1).set j0 (some (.str s))) H6 Kt else Kn H6)
    (hd : ∀ (H : Hp) (as : List Addr), Same H1 H → H D = some (.lst (as.map V.ref)) → Paired (fun p q => H p = some (.tup (F q)) ∧ H1 p = none) as (its nb c src) → Qd H) :
    ∃ W : Nat → Nat → Hp → Prop, (∃ m, W 0 m (upd H1 D (.lst []))) ∧ ∀ i m H, W i m H →
      ((Itl K a).stop i H ∧ Qd H) ∨ ((Itl K a).go i H ∧ ∃ Nx : Hp → Prop, (∀ H', Nx H' → ∃ m', m' < m ∧ W (i + 1) m' H') ∧ ∀ x H', (Itl K a).yld i H x H' → gName i0 x (wipe σ vs) H' fun σ2 H2 => wipe σ2 vs = wipe σ vs ∧ tYes σ2 H2 fun b H3 =>
        if b = true then wi1 σ2 H3 fun J1 H4 => ∃ W1 : Nat → Nat → Hp → Prop, (∃ m, W1 0 m H4) ∧ ∀ j k H, W1 j k H →
          (J1.stop j H ∧ Nx H) ∨ (J1.go j H ∧ ∃ Nx1 : Hp → Prop, (∀ H', Nx1 H' → ∃ k', k' < k ∧ W1 (j + 1) k' H') ∧ ∀ x H', J1.yld j H x H' → gName j0 x (wipe σ2 vs1) H' fun σ3 H5 => wipe σ3 vs1 = wipe σ2 vs1 ∧ tt1 σ3 H5 fun b H6 =>
            if b = true then te σ3 H6 fun y H7 => ∃ acc, H7 D = some (.lst acc) ∧ acc.length < sizeLine ∧ Nx1 (upd H7 D (.lst (acc ++ [y]))) else Nx1 H6) else Nx H3) := by
  let P : List (Str × Str) → Hp → Prop := fun l H => Same H1 H ∧ ∃ as : List Addr, H D = some (.lst (as.map V.ref)) ∧ Paired (fun p q => H p = some (.tup (F q)) ∧ H1 p = none) as l
  refine ⟨fun i m H => m = src.length - i ∧ i ≤ src.length ∧ P (its nb c (src.take i)) H, ⟨src.length, by simp, Nat.zero_le _, same_upd hD, [], upd_same, .nil⟩, ?_⟩
  rintro i m H ⟨rfl, hi, p1, as, p2, p3⟩
  have hA' := p1.seq hA
  by_cases hlt : i < src.length
  · have hoi : src[i]? = some src[i] := List.getElem?_eq_getElem hlt
    generalize src[i] = o at hoi
    have hom := List.mem_of_getElem? hoi
    have hgo : (src.map V.str)[i]? = some (.str o) := by rw [List.getElem?_map, hoi]; rfl
    refine .inr ⟨⟨_, _, hA', hgo⟩, fun H => P (its nb c (src.take (i + 1))) H, fun H' h => ⟨src.length - (i + 1), by omega, rfl, hlt, h⟩, fun x H' hy => ?_⟩
    obtain ⟨rfl, hy⟩ := hy
    have ex : x = .str o := by
      have := hy _ hA'
      rw [hgo] at this
      exact (Option.some.inj this).symm
    subst ex
    refine ⟨hw o, ?_⟩
    simp only [tYes, if_true]
    refine ho o H' _ hom p1 fun l hl => ?_
    have lD : l ≠ D := ne_of_none hl hD
    -- the inner walk
    refine ⟨fun j k H => k = (nb o).length - j ∧ j ≤ (nb o).length ∧ P (its nb c (src.take i) ++ (((nb o).take j).filter c).map fun s => (o, s)) H, ⟨(nb o).length, by simp, Nat.zero_le _, p1, as, p2, by simpa using p3⟩, ?_⟩
    rintro j k H2 ⟨rfl, hj, q1, bs, q2, q3⟩
    have hl2 : SqL K H2 l ((nb o).map V.str) := SqL.of' (q1 _ _ hl)
    by_cases hjl : j < (nb o).length
    · have hsj : (nb o)[j]? = some (nb o)[j] := List.getElem?_eq_getElem hjl
      generalize (nb o)[j] = s at hsj
      have hgs : ((nb o).map V.str)[j]? = some (.str s) := by rw [List.getElem?_map, hsj]; rfl
      refine .inr ⟨⟨_, _, hl2, hgs⟩, fun H => P (its nb c (src.take i) ++ (((nb o).take (j + 1)).filter c).map fun s => (o, s)) H, fun H' h => ⟨(nb o).length - (j + 1), by omega, rfl, hjl, h⟩, fun x H3 hy => ?_⟩
      obtain ⟨rfl, hy⟩ := hy
      have ex : x = .str s := by
        have := hy _ hl2
        rw [hgs] at this
        exact (Option.some.inj this).symm
      subst ex
      refine hs o s H3 _ _ hom (List.mem_of_getElem? hsj) q1 (fun hc q H4 s4 nq => ?_) (fun hc H4 s4 => ?_)
      · have nD : D ≠ q := ne_of_none (s4 _ _ q2) nq
        have hlen := q3.length
        have hpart := its_part nb c hoi (j := j)
        refine ⟨bs.map V.ref, by rw [upd_ne nD]; exact s4 _ _ q2, by rw [List.length_map]; omega, same_upd' (same_upd' (q1.trans s4) ((q1.trans s4).free nq)) hD, bs ++ [q], by rw [upd_same, List.map_append]; rfl, ?_⟩
        rw [filter_take c hsj, if_pos hc, List.map_append, ← List.append_assoc]
        have mv : ∀ p (a : Str × Str), (H3 p = some (.tup (F a)) ∧ H1 p = none) → (upd (upd H4 q (.tup (F (o, s)))) D (.lst (bs.map V.ref ++ [.ref q])) p = some (.tup (F a)) ∧ H1 p = none) := fun p a ⟨e1, e2⟩ => by
          have n1 : p ≠ D := fun z => by rw [z, q2] at e1; cases e1
          have n2 : p ≠ q := ne_of_none (s4 _ _ e1) nq
          exact ⟨by rw [upd_ne n1, upd_ne n2]; exact s4 _ _ e1, e2⟩
        exact Paired.snoc (L2.Paired.mapP q3 mv) ⟨by rw [upd_ne nD.symm, upd_same], (q1.trans s4).free nq⟩
      · refine ⟨q1.trans s4, bs, s4 _ _ q2, ?_⟩
        rw [filter_take c hsj, if_neg (by simp [hc]), List.append_nil]
        exact L2.Paired.mapP q3 fun p a h => ⟨s4 _ _ h.1, h.2⟩
    · have e : j = (nb o).length := by omega
      subst e
      rw [List.take_of_length_le (Nat.le_refl _)] at q3
      refine .inl ⟨⟨_, hl2, by simp⟩, q1, bs, q2, ?_⟩
      rw [its_snoc nb c hoi]; exact q3
  · have e : i = src.length := by omega
    subst e
    rw [List.take_of_length_le (Nat.le_refl _)] at p3
    exact .inl ⟨⟨_, hA', by simp⟩, hd H as p1 p2 p3⟩
end

theorem iteNN {c A B : Prop} [Decidable c] (hc : ¬ c) (h : A) : if (!decide c) = true then A else B := by
  rw [decide_eq_false hc]
  exact iteT h
theorem free_upd {H : Hp} {a b : Addr} {o : HO} (e : upd H a o b = none) : H b = none := by
  unfold upd at e; split at e
  · cases e
  · exact e
theorem SidesAt.get2 {H : Hp} {p : Addr} {T : Halls} {x : Str} (h : SidesAt H p T) (nd : (T.map (·.1)).Nodup) (hx : x ∈ T.map (·.1)) : ∃ l, H l = some (.lst ((nbrs T x).map V.str)) ∧ ∀ H', Same H H' → DGet H' p (.str x) (some (.ref l)) := by
  obtain ⟨L, h1, h2, h3⟩ := h
  rw [← h1] at hx nd
  obtain ⟨q, hq, rfl⟩ := List.mem_map.mp hx
  refine ⟨q.2, h3 q hq, fun H' s => ?_⟩
  have := DGet.rd (k := Sum.inr q.1) (s.rd h2)
  rw [val_mem (f := V.ref) nd hq] at this
  exact this
/-! ### doors_between -/
theorem its_next (T : Halls) (F : List (Str × Nat)) (here : List Str) : (its (nbrs T) (fun s => !decide (s ∈ F.map (·.1))) here).map (·.2) = nextL T F here := by
  unfold its nextL
  rw [List.map_flatMap]
  congr 1
  funext o
  rw [List.map_map]
  exact List.map_id _
def natV (n : Nat) : V := .int n
/-- p stands for a dict of each hall's distance from x -/
def FarAt (H : Hp) (p : Addr) (T : Halls) (rk : Str → Nat) (x : Str) : Prop := ∃ F : List (Str × Nat), Rd H p (.dK (tab natV F)) ∧ (F.map (·.1)).Nodup ∧ ∀ s, s ∈ T.map (·.1) → (s, dd T rk x s) ∈ F
theorem FarAt.get {H : Hp} {p : Addr} {T : Halls} {rk : Str → Nat} {x s : Str} (h : FarAt H p T rk x) (hs : s ∈ T.map (·.1)) : DGet H p (.str s) (some (.int (dd T rk x s))) := by
  obtain ⟨F, h1, h2, h3⟩ := h
  have := DGet.rd (k := Sum.inr s) h1
  rw [val_mem (f := natV) h2 (h3 s hs)] at this
  exact this
theorem FarAt.rdm {H H' : Hp} {p : Addr} {T : Halls} {rk : Str → Nat} {x : Str} (m : RdM H H') (h : FarAt H p T rk x) : FarAt H' p T rk x := by
  obtain ⟨F, h1, h2⟩ := h
  exact ⟨F, m.d _ _ h1, h2⟩
section
variable {P : Program} {w : World} {K : PySem.W.Frag} {mg : Str → Option Value} {base : Heap}
def spFar : Sp := fun vs H Q _ => ∃ (a : Addr) (x : Str) (T : Halls) (rk : Str → Nat), vs = [.ref a, .str x] ∧ AtH H a T ∧ Good T rk ∧ x ∈ T.map (·.1) ∧ ∀ H' p, Same H H' → H p = none → FarAt H' p T rk x → Q (.ref p) H'
abbrev N33 : List Str := ["halls", "hall", "sides", "found", "here", "one", "side", "far"]
theorem sc33 : FnScope N33 ["halls", "hall"] (defScope (top 33)) := ⟨rfl, rfl, rfl, by decide +kernel, rfl, by decide +kernel, by decide +kernel⟩
theorem swl2_true {elt : Expr} {gs : List Comprehension} {scope : Scope} {pos py : Pos} {y : Str} {l : Nat} {env : Env} (hk : env.scope.kind = .function) (hy : env.scope.names.lookup y = some .local) (hl : (py.line == pos.line) = true)
    (ha : (scope.names.any fun (n, k) => n == y && (k == .local || k == .cell)) = false) : swapsWith (.ListComp elt gs scope pos) (some (.Name y py)) l env = pure true := sw_true hk hy hl ha
theorem nm_ok {x : Str} (h : IsNm x) : PyData.strOk x = true := by
  unfold PyData.strOk
  rw [← Array.all_toList, List.all_eq_true]
  intro c hc
  have h1 := h.sg c hc
  have : ∀ c ∈ LET.cps.toList, c < 1114112 := by decide
  exact decide_eq_true (this c h1)
theorem c_far (T : Tx K mg) : Cal P w K mg base 2 "doors_between" spFar := by
  refine cal_of T.d33 sc33 (fun _ _ _ _ _ _ us hl => match us, hl with | [_, _], _ => rfl) (fun vs H Q E h => ?_) (fun f cdv A outer s H vs Q E hr h => ?_)
  · obtain ⟨a, x, _, _, rfl, _⟩ := h; rfl
  · obtain ⟨a, x, Ts, rk, rfl, hA, G, hx, q⟩ := h
    have hu := hu_of hr
    have t := G.t
    have C := c_sides (P := P) (w := w) (base := base) T
    refine ⟨_, pss_cons (ps_set (i := 2) sc33.nd rfl (Or.inr rfl) (pc C hr (pa_cons (pv 0) pa_nil)))
      (pss_cons (ps_set (i := 3) sc33.nd rfl (Or.inr rfl) (pe_disp (pps_cons (pv 1) pe_int pps_nil) (by rfl) (by rfl) (fun z => by cases z) (by decide)))
      (pss_cons (ps_set (i := 4) sc33.nd rfl (Or.inl rfl) (pe_lst (pa_cons (pv 1) pa_nil)))
      (pss_cons (ps_while PassesOwn.never (pt_cmpR (op_neD hr.units) (pv 4) (pe_lst pa_nil) (nomark _))
        (pss_cons (ps_setLc2 (i := 4) (own := [("one", 5), ("side", 6)]) (vs1 := [6]) (g := gName 5) (tt := tYes) (wi1 := iList K (tDGet (tVar 2) (tVar 5))) (g1 := gName 6) (tt1 := tB (tDNotIn (tVar 6) (tVar 3))) rfl sc33.nd rfl rfl (sw_true rfl rfl rfl (by decide +kernel)) (pi_list (pv 4)) (blkOk_by (N := N33) (sc := defScope (top 33)) (by decide +kernel)) (by decide)
            (fun _ _ _ _ _ => pg_name (i := 5) sc33.nd rfl (Or.inl rfl)) (fun _ _ _ _ _ => pts_nil) (fun _ _ _ _ _ => pi_list (pe_dget hu (pv 2) (pv 5) (fun _ _ => rfl))) (fun _ _ _ _ _ => pg_name (i := 6) sc33.nd rfl (Or.inl rfl)) (fun _ _ _ _ _ => pts_one (pt_cmp (pc_dnotin hu (pv 6) (pv 3))))
            (fun _ _ _ _ _ => pe_tup (pa_cons (pv 6) (pa_cons (pe_op op_add (pe_dget hu (pv 3) (pv 5) (fun _ _ => rfl)) pe_int) pa_nil))))
        (pss_cons (ps_expr (pe_bm PySem.F.plainAttrs_dict PySem.F.slot_dict_update PySem.F.type_dict_update (mt_update rfl) (pv 3) (pa_cons (pv 4) pa_nil)))
        (pss_one (ps_setLc (i := 4) (own := [("side", 6), ("far", 7)]) (g := gTup K 2 (gCons (gName 6) (gCons (gName 7) gNil))) (tt := tYes) rfl sc33.nd rfl rfl (sw_true rfl rfl rfl (by decide +kernel)) (pi_list (pv 4)) (blkOk_by (N := N33) (sc := defScope (top 33)) (by decide +kernel))
            (fun _ _ _ _ _ => pg_tup rfl (pgs_cons (pg_name (i := 6) sc33.nd rfl (.inl rfl)) (pgs_cons (pg_name (i := 7) sc33.nd rfl (.inl rfl)) pgs_nil))) (fun _ _ _ _ _ => pts_nil) (fun _ _ _ _ _ => pv 6))))))
      (pss_one (ps_ret (pv 3)))))), ?_⟩
    refine ⟨_, rfl, a, Ts, rk, rfl, hA, t, G.le, fun H1 sd s1 nsd S => ?_⟩
    intro fo nfo
    refine ⟨_, rfl, upd_same, [(Sum.inr x, .int 0)], rfl, by show 1 ≤ 15; decide, ?_⟩
    rw [upd_upd]
    refine ⟨_, rfl, by show 1 ≤ sizeLine; decide, fun ha nha => ?_⟩
    have nd := t.nd
    refine ⟨fun m σ Hc => ∃ (k : Nat) (F : List (Str × Nat)) (here : List Str) (hp : Addr) (v5 v6 v7 : Option V), m = 2 * (Ts.length - F.length) + (if here = [] then 0 else 1) ∧ Lay Ts rk x k F here ∧
      σ = [some (.ref a), some (.str x), some (.ref sd), some (.ref fo), some (.ref hp), v5, v6, v7] ∧ Same H1 Hc ∧ Hc fo = some (.dK (tab natV F)) ∧ Hc hp = some (.lst (here.map V.str)),
      ⟨_, 0, [(x, 0)], [x], ha, _, _, _, rfl, lay0 t hx, rfl, same_upd' (same_upd nfo) (free_upd nha), ?_, upd_same⟩, fun m σ Hc hW => ?_⟩
    · rw [upd_ne (ne_of_none upd_same nha)]; exact upd_same
    obtain ⟨k, F, here, hp, v5, v6, v7, rfl, Ly, rfl, sc, hfo, hhp⟩ := hW
    refine ⟨_, rfl, Nat.zero_le _, fun qq nq => ?_⟩
    have ok : StrOk here := fun y hy => nm_ok (G.nm y ((Ly.mH y).mp hy).1)
    have hhp' : (upd Hc qq (.lst [])) hp = some (.lst (here.map V.str)) := by rw [upd_ne (ne_of_none hhp nq)]; exact hhp
    have hfo' : (upd Hc qq (.lst [])) fo = some (.dK (tab natV F)) := by rw [upd_ne (ne_of_none hfo nq)]; exact hfo
    have sc' : Same H1 (upd Hc qq (.lst [])) := same_upd' sc (sc.free nq)
    refine ⟨_, _, dp_strs (SqL.of' hhp'), dp_nil (SqL.of' upd_same), shaped_strs _ ok, shaped_nil, ?_⟩
    rw [eqv_nil]
    generalize upd Hc qq (.lst []) = Hd at hhp' hfo' sc'
    by_cases he : here = []
    · subst he
      refine ⟨_, rfl, iteF ?_⟩
      exact ⟨_, rfl, q _ fo (s1.trans sc') (s1.free nfo) ⟨F, .inl hfo', Ly.nF, fun s hs => Ly.all t hx hs⟩⟩
    · have hne : (!(here.map PyData.str).isEmpty) = true := by
        cases here with
        | nil => exact absurd rfl he
        | cons _ _ => rfl
      rw [hne]
      refine ⟨_, rfl, iteT ?_⟩
      have Ln := Ly.step t hx
      have hlen := Ln.le
      rw [List.length_append, List.length_map] at hlen
      have h40 := G.le
      refine ⟨_, fun σ' H' h => h, ?_⟩
      refine ⟨_, rfl, hp, rfl, ⟨_, SqL.of' hhp'⟩, fun D nD => ?_⟩
      have en := its_next Ts F here
      have ilen : (its (nbrs Ts) (fun s => !decide (s ∈ F.map (·.1))) here).length = (nextL Ts F here).length := by rw [← en, List.length_map]
      refine lc2_tup here (nbrs Ts) (fun s => !decide (s ∈ F.map (·.1))) (fun p => [.str p.2, .int (k + 1 : Nat)]) (by rw [ilen]; exact small1000 (by omega)) nD (SqL.of' hhp') (fun o => rfl) (fun o H2 R ho s2 hR => ?_) (fun o s H2 Kt Kn ho hs s2 hk hn => ⟨rfl, ?_⟩) (fun H2 as s2 e2 pr => ?_)
      · obtain ⟨l, g2, g1⟩ := (S.same sc').get2 nd ((Ly.mH o).mp ho).1
        exact ⟨_, rfl, _, rfl, sd, _, rfl, g1 _ s2, l, rfl, ⟨_, SqL.of' (s2 _ _ g2)⟩, hR l g2⟩
      · refine ⟨_, rfl, _, rfl, fo, _, rfl, DGet.rd (k := Sum.inr s) (.inl (s2 _ _ hfo')), ?_⟩
        rw [val_iff]
        have hoF : (o, k) ∈ F := (Ly.mF o k).mpr ⟨((Ly.mH o).mp ho).1, ((Ly.mH o).mp ho).2, Nat.le_refl _⟩
        refine ⟨_, rfl, ?_⟩
        by_cases hm : s ∈ F.map (·.1)
        · exact iteNS hm (hn (by rw [decide_eq_true hm]; rfl) _ (Same.refl _))
        · refine iteNN hm ?_
          refine ⟨_, rfl, _, rfl, _, rfl, fo, _, rfl, ?_, (k : Int), 1, rfl, rfl, ?_⟩
          · have := DGet.rd (k := Sum.inr o) (.inl (s2 _ _ hfo'))
            rw [val_mem (f := natV) Ly.nF hoF] at this
            exact this
          · exact ⟨by show 2 ≤ sizeLine; decide, fun p np => hk (by rw [decide_eq_false hm]; rfl) p _ (Same.refl _) np⟩
      · have efo : H2 fo = some (.dK (tab natV F)) := s2 _ _ hfo'
        have prN : Paired (fun p (kv : Key × V) => SqT K H2 p [kV kv.1, kv.2]) as (((nextL Ts F here).map fun s => (s, k + 1)).map fun p => (Sum.inr p.1, natV p.2)) := by
          rw [← en, List.map_map, List.map_map]
          exact Paired.map_right (L2.Paired.mapP pr fun p b h => SqT.of' h.1)
        refine ⟨_, rfl, .inr (.inr (.inl ⟨rfl, .inl ⟨_, efo⟩⟩)), _, rfl, fo, D, as, tab natV F, _, rfl, rfl, efo, SqL.of' e2, prN, ?_, ?_⟩
        · rw [tab_len, List.length_map, List.length_map]; exact Nat.le_of_lt (small1000 (by omega))
        rw [merge_new Ln.nF]
        have fD : D ≠ fo := fun e => by rw [e, hfo'] at nD; cases nD
        have alen := pr.length
        refine ⟨_, rfl, D, rfl, ⟨_, SqL.of' (by rw [upd_ne fD]; exact e2)⟩, fun D2 nD2 => ?_⟩
        have nD2' := free_upd nD2
        refine lc_map (walk_list (xs := as.map V.ref)) (its (nbrs Ts) (fun s => !decide (s ∈ F.map (·.1))) here) (fun p => V.str p.2) (by rw [List.length_map, alen]) (by rw [List.length_map, alen, ilen]; exact Nat.le_of_lt (small1000 (by omega))) nD2 (fun H3 s3 => SqL.of' (s3 _ _ (by rw [upd_ne fD]; exact e2))) (fun i p y H3 H4 Kt hp s3 hy hk => ?_) (fun H3 s3 e3 => ?_)
        · obtain ⟨rfl, hy⟩ := hy
          rw [List.getElem?_map] at hy
          obtain ⟨r, hr1, rfl⟩ := Option.map_eq_some_iff.mp hy
          obtain ⟨b, hb, er⟩ := Paired.at pr hr1
          have eb : b = p := by rw [hb] at hp; exact Option.some.inj hp
          subst eb
          have rf : r ≠ fo := fun e => by rw [e, efo] at er; cases er.1
          have e3 : H4 r = some (.tup [V.str b.2, V.int (k + 1 : Nat)]) := s3 _ _ (by rw [upd_ne rf]; exact er.1)
          exact ⟨r, _, rfl, SqT.of' e3, rfl, _, _, rfl, _, _, rfl, rfl, rfl, _, rfl, hk _ (Same.refl _)⟩
        · have e4 : (its (nbrs Ts) (fun s => !decide (s ∈ F.map (·.1))) here).map (fun p => V.str p.2) = (nextL Ts F here).map V.str := by rw [← en, List.map_map]; rfl
          rw [e4] at e3
          have hl2 := Ln.le
          refine ⟨2 * (Ts.length - (F ++ (nextL Ts F here).map fun s => (s, k + 1)).length) + (if nextL Ts F here = [] then 0 else 1), ?_, k + 1, _, nextL Ts F here, D2, _, _, _, rfl, Ln, rfl, ?_, s3 _ _ upd_same, e3⟩
          · rw [List.length_append, List.length_map, if_neg he]
            by_cases h0 : nextL Ts F here = []
            · rw [if_pos h0]; omega
            · rw [if_neg h0]
              have := List.length_pos_iff.mpr h0
              omega
          · exact Same.trans (fun b o e => by rw [upd_ne (ne_of_none e nfo)]; exact s2 _ _ (sc' _ _ e)) s3
end
end K66
set_option maxHeartbeats 4000000
/-! Costs and best halls. -/
namespace K66
open PySem PySem.Spec PyProof.Rows L2
theorem fm_names {β : Type} (c : Str → Prop) [DecidablePred c] : ∀ l : List (Str × β), (l.filterMap fun p => if c p.1 then some (V.str p.1) else none) = ((l.map (·.1)).filter fun x => decide (c x)).map V.str
  | [] => rfl
  | p :: l => by
    rw [List.filterMap_cons, List.map_cons, List.filter_cons, fm_names c l]
    by_cases e : c p.1 <;> simp [e]
theorem map_ints {α : Type} (l : List α) (g : α → Int) : (l.map fun p => V.int (g p)) = (l.map g).map V.int := by rw [List.map_map]; rfl
/-- the best ones, in order -/
structure BestIs (T : Halls) (rk : Str → Nat) (W : Wts) (bs : List Str) : Prop where
  nd : bs.Nodup
  srt : sortedS bs = true
  mem : ∀ s, s ∈ bs ↔ s ∈ T.map (·.1) ∧ ∀ y, y ∈ T.map (·.1) → costOf T rk W s ≤ costOf T rk W y
theorem perm_of {l l' : List Str} (h : l.Nodup) (h' : l'.Nodup) (e : ∀ s, s ∈ l ↔ s ∈ l') : l.Perm l' := (List.perm_ext_iff_of_nodup h h').mpr e
theorem BestIs.uniq {T T' : Halls} {rk rk' : Str → Nat} {W : Wts} {b b' : List Str} (h : BestIs T rk W b) (h' : BestIs T' rk' W b') (en : ∀ s, s ∈ T'.map (·.1) ↔ s ∈ T.map (·.1)) (ec : ∀ s, s ∈ T.map (·.1) → costOf T' rk' W s = costOf T rk W s) : b = b' := by
  refine sortedS_eq (perm_of h.nd h'.nd fun s => ?_) h.srt h'.srt
  rw [h.mem, h'.mem, en]
  constructor
  · rintro ⟨h1, h2⟩
    refine ⟨h1, fun y hy => ?_⟩
    have hy' := (en y).mp hy
    rw [ec s h1, ec y hy']
    exact h2 y hy'
  · rintro ⟨h1, h2⟩
    refine ⟨h1, fun y hy => ?_⟩
    have := h2 y ((en y).mpr hy)
    rwa [ec s h1, ec y hy] at this
section
variable {P : Program} {w : World} {K : PySem.W.Frag} {mg : Str → Option Value} {base : Heap}
def spCostF : Sp := fun vs H Q _ => ∃ (a b : Addr) (x : Str) (T : Halls) (rk : Str → Nat) (W : Wts), vs = [.ref a, .ref b, .str x] ∧ AtH H a T ∧ Good T rk ∧ AtW H b W ∧ GoodW T W ∧ x ∈ T.map (·.1) ∧ ∀ H', Same H H' → Q (.int (costOf T rk W x)) H'
abbrev N34 : List Str := ["halls", "weights", "hall", "far", "other", "weight"]
theorem sc34 : FnScope N34 ["halls", "weights", "hall"] (defScope (top 34)) := ⟨rfl, rfl, rfl, by decide +kernel, rfl, by decide +kernel, by decide +kernel⟩
theorem c_cost_from (T : Tx K mg) : Cal P w K mg base 3 "cost_from" spCostF := by
  refine cal_of T.d34 sc34 (fun _ _ _ _ _ _ us hl => match us, hl with | [_, _, _], _ => rfl) (fun vs H Q E h => ?_) (fun f cdv A outer s H vs Q E hr h => ?_)
  · obtain ⟨a, b, _, _, _, _, rfl, _⟩ := h; rfl
  · obtain ⟨a, b, x, Ts, rk, W, rfl, hA, G, hB, GW, hx, q⟩ := h
    have hu := hu_of hr
    have C := c_far (P := P) (w := w) (base := base) T
    have hz : W.length ≤ sizeLine := small40 (Nat.le_trans GW.len G.le)
    refine ⟨_, pss_cons (ps_set (i := 3) sc34.nd rfl (Or.inr rfl) (pc C hr (pa_cons (pv 0) (pa_cons (pv 2) pa_nil))))
      (pss_one (ps_ret (pB (cr_sum rfl) T (pa_cons (pe_lk (pe_lc (own := [("other", 4), ("weight", 5)]) (g := gTup K 2 (gCons (gName 4) (gCons (gName 5) gNil))) (tt := tYes) rfl sc34.nd (pi_items (pv 1)) (blkOk_by (N := N34) (sc := defScope (top 34)) (by decide +kernel))
        (fun _ _ _ _ _ => pg_tup rfl (pgs_cons (pg_name (i := 4) sc34.nd rfl (.inl rfl)) (pgs_cons (pg_name (i := 5) sc34.nd rfl (.inl rfl)) pgs_nil))) (fun _ _ _ _ _ => pts_nil)
        (fun _ _ _ _ _ => pe_op op_mul (pv 5) (pe_dget hu (pv 3) (pv 4) (fun _ _ => rfl))))) pa_nil)))), ?_⟩
    refine ⟨_, rfl, _, rfl, a, x, Ts, rk, rfl, hA, G, hx, fun H1 fp s1 nfp FA => ?_⟩
    refine lk_items (fun p => .int (p.2 * (dd Ts rk x p.1 : Int))) rfl (s1.rd hB) hz (fun p H2 Kt hp m hk => ⟨rfl, ?_⟩) (fun D H2 s2 n2 e2 => ?_)
    · have h0 := GW.nn p hp
      have h1 := GW.le p hp
      exact ⟨_, rfl, _, rfl, _, rfl, fp, _, rfl, (FA.rdm m).get (GW.mem p hp), _, _, rfl, rfl, .inl ⟨by omega, by omega⟩, hk _ (Same.refl _)⟩
    refine ⟨D, W.map fun p => p.2 * (dd Ts rk x p.1 : Int), rfl, SqL.of' (by rw [e2, map_ints]), ?_⟩
    exact q _ (s1.trans s2)

def spCost : Sp := fun vs H Q _ => ∃ (a b : Addr) (x : Str) (T : Halls) (rk : Str → Nat) (W : Wts), vs = [.ref a, .ref b, .str x] ∧ H a = some (.dK (tab optV T)) ∧ Good T rk ∧ H b = some (.dK (tab V.int W)) ∧ GoodW T W ∧ x ∈ T.map (·.1) ∧ ∀ H', Same H H' → Q (.int (costOf T rk W x)) H'
theorem sc35 : FnScope ["halls", "weights", "hall"] ["halls", "weights", "hall"] (defScope (top 35)) := ⟨rfl, rfl, rfl, by decide +kernel, rfl, by decide +kernel, by decide +kernel⟩
theorem c_cost (T : Tx K mg) : Cal P w K mg base 6 "cost" spCost := by
  refine cal_of T.d35 sc35 (fun _ _ _ _ _ _ us hl => match us, hl with | [_, _, _], _ => rfl) (fun vs H Q E h => ?_) (fun f cdv A outer s H vs Q E hr h => ?_)
  · obtain ⟨a, b, _, _, _, _, rfl, _⟩ := h; rfl
  · obtain ⟨a, b, x, Ts, rk, W, rfl, hA, G, hB, GW, hx, q⟩ := h
    have C1 := c_need_hw (P := P) (w := w) (base := base) T
    have C2 := c_cost_from (P := P) (w := w) (base := base) T
    refine ⟨_, pss_cons (ps_expr (pc C1 hr (pa_cons (pv 0) (pa_cons (pv 1) (pa_cons (pv 2) pa_nil))))) (pss_one (ps_ret (pc C2 hr (pa_cons (pv 0) (pa_cons (pv 1) (pa_cons (pv 2) pa_nil)))))), ?_⟩
    refine ⟨_, rfl, _, rfl, _, rfl, a, b, x, Ts, rk, W, rfl, hA, G, hB, GW, hx, fun H1 s1 => ?_⟩
    exact ⟨_, rfl, _, rfl, _, rfl, a, b, x, Ts, rk, W, rfl, .inl (s1 _ _ hA), G, .inl (s1 _ _ hB), GW, hx, fun H2 s2 => q _ (s1.trans s2)⟩

def spBest : Sp := fun vs H Q _ => ∃ (a b : Addr) (T : Halls) (rk : Str → Nat) (W : Wts), vs = [.ref a, .ref b] ∧ H a = some (.dK (tab optV T)) ∧ Good T rk ∧ H b = some (.dK (tab V.int W)) ∧ GoodW T W ∧
  ∀ H' p bs, Same H H' → H p = none → BestIs T rk W bs → H' p = some (.tup (bs.map V.str)) → Q (.ref p) H'
abbrev N36 : List Str := ["halls", "weights", "costs", "lowest", "hall"]
theorem sc36 : FnScope N36 ["halls", "weights"] (defScope (top 36)) := ⟨rfl, rfl, rfl, by decide +kernel, rfl, by decide +kernel, by decide +kernel⟩
theorem c_best (T : Tx K mg) : Cal P w K mg base 5 "best_halls" spBest := by
  refine cal_of T.d36 sc36 (fun _ _ _ _ _ _ us hl => match us, hl with | [_, _], _ => rfl) (fun vs H Q E h => ?_) (fun f cdv A outer s H vs Q E hr h => ?_)
  · obtain ⟨a, b, _, _, _, rfl, _⟩ := h; rfl
  · obtain ⟨a, b, Ts, rk, W, rfl, hA, G, hB, GW, q⟩ := h
    have hu := hu_of hr
    have t := G.t
    have hz : Ts.length ≤ sizeLine := small40 G.le
    have C1 := c_need_halls (P := P) (w := w) (base := base) T
    have C2 := c_need_weights (P := P) (w := w) (base := base) T
    have C3 := c_cost_from (P := P) (w := w) (base := base) T
    refine ⟨_, pss_cons (ps_expr (pc C1 hr (pa_cons (pv 0) pa_nil))) (pss_cons (ps_expr (pc C2 hr (pa_cons (pv 0) (pa_cons (pv 1) pa_nil))))
      (pss_cons (ps_set (i := 2) sc36.nd rfl (Or.inr rfl) (pe_lk (pe_dc (own := [("hall", 4)]) (g := gName 4) (tt := tYes) rfl sc36.nd (pi_keys (pv 0)) (blkOk_by (N := N36) (sc := defScope (top 36)) (by decide +kernel)) (fun _ _ _ _ _ => pg_name (i := 4) sc36.nd rfl (Or.inl rfl)) (fun _ _ _ _ _ => pts_nil)
        (fun _ _ _ _ _ => pv 4) (fun _ _ _ _ _ => pc C3 hr (pa_cons (pv 0) (pa_cons (pv 1) (pa_cons (pv 4) pa_nil)))))))
      (pss_cons (ps_set (i := 3) sc36.nd rfl (Or.inr rfl) (pe_minVals rfl rfl (T.fr "min" (by decide +kernel)) (pv 2)))
      (pss_one (ps_ret (pT call_tuple_of T (pa_cons (pB cr_sortedS T (pa_cons (pe_lk (pe_lc (own := [("hall", 4)]) (g := gName 4) (tt := tTest (tOp rEq (tDGet (tVar 2) (tVar 4)) (tVar 3))) rfl sc36.nd (pi_keys (pv 0)) (blkOk_by (N := N36) (sc := defScope (top 36)) (by decide +kernel)) (fun _ _ _ _ _ => pg_name (i := 4) sc36.nd rfl (Or.inl rfl)) (fun _ _ _ _ _ => pts_one (pt_cmpR op_eq (pe_dget hu (pv 2) (pv 4) (fun _ _ => rfl)) (pv 3) (nomark _)))
        (fun _ _ _ _ _ => pv 4))) pa_nil)) pa_nil))))))), ?_⟩
    refine ⟨_, rfl, a, Ts, rk, rfl, hA, G, fun H1 s1 => ?_⟩
    refine ⟨_, rfl, _, rfl, a, b, Ts, W, rfl, .inl (s1 _ _ hA), t.nd, G.le, s1 _ _ hB, GW, fun H2 s2 => ?_⟩
    have s12 := s1.trans s2
    refine lk_dict (fun p => .int (costOf Ts rk W p.1)) t.nd rfl (.inl (s12 _ _ hA)) hz (fun p H3 Kt hp m hk => ⟨rfl, ?_⟩) (fun D H3 s3 nD e3 => ?_)
    · exact ⟨_, rfl, _, rfl, _, rfl, _, rfl, a, b, p.1, Ts, rk, W, rfl, m.d _ _ (.inl (s12 _ _ hA)), G, m.d _ _ (.inl (s12 _ _ hB)), GW, List.mem_map.mpr ⟨p, hp, rfl⟩, fun H4 s4 => hk H4 s4⟩
    have s123 := s12.trans s3
    have hne : Ts ≠ [] := fun e => by
      obtain ⟨r, hr, _⟩ := t.root
      rw [e] at hr; cases hr
    refine ⟨_, rfl, D, _, Ts.map fun p => costOf Ts rk W p.1, rfl, e3, ?_, by simpa using hne, fun m hm hmin => ?_⟩
    · rw [tab_vals, List.map_map, List.map_map, List.map_map]; rfl
    have ea : ∀ p H', p ∈ Ts → RdM H3 H' → DGet H' D (.str p.1) (some (.int (costOf Ts rk W p.1))) := fun p H' hp mm => by
      have := DGet.rd (k := Sum.inr p.1) (mm.d _ _ (.inl e3))
      rw [val_mem (f := id) (b := V.int (costOf Ts rk W p.1)) (by rw [List.map_map]; exact t.nd) (List.mem_map.mpr ⟨p, hp, rfl⟩)] at this
      exact this
    refine lk_keysF (fun p => if costOf Ts rk W p.1 = m then some (.str p.1) else none) rfl (.inl (s123 _ _ hA)) hz (fun p H4 Kt Kn hp m4 hk hn => ⟨rfl, ?_⟩) (fun D2 H4 s4 n4 e4 => ?_)
    · refine ⟨_, rfl, _, rfl, D, _, rfl, ea p H4 hp m4, _, rfl, rfl, _, rfl, ?_⟩
      by_cases e : costOf Ts rk W p.1 = m
      · rw [e, decide_eq_true rfl]
        exact iteT ⟨_, rfl, hk _ _ (if_pos e) (Same.refl _)⟩
      · rw [decide_eq_false fun z => e (V.int.inj z)]
        exact iteF (hn _ (if_neg e) (Same.refl _))
    rw [fm_names (fun x => costOf Ts rk W x = m) Ts] at e4
    refine ⟨D2, _, rfl, SqL.of' e4, ?_, fun ys p hp srt np => ?_⟩
    · refine Nat.lt_of_le_of_lt (List.length_filter_le _ _) ?_
      rw [List.length_map]
      have := G.le
      omega
    refine ⟨p, _, rfl, .inl ⟨SqL.of' upd_same, fun l nl => ?_⟩⟩
    have np' := free_upd nl
    refine q _ l ys (same_upd' (same_upd' ((s123.trans s4)) ((s123.trans s4).free np)) ((s123.trans s4).free np')) ((s123.trans s4).free np') ⟨?_, srt, fun s => ?_⟩ upd_same
    · exact (hp.nodup_iff).mpr (t.nd.filter _)
    · rw [hp.mem_iff, List.mem_filter, decide_eq_true_eq]
      constructor
      · rintro ⟨h1, h2⟩
        refine ⟨h1, fun y hy => ?_⟩
        obtain ⟨p, hp, rfl⟩ := List.mem_map.mp hy
        rw [h2]
        exact hmin _ (List.mem_map.mpr ⟨p, hp, rfl⟩)
      · rintro ⟨h1, h2⟩
        refine ⟨h1, ?_⟩
        obtain ⟨p, hp, e⟩ := List.mem_map.mp hm
        have := h2 p.1 (List.mem_map.mpr ⟨p, hp, rfl⟩)
        rw [e] at this
        obtain ⟨r, hr, rfl⟩ := List.mem_map.mp h1
        exact Int.le_antisymm this (hmin _ (List.mem_map.mpr ⟨r, hr, rfl⟩))
end
end K66
set_option maxHeartbeats 4000000
/-! Papers of roots. -/
namespace K66
open PySem PySem.Spec PyProof.Rows L2
/-- the paper: what lies behind each door -/
structure PaperIs (T : Halls) (rk : Str → Nat) (W : Wts) (x : Str) (R : Wts) : Prop where
  nd : (R.map (·.1)).Nodup
  mem : ∀ s n, (s, n) ∈ R ↔ adj T x s ∧ n = bw T rk W x s
theorem PaperIs.key {T : Halls} {rk : Str → Nat} {W : Wts} {x : Str} {R : Wts} (h : PaperIs T rk W x R) {s : Str} : s ∈ R.map (·.1) ↔ adj T x s := by
  constructor
  · intro hs
    obtain ⟨⟨a, n⟩, h1, rfl⟩ := List.mem_map.mp hs
    exact ((h.mem a n).mp h1).1
  · intro hs
    exact List.mem_map.mpr ⟨(s, bw T rk W x s), (h.mem _ _).mpr ⟨hs, rfl⟩, rfl⟩
theorem PaperIs.len {T : Halls} {rk : Str → Nat} {W : Wts} {x : Str} {R : Wts} (h : PaperIs T rk W x R) (t : Tree T rk) : R.length ≤ T.length := by
  have := List.Nodup.length_le_of_subset h.nd (l₂ := T.map (·.1)) fun s hs => (t.adj_names (h.key.mp hs)).2
  rwa [List.length_map, List.length_map] at this
/-- the first filling: the halls right below -/
def lows (T : Halls) (rk : Str → Nat) (W : Wts) (x : Str) : Wts := T.filterMap fun p => if p.2 = some x then some (p.1, wb T rk W p.1) else none
theorem mem_lows {T : Halls} {rk : Str → Nat} {W : Wts} {x s : Str} {n : Int} : (s, n) ∈ lows T rk W x ↔ (s, some x) ∈ T ∧ n = wb T rk W s := by
  unfold lows
  rw [List.mem_filterMap]
  constructor
  · rintro ⟨p, hp, e⟩
    split at e
    · rename_i h
      cases e
      exact ⟨by rw [← h]; exact hp, rfl⟩
    · cases e
  · rintro ⟨h, rfl⟩
    exact ⟨_, h, by simp⟩
theorem fm_sub (c : Option Str → Prop) [DecidablePred c] (g : Str → Int) : ∀ l : Halls, ((l.filterMap fun p => if c p.2 then some (p.1, g p.1) else none).map (·.1)).Sublist (l.map (·.1))
  | [] => List.Sublist.slnil
  | p :: l => by
    rw [List.filterMap_cons]
    by_cases e : c p.2
    · rw [if_pos e]; exact (fm_sub c g l).cons_cons _
    · rw [if_neg e]; exact (fm_sub c g l).cons _
theorem kept_lows (c : Option Str → Prop) [DecidablePred c] (g : Str → Int) : ∀ l : Halls, tab id (kept (·.1) (fun p => if c p.2 then some (V.int (g p.1)) else none) l) = tab V.int (l.filterMap fun p => if c p.2 then some (p.1, g p.1) else none)
  | [] => rfl
  | p :: l => by
    have ih := kept_lows c g l
    unfold kept tab at ih ⊢
    by_cases e : c p.2
    · simp only [List.filterMap_cons, if_pos e, Option.map_some, List.map_cons]
      rw [ih]; rfl
    · simp only [List.filterMap_cons, if_neg e, Option.map_none]
      exact ih
theorem kept_all (g : Str → Int) : ∀ l : List Str, tab id (kept id (fun y => some (V.int (g y))) l) = tab V.int (l.map fun y => (y, g y))
  | [] => rfl
  | p :: l => by
    have ih := kept_all g l
    unfold kept tab at ih ⊢
    simp only [List.filterMap_cons, Option.map_some, List.map_cons] at ih ⊢
    rw [ih]; rfl
theorem lows_nd {T : Halls} (rk : Str → Nat) (W : Wts) (x : Str) (nd : (T.map (·.1)).Nodup) : ((lows T rk W x).map (·.1)).Nodup := List.Nodup.sublist (fm_sub (fun o => o = some x) (wb T rk W) T) nd
theorem lows_paper {T : Halls} {rk : Str → Nat} {W : Wts} {x : Str} (t : Tree T rk) (e : par T x = none) : PaperIs T rk W x (lows T rk W x) where
  nd := lows_nd rk W x t.nd
  mem := fun s n => by
    rw [mem_lows]
    constructor
    · rintro ⟨h1, rfl⟩
      have h2 := par_of_mem t.nd h1
      exact ⟨.inr h2, (t.bw_low h2).symm⟩
    · rintro ⟨h1, rfl⟩
      rcases h1 with h1 | h1
      · rw [e] at h1; cases h1
      · exact ⟨mem_of_par h1, t.bw_low h1⟩
theorem up_new {T : Halls} {rk : Str → Nat} {W : Wts} {x u : Str} (t : Tree T rk) (e : par T x = some u) : ¬ u ∈ (lows T rk W x).map (·.1) := fun h => by
  obtain ⟨⟨a, n⟩, h1, rfl⟩ := List.mem_map.mp h
  exact t.no_both e (par_of_mem t.nd (mem_lows.mp h1).1)
theorem up_paper {T : Halls} {rk : Str → Nat} {W : Wts} {x u : Str} (t : Tree T rk) (hx : x ∈ T.map (·.1)) (e : par T x = some u) : PaperIs T rk W x (lows T rk W x ++ [(u, tot W - wb T rk W x)]) where
  nd := by
    rw [List.map_append, List.nodup_append]
    refine ⟨lows_nd rk W x t.nd, by simp, fun a ha b hb q => ?_⟩
    have : b = u := by simpa using hb
    subst this; subst q
    exact up_new t e ha
  mem := fun s n => by
    rw [List.mem_append, mem_lows]
    constructor
    · rintro (⟨h1, rfl⟩ | h)
      · have h2 := par_of_mem t.nd h1
        exact ⟨.inr h2, (t.bw_low h2).symm⟩
      · have : (s, n) = (u, tot W - wb T rk W x) := by simpa using h
        cases this
        exact ⟨.inl e, (t.bw_up e).symm⟩
    · rintro ⟨h1, rfl⟩
      rcases h1 with h1 | h1
      · rw [e] at h1
        cases h1
        exact .inr (by rw [t.bw_up e]; simp)
      · exact .inl ⟨mem_of_par h1, t.bw_low h1⟩
section
variable {P : Program} {w : World} {K : PySem.W.Frag} {mg : Str → Option Value} {base : Heap}
def rSrtD : List V → Hp → VK → Prop := fun xs H Q => ∃ (a : Addr) (kvs : List (Key × V)) (ks : List Str), xs = [.ref a] ∧ Rd H a (.dK kvs) ∧ kvs.map (·.1) = ks.map Sum.inr ∧ ks.length < 64 ∧
    ∀ ys p, ys.Perm ks → sortedS ys = true → H p = none → Q (.ref p) (upd H p (.lst (ys.map V.str)))
theorem cr_srtD {X : Cx} (hc : X.calm = true) : CallR X (.builtin "sorted") rSrtD := call_sortedD hc
theorem paper_fin {K : PySem.W.Frag} {a b D : Addr} {x : Str} {v4 v5 : Option V} {Q : VK} {H2 : Hp} {Ts : Halls} {rk : Str → Nat} {W M : Wts} (t : Tree Ts rk) (hle : Ts.length ≤ 40) (PM : PaperIs Ts rk W x M) (e : H2 D = some (.dK (tab V.int M)))
    (q : ∀ H' p R, Same H2 H' → H2 p = none → PaperIs Ts rk W x R → H' p = some (.dK (tab V.int R)) → Q (.ref p) H') :
    tDc (iList K (tCB rSrtD (tCons (tVar 3) tNil))) (gName 4) tYes (tVar 4) (tDGet (tVar 3) (tVar 4)) [4] [some (.ref a), some (.ref b), some (.str x), some (.ref D), v4, v5] H2 Q := by
  have hlen := PM.len t
  refine ⟨_, rfl, D, _, _, rfl, .inl e, tab_keys _ _, by rw [List.length_map]; omega, fun ys p hp srt np => ?_⟩
  refine ⟨p, rfl, ⟨_, SqL.of' upd_same⟩, fun D2 nD2 => ?_⟩
  have nd : ys.Nodup := (hp.nodup_iff).mpr PM.nd
  have yl : ys.length = M.length := by rw [hp.length_eq, List.length_map]
  have eD : (upd H2 p (.lst (ys.map V.str))) D = some (.dK (tab V.int M)) := by rw [upd_ne (ne_of_none e np)]; exact e
  refine dc_src (walk_list (xs := ys.map V.str)) ys id (fun y => some (.int (bw Ts rk W x y))) (by rw [List.map_id]; exact nd) (by rw [List.length_map]) (by rw [List.length_map]; exact small40 (by omega)) nD2 (fun H3 s3 => SqL.of' (s3 _ _ upd_same)) (fun i y z H3 H4 Kt Kn hi s3 hy hk hn => ?_) (fun H3 s3 e3 => ?_)
  · obtain ⟨rfl, hy⟩ := hy
    rw [List.getElem?_map, hi] at hy
    cases (show V.str y = z from Option.some.inj hy)
    refine ⟨rfl, ?_⟩
    simp only [tYes, if_true]
    refine ⟨_, rfl, _, rfl, _, rfl, D, _, rfl, ?_, hk (.int (bw Ts rk W x y)) _ rfl (Same.refl _)⟩
    have := DGet.rd (k := Sum.inr y) (.inl (s3 _ _ eD))
    rw [val_mem (f := V.int) PM.nd ((PM.mem y _).mpr ⟨PM.key.mp ((hp.mem_iff).mp (List.mem_of_getElem? hi)), rfl⟩)] at this
    exact this
  · rw [kept_all] at e3
    refine q _ D2 (ys.map fun y => (y, bw Ts rk W x y)) (Same.trans (same_upd np) s3) (free_upd nD2) ⟨?_, fun s n => ?_⟩ e3
    · rw [List.map_map]; exact (List.map_id ys).symm ▸ nd
    · rw [List.mem_map]
      constructor
      · rintro ⟨y, hy, ee⟩
        cases ee
        exact ⟨PM.key.mp ((hp.mem_iff).mp hy), rfl⟩
      · rintro ⟨h1, rfl⟩
        exact ⟨s, (hp.mem_iff).mpr (PM.key.mpr h1), rfl⟩
def spPaper : Sp := fun vs H Q _ => ∃ (a b : Addr) (x : Str) (T : Halls) (rk : Str → Nat) (W : Wts), vs = [.ref a, .ref b, .str x] ∧ AtH H a T ∧ Good T rk ∧ AtW H b W ∧ GoodW T W ∧ x ∈ T.map (·.1) ∧
  ∀ H' p R, Same H H' → H p = none → PaperIs T rk W x R → H' p = some (.dK (tab V.int R)) → Q (.ref p) H'
abbrev N38 : List Str := ["halls", "weights", "hall", "found", "other", "upper"]
theorem sc38 : FnScope N38 ["halls", "weights", "hall"] (defScope (top 38)) := ⟨rfl, rfl, rfl, by decide +kernel, rfl, by decide +kernel, by decide +kernel⟩
theorem c_paper_from (T : Tx K mg) : Cal P w K mg base 3 "paper_from" spPaper := by
  refine cal_of T.d38 sc38 (fun _ _ _ _ _ _ us hl => match us, hl with | [_, _, _], _ => rfl) (fun vs H Q E h => ?_) (fun f cdv A outer s H vs Q E hr h => ?_)
  · obtain ⟨a, b, _, _, _, _, rfl, _⟩ := h; rfl
  · obtain ⟨a, b, x, Ts, rk, W, rfl, hA, G, hB, GW, hx, q⟩ := h
    have hu := hu_of hr
    have t := G.t
    have hz : Ts.length ≤ sizeLine := small40 G.le
    have C := c_below (P := P) (w := w) (base := base) T
    refine ⟨_, pss_cons (ps_set (i := 3) sc38.nd rfl (Or.inr rfl) (pe_lk (pe_dc (own := [("other", 4), ("upper", 5)]) (g := gTup K 2 (gCons (gName 4) (gCons (gName 5) gNil))) (tt := tTest (tOp rEq (tVar 5) (tVar 2))) rfl sc38.nd (pi_items (pv 0)) (blkOk_by (N := N38) (sc := defScope (top 38)) (by decide +kernel))
          (fun _ _ _ _ _ => pg_tup rfl (pgs_cons (pg_name (i := 4) sc38.nd rfl (.inl rfl)) (pgs_cons (pg_name (i := 5) sc38.nd rfl (.inl rfl)) pgs_nil))) (fun _ _ _ _ _ => pts_one (pt_cmpR op_eq (pv 5) (pv 2) (nomark _)))
        (fun _ _ _ _ _ => pv 4) (fun _ _ _ _ _ => pc C hr (pa_cons (pv 0) (pa_cons (pv 1) (pa_cons (pv 4) pa_nil)))))))
      (pss_cons (ps_if (pt_cmp (pc_notN (pe_dget hu (pv 0) (pv 2) (fun _ _ => rfl))))
        (pss_one (ps_dput hu (pv 3) (pe_dget hu (pv 0) (pv 2) (fun _ _ => rfl)) (pe_op op_sub (pe_sumVals rfl rfl (T.fr "sum" (by decide +kernel)) (pv 1)) (pc C hr (pa_cons (pv 0) (pa_cons (pv 1) (pa_cons (pv 2) pa_nil))))) rfl)) pss_nil)
      (pss_one (ps_ret (pe_dc (own := [("other", 4)]) (g := gName 4) (tt := tYes) rfl sc38.nd (pi_list (pB (cr_srtD rfl) T (pa_cons (pv 3) pa_nil))) (blkOk_by (N := N38) (sc := defScope (top 38)) (by decide +kernel)) (fun _ _ _ _ _ => pg_name (i := 4) sc38.nd rfl (Or.inl rfl)) (fun _ _ _ _ _ => pts_nil)
        (fun _ _ _ _ _ => pv 4) (fun _ _ _ _ _ => pe_dget hu (pv 3) (pv 4) (fun _ _ => rfl)))))), ?_⟩
    refine lk_dictF (fun p => if p.2 = some x then some (.int (wb Ts rk W p.1)) else none) t.nd rfl hA hz (fun p H1 Kt Kn hp m hk hn => ⟨rfl, ?_⟩) (fun D H1 s1 nD e1 => ?_)
    · refine ⟨_, rfl, _, rfl, by cases p.2 <;> rfl, _, rfl, ?_⟩
      by_cases e : p.2 = some x
      · rw [e, show decide (optV (some x) = V.str x) = true from decide_eq_true rfl]
        exact iteT ⟨_, rfl, _, rfl, _, rfl, _, rfl, a, b, p.1, Ts, rk, W, rfl, m.d _ _ hA, t, G.le, m.d _ _ hB, GW, fun H2 s2 => hk _ _ (if_pos e) s2⟩
      · have : ¬ optV p.2 = .str x := fun z => by
          cases hq : p.2 with
          | none => rw [hq] at z; cases z
          | some y => rw [hq] at z e; cases z; exact e rfl
        rw [decide_eq_false this]
        exact iteF (hn _ (if_neg e) (Same.refl _))
    rw [kept_lows (fun o => o = some x) (wb Ts rk W)] at e1
    have e1 : H1 D = some (.dK (tab V.int (lows Ts rk W x))) := e1
    refine ⟨_, rfl, _, rfl, a, _, rfl, atH_get (s1.rd hA) t.nd hx, _, rfl, ?_⟩
    rw [optV_non]
    -- the last part
    cases ep : par Ts x with
    | none =>
      refine iteF ?_
      exact paper_fin t G.le (lows_paper t ep) e1 fun H2 p R s2 np PR e2 => q _ p R (s1.trans s2) (s1.free np) PR e2
    | some u =>
      refine iteT ?_
      refine ⟨_, rfl, b, _, W.map (·.2), rfl, s1.rd hB, tab_vals _ _, ?_⟩
      refine ⟨_, rfl, _, rfl, _, rfl, a, b, x, Ts, rk, W, rfl, s1.rd hA, t, G.le, s1.rd hB, GW, fun H2 s2 => ?_⟩
      refine ⟨_, _, rfl, rfl, ?_⟩
      refine ⟨_, rfl, _, rfl, _, rfl, a, _, rfl, atH_get ((s1.trans s2).rd hA) t.nd hx, ?_⟩
      rw [ep]
      refine ⟨D, _, rfl, DPut.k (k := Sum.inr u) (s2 _ _ e1) ?_, ?_⟩
      · rw [tab_len]
        have h1 : (lows Ts rk W x).length ≤ Ts.length := List.length_filterMap_le _ _
        have := G.le
        exact small1000 (by omega)
      rw [put_new (f := V.int) (up_new t ep)]
      exact paper_fin t G.le (up_paper t hx ep) upd_same fun H3 p R s3 np PR e3 => q _ p R (Same.trans (same_upd' (s1.trans s2) nD) s3) ((s1.trans s2).free (free_upd np)) PR e3
end
end K66
set_option maxHeartbeats 4000000
/-! root_right, turned. -/
namespace K66
open PySem PySem.Spec PyProof.Rows L2
theorem PaperIs.val {T : Halls} {rk : Str → Nat} {W : Wts} {x : Str} {R R' : Wts} (h : PaperIs T rk W x R) (h' : PaperIs T rk W x R') : R.length = R'.length ∧ ∀ p ∈ tab V.int R, valV (tab V.int R') p.1 = some p.2 ∧ flatB p.2 = true := by
  constructor
  · have : (R.map (·.1)).Perm (R'.map (·.1)) := perm_of h.nd h'.nd fun s => by rw [h.key, h'.key]
    have := this.length_eq
    rwa [List.length_map, List.length_map] at this
  · intro p hp
    obtain ⟨⟨s, n⟩, hq, rfl⟩ := List.mem_map.mp hp
    exact ⟨val_mem (f := V.int) h'.nd ((h'.mem s n).mpr ((h.mem s n).mp hq)), rfl⟩
section
variable {P : Program} {w : World} {K : PySem.W.Frag} {mg : Str → Option Value} {base : Heap}
def spPaperR : Sp := fun vs H Q _ => ∃ (a b : Addr) (x : Str) (T : Halls) (rk : Str → Nat) (W : Wts), vs = [.ref a, .ref b, .str x] ∧ H a = some (.dK (tab optV T)) ∧ Good T rk ∧ H b = some (.dK (tab V.int W)) ∧ GoodW T W ∧ x ∈ T.map (·.1) ∧
  ∀ H' p R, Same H H' → H p = none → PaperIs T rk W x R → H' p = some (.dK (tab V.int R)) → Q (.ref p) H'
theorem sc39 : FnScope ["halls", "weights", "hall"] ["halls", "weights", "hall"] (defScope (top 39)) := ⟨rfl, rfl, rfl, by decide +kernel, rfl, by decide +kernel, by decide +kernel⟩
theorem c_paper (T : Tx K mg) : Cal P w K mg base 6 "paper_of_root" spPaperR := by
  refine cal_of T.d39 sc39 (fun _ _ _ _ _ _ us hl => match us, hl with | [_, _, _], _ => rfl) (fun vs H Q E h => ?_) (fun f cdv A outer s H vs Q E hr h => ?_)
  · obtain ⟨a, b, _, _, _, _, rfl, _⟩ := h; rfl
  · obtain ⟨a, b, x, Ts, rk, W, rfl, hA, G, hB, GW, hx, q⟩ := h
    have C1 := c_need_hw (P := P) (w := w) (base := base) T
    have C2 := c_paper_from (P := P) (w := w) (base := base) T
    refine ⟨_, pss_cons (ps_expr (pc C1 hr (pa_cons (pv 0) (pa_cons (pv 1) (pa_cons (pv 2) pa_nil))))) (pss_one (ps_ret (pc C2 hr (pa_cons (pv 0) (pa_cons (pv 1) (pa_cons (pv 2) pa_nil)))))), ?_⟩
    refine ⟨_, rfl, _, rfl, _, rfl, a, b, x, Ts, rk, W, rfl, hA, G, hB, GW, hx, fun H1 s1 => ?_⟩
    exact ⟨_, rfl, _, rfl, _, rfl, a, b, x, Ts, rk, W, rfl, .inl (s1 _ _ hA), G, .inl (s1 _ _ hB), GW, hx, fun H2 p R s2 np PR e2 => q _ p R (s1.trans s2) (s1.free np) PR e2⟩

def spRight : Sp := fun vs H Q _ => ∃ (a b c : Addr) (x : Str) (T : Halls) (rk : Str → Nat) (W R : Wts), vs = [.ref a, .ref b, .str x, .ref c] ∧ H a = some (.dK (tab optV T)) ∧ Good T rk ∧ H b = some (.dK (tab V.int W)) ∧ GoodW T W ∧ x ∈ T.map (·.1) ∧
  H c = some (.dK (tab V.int R)) ∧ PaperIs T rk W x R ∧ ∀ H' k, Same H H' → (k = true ↔ ∀ s, adj T x s → 2 * bw T rk W x s ≤ tot W) → Q (.bl k) H'
abbrev N40 : List Str := ["halls", "weights", "hall", "thing", "weight"]
theorem sc40 : FnScope N40 ["halls", "weights", "hall", "thing"] (defScope (top 40)) := ⟨rfl, rfl, rfl, by decide +kernel, rfl, by decide +kernel, by decide +kernel⟩
theorem c_right (T : Tx K mg) : Cal P w K mg base 6 "root_right" spRight := by
  refine cal_of T.d40 sc40 (fun _ _ _ _ _ _ us hl => match us, hl with | [_, _, _, _], _ => rfl) (fun vs H Q E h => ?_) (fun f cdv A outer s H vs Q E hr h => ?_)
  · obtain ⟨a, b, c, _, _, _, _, _, rfl, _⟩ := h; rfl
  · obtain ⟨a, b, c, x, Ts, rk, W, R, rfl, hA, G, hB, GW, hx, hC, PR, q⟩ := h
    have hu := hu_of hr
    have t := G.t
    have C1 := c_need_hw (P := P) (w := w) (base := base) T
    have C2 := c_paper_from (P := P) (w := w) (base := base) T
    have C3 := c_is_whole (P := P) (w := w) (base := base) T
    have hz : R.length ≤ sizeLine := small40 (Nat.le_trans (PR.len t) G.le)
    refine ⟨_, pss_cons (ps_expr (pc C1 hr (pa_cons (pv 0) (pa_cons (pv 1) (pa_cons (pv 2) pa_nil)))))
      (pss_cons (ps_if (PW.pt (pw_or (pt_not (pt_val (pIsi "dict" T (pv 3)))) (pw_or1 (pt_not (pt_val (pB (cr_all rfl) T (pa_cons (pe_lk (pe_lc (own := [("weight", 4)]) (g := gName 4) (tt := tYes) rfl sc40.nd (pi_values (pv 3)) (blkOk_by (N := N40) (sc := defScope (top 40)) (by decide +kernel)) (fun _ _ _ _ _ => pg_name (i := 4) sc40.nd rfl (Or.inl rfl)) (fun _ _ _ _ _ => pts_nil)
          (fun _ _ _ _ _ => pc C3 hr (pa_cons (pv 4) pa_nil)))) pa_nil))))))) (pss_one (ps_ret pe_bl)) pss_nil)
      (pss_cons (ps_if (pt_cmpR (op_ne_dictA (Nat.lt_of_succ_lt hu)) (pv 3) (pc C2 hr (pa_cons (pv 0) (pa_cons (pv 1) (pa_cons (pv 2) pa_nil)))) (nomark _)) (pss_one (ps_ret pe_bl)) pss_nil)
      (pss_one (ps_ret (pB (cr_all rfl) T (pa_cons (pe_lk (pe_lc (own := [("weight", 4)]) (g := gName 4) (tt := tYes) rfl sc40.nd (pi_values (pv 3)) (blkOk_by (N := N40) (sc := defScope (top 40)) (by decide +kernel)) (fun _ _ _ _ _ => pg_name (i := 4) sc40.nd rfl (Or.inl rfl)) (fun _ _ _ _ _ => pts_nil)
          (fun _ _ _ _ _ => pe_cmpR op_le (pe_op op_mul pe_int (pv 4)) (pe_sumVals rfl rfl (T.fr "sum" (by decide +kernel)) (pv 1)) (nomark _)))) pa_nil)))))), ?_⟩
    refine ⟨_, rfl, _, rfl, _, rfl, a, b, x, Ts, rk, W, rfl, hA, G, hB, GW, hx, fun H1 s1 => ?_⟩
    refine ⟨_, rfl, _, _, _, _, true, rfl, .ty "dict", .base (.dK (s1 _ _ hC)), kit_ty (by decide +kernel), _, rfl, iteF ?_⟩
    refine lk_vals (fun _ => .bl true) rfl (.inl (s1 _ _ hC)) hz (fun p H2 Kt hp m hk => ⟨rfl, ?_⟩) (fun D H2 s2 n2 e2 => ?_)
    · exact ⟨_, rfl, p.2, rfl, hk _ (Same.refl _)⟩
    refine ⟨D, R.map fun _ => true, rfl, lst_trues e2, _, rfl, ?_⟩
    rw [all_trues]
    refine iteF ?_
    have s12 := s1.trans s2
    refine ⟨_, rfl, _, rfl, _, rfl, _, rfl, a, b, x, Ts, rk, W, rfl, .inl (s12 _ _ hA), G, .inl (s12 _ _ hB), GW, hx, fun H3 p R' s3 np PR' e3 => ?_⟩
    have s123 := s12.trans s3
    obtain ⟨l1, l2⟩ := PR.val PR'
    refine ⟨c, p, _, _, rfl, rfl, s123 _ _ hC, e3, by rw [tab_len, tab_len]; exact l1, l2, _, rfl, iteF ?_⟩
    refine lk_vals (fun p => .bl (decide (2 * p.2 ≤ tot W))) rfl (.inl (s123 _ _ hC)) hz (fun p H4 Kt hp m hk => ⟨rfl, ?_⟩) (fun D4 H4 s4 n4 e4 => ?_)
    · refine ⟨_, rfl, _, _, rfl, rfl, .inl ⟨by decide, by decide⟩, ?_⟩
      exact ⟨_, rfl, b, _, (List.map Prod.snd W), rfl, m.d _ _ (.inl (s123 _ _ hB)), tab_vals V.int W, _, _, rfl, rfl, hk _ (Same.refl _)⟩
    refine ⟨D4, R.map fun p => decide (2 * p.2 ≤ tot W), rfl, SqL.of' (by rw [e4, List.map_map]; rfl), ?_⟩
    refine q _ _ (s123.trans s4) ?_
    rw [List.all_map, List.all_eq_true]
    constructor
    · intro h s hs
      have := h (s, bw Ts rk W x s) ((PR.mem _ _).mpr ⟨hs, rfl⟩)
      exact of_decide_eq_true this
    · rintro h ⟨s, n⟩ hp
      obtain ⟨h1, rfl⟩ := (PR.mem _ _).mp hp
      exact decide_eq_true (h s h1)

def spTurned : Sp := fun vs H Q _ => ∃ (a : Addr) (x : Str) (T : Halls) (rk : Str → Nat), vs = [.ref a, .str x] ∧ H a = some (.dK (tab optV T)) ∧ Good T rk ∧ x ∈ T.map (·.1) ∧
  ∀ H' p, Same H H' → H p = none → H' p = some (.dK (tab optV (turnT T rk x))) → Q (.ref p) H'
abbrev N41 : List Str := ["halls", "hall", "way", "found", "lower", "upper"]
theorem sc41 : FnScope N41 ["halls", "hall"] (defScope (top 41)) := ⟨rfl, rfl, rfl, by decide +kernel, rfl, by decide +kernel, by decide +kernel⟩
theorem cut_tail (l : List Str) : cutV (l.map V.str) (some 1) none = l.tail.map V.str := by
  cases l with
  | nil => rfl
  | cons y l =>
    have e : HT.sIx ((y :: l).map V.str).length 0 (some ((1 : Nat) : Int)) = 1 := by rw [HT.sIx_nat, List.length_map, List.length_cons]; omega
    have e' : HT.sIx ((y :: l).map V.str).length 0 (some 1) = 1 := e
    unfold cutV
    rw [e', HT.sIx_none]
    show List.take ((y :: l).map V.str).length.pred (l.map V.str) = _
    rw [List.take_of_length_le (by simp)]
    rfl
theorem c_turned (T : Tx K mg) : Cal P w K mg base 4 "turned" spTurned := by
  refine cal_of T.d41 sc41 (fun _ _ _ _ _ _ us hl => match us, hl with | [_, _], _ => rfl) (fun vs H Q E h => ?_) (fun f cdv A outer s H vs Q E hr h => ?_)
  · obtain ⟨a, _, _, _, rfl, _⟩ := h; rfl
  · obtain ⟨a, x, Ts, rk, rfl, hA, G, hx, q⟩ := h
    have hu := hu_of hr
    have t := G.t
    have hz : Ts.length ≤ sizeLine := small40 G.le
    have C1 := c_need_halls (P := P) (w := w) (base := base) T
    have C2 := c_need_hall (P := P) (w := w) (base := base) T
    have C3 := c_ways (P := P) (w := w) (base := base) T
    refine ⟨_, pss_cons (ps_expr (pc C1 hr (pa_cons (pv 0) pa_nil))) (pss_cons (ps_expr (pc C2 hr (pa_cons (pv 0) (pa_cons (pv 1) pa_nil))))
      (pss_cons (ps_set (i := 2) sc41.nd rfl (Or.inl rfl) (pc C3 hr (pa_cons (pv 0) (pa_cons (pv 1) pa_nil))))
      (pss_cons (ps_set (i := 3) sc41.nd rfl (Or.inl rfl) (pT call_dictD T (pa_cons (pv 0) pa_nil)))
      (pss_cons (ps_dput hu (pv 3) (pv 1) pe_non rfl)
      (pss_cons (ps_for PassesOwn.never rfl (pi_zip rfl (T.fr "zip" (by decide +kernel)) (pa_cons (pv 2) (pa_cons (pe_slice sl_list (pv 2) (po_some pe_int) po_none) pa_nil))) (pg_tup rfl (pgs_cons (pg_name (i := 4) sc41.nd rfl (.inl rfl)) (pgs_cons (pg_name (i := 5) sc41.nd rfl (.inl rfl)) pgs_nil)))
        (pss_one (ps_dput hu (pv 3) (pv 5) (pv 4) rfl)))
      (pss_one (ps_ret (pv 3)))))))), ?_⟩
    refine ⟨_, rfl, a, Ts, rk, rfl, hA, G, fun H1 s1 => ?_⟩
    refine ⟨_, rfl, _, rfl, a, x, Ts, rfl, .inl (s1 _ _ hA), G.nm x hx, t.nd, hx, fun H2 s2 => ?_⟩
    have s12 := s1.trans s2
    refine ⟨_, rfl, _, rfl, a, x, Ts, rk, rfl, .inl (s12 _ _ hA), t, G.le, hx, fun H3 wp s3 nwp ew => ?_⟩
    have s123 := s12.trans s3
    refine ⟨_, rfl, a, _, rfl, .inl (s123 _ _ hA), fun fo nfo => ?_⟩
    have hxn : x ∈ (Ts.map (·.1)) := hx
    refine ⟨_, rfl, _, rfl, fo, _, rfl, DPut.k (k := Sum.inr x) upd_same (by rw [tab_len]; have := G.le; exact small1000 (by omega)), ?_⟩
    rw [upd_upd, show putK (tab optV Ts) (Sum.inr x) V.non = tab optV (setP Ts x none) from put_old (f := optV) (v := none) hx]
    have efo : (upd H3 fo (.dK (tab optV (setP Ts x none)))) fo = some (.dK (tab optV (setP Ts x none))) := upd_same
    have sfo : Same H3 (upd H3 fo (.dK (tab optV (setP Ts x none)))) := same_upd nfo
    generalize upd H3 fo (.dK (tab optV (setP Ts x none))) = H4 at efo sfo
    refine ⟨_, rfl, _, rfl, 1, rfl, wp, _, rfl, SqL.of' (sfo _ _ ew), fun l nl => ?_⟩
    rw [cut_tail]
    have sl : Same H4 (upd H4 l (.lst ((wy Ts rk x).tail.map V.str))) := same_upd nl
    have el : (upd H4 l (.lst ((wy Ts rk x).tail.map V.str))) l = some (.lst ((wy Ts rk x).tail.map V.str)) := upd_same
    generalize upd H4 l (.lst ((wy Ts rk x).tail.map V.str)) = H5 at sl el
    refine ⟨wp, l, _, _, rfl, SqL.of' (sl _ _ (sfo _ _ ew)), SqL.of' el, ?_⟩
    have zl : (pairsOf (wy Ts rk x)).length = min ((wy Ts rk x).map V.str).length ((wy Ts rk x).tail.map V.str).length := by
      unfold pairsOf; rw [List.length_zip, List.length_map, List.length_map]
    have nl3 : H3 l = none := sfo.free nl
    have nwf : wp ≠ fo := ne_of_none ew nfo
    have nlf : l ≠ fo := fun e => by rw [e, efo] at nl; cases nl
    refine for_it (walk_zip zl) (fun i σ Hk => ∃ v4 v5, σ = [some (.ref a), some (.str x), some (.ref wp), some (.ref fo), v4, v5] ∧ Same H3 Hk ∧ Hk l = some (.lst ((wy Ts rk x).tail.map V.str)) ∧ Hk fo = some (.dK (tab optV (turnF (setP Ts x none) ((pairsOf (wy Ts rk x)).take i)))))
      ⟨_, _, rfl, sfo.trans sl, el, sl _ _ efo⟩ (fun i σ Hk _ ⟨_, _, _, h1, h2, _⟩ => ⟨SqL.of' (h1 _ _ ew), SqL.of' h2⟩) ?_ ?_
    · rintro i z σ Hk H' hi ⟨v4, v5, rfl, k1, k2, k3⟩ hy
      obtain ⟨tp, y, u, rfl, nt, rfl, g1, g2⟩ := hy
      have hp : (pairsOf (wy Ts rk x))[i]? = some (pairsOf (wy Ts rk x))[i] := List.getElem?_eq_getElem hi
      generalize (pairsOf (wy Ts rk x))[i] = pr at hp
      obtain ⟨lo, up⟩ := pr
      have hp' := hp
      unfold pairsOf at hp'
      rw [List.getElem?_zip_eq_some] at hp'
      simp only [List.getElem?_map, hp'.1] at g1
      simp only [List.getElem?_map, hp'.2] at g2
      cases (show V.str lo = y from Option.some.inj g1)
      cases (show V.str up = u from Option.some.inj g2)
      have nm : up ∈ (turnF (setP Ts x none) ((pairsOf (wy Ts rk x)).take i)).map (·.1) := by
        rw [turnF_names, setP_names]
        exact (t.par_up ((t.way_pairs.mp (List.mem_of_getElem? hp)).2)).1
      have k3' : (upd Hk tp (.tup [V.str lo, V.str up])) fo = some (.dK (tab optV (turnF (setP Ts x none) ((pairsOf (wy Ts rk x)).take i)))) := by rw [upd_ne (ne_of_none k3 nt)]; exact k3
      refine ⟨tp, _, rfl, SqT.of' upd_same, rfl, _, _, rfl, _, _, rfl, rfl, ?_⟩
      refine ⟨_, rfl, _, rfl, _, rfl, fo, _, rfl, DPut.k (k := Sum.inr up) k3' ?_, ?_⟩
      · rw [tab_len]
        have : (turnF (setP Ts x none) ((pairsOf (wy Ts rk x)).take i)).length = Ts.length := by
          have := congrArg List.length (turnF_names ((pairsOf (wy Ts rk x)).take i) (setP Ts x none))
          rw [List.length_map, setP_names, List.length_map] at this
          exact this
        have := G.le
        exact small1000 (by omega)
      rw [show putK (tab optV (turnF (setP Ts x none) ((pairsOf (wy Ts rk x)).take i))) (Sum.inr up) (V.str lo) = tab optV (setP _ up (some lo)) from put_old (f := optV) (v := some lo) nm]
      refine ⟨_, _, rfl, ?_, ?_, ?_⟩
      · exact same_upd' (same_upd' k1 (k1.free nt)) nfo
      · rw [upd_ne nlf, upd_ne (ne_of_none k2 nt)]; exact k2
      · rw [upd_same, List.take_add_one, hp]
        show _ = some (HO.dK (tab optV (turnF (setP Ts x none) ((pairsOf (wy Ts rk x)).take i ++ [(lo, up)]))))
        rw [turnF_snoc]
    · rintro σ Hk ⟨v4, v5, rfl, k1, k2, k3⟩
      rw [List.take_of_length_le (Nat.le_refl _)] at k3
      exact ⟨_, rfl, q _ fo (s123.trans k1) (s123.free nfo) k3⟩
end
end K66
set_option maxHeartbeats 4000000
/-! Wants of nobody. -/
namespace K66
open PySem PySem.Spec PyProof.Rows L2 PpSet
def wf (t : Addr) : List (Str × V) := putF "all_but" (.bl false) (putF "names" (.ref t) [])
theorem an_ : ¬ (("all_but" : Str) = "names") := by decide +kernel
theorem na_ : ¬ (("names" : Str) = "all_but") := by decide +kernel
theorem wf_names (t : Addr) : (wf t).lookup ("names" : Str) = some (.ref t) := by
  unfold wf
  rw [lookup_putF, if_neg na_, lookup_putF, if_pos rfl]
theorem wf_all (t : Addr) : (wf t).lookup ("all_but" : Str) = some (.bl false) := by
  unfold wf
  rw [lookup_putF, if_pos rfl]
theorem wf_no (t : Addr) {m : Str} (h1 : ¬ m = "all_but") (h2 : ¬ m = "names") : (wf t).lookup m = none := by
  unfold wf
  rw [lookup_putF, if_neg h1, lookup_putF, if_neg h2]
  all_goals rfl
/-- p is a want of nobody -/
def WantAt (K : PySem.W.Frag) (C : Addr) (H : Hp) (p : Addr) : Prop := ∃ dx t, H p = some (.ins C dx (wf t)) ∧ SqT K H t []
theorem WantAt.keep {K : PySem.W.Frag} {C : Addr} {H H' : Hp} {p : Addr} (h : WantAt K C H p) (k : ∀ b o, NoD o → H b = some o → H' b = some o) : WantAt K C H' p := by
  obtain ⟨dx, t, h1, h2⟩ := h
  refine ⟨dx, t, k _ _ True.intro h1, ?_⟩
  rcases h2 with (h | ⟨o, h⟩) | h
  · exact .inl (.inl (k _ _ True.intro h))
  · exact .inl (.inr ⟨o, k _ _ True.intro h⟩)
  · exact .inr h
theorem WantAt.same {K : PySem.W.Frag} {C : Addr} {H H' : Hp} {p : Addr} (s : Same H H') (h : WantAt K C H p) : WantAt K C H' p := h.keep fun b o _ e => s b o e
section
variable {P : Program} {w : World} {K : PySem.W.Frag} {mg : Str → Option Value} {base : Heap}
/-- nothing is unlike itself -/
def spUnlike (K : PySem.W.Frag) : Sp := fun vs H Q _ => ∃ a : Addr, vs = [.ref a] ∧ SqT K H a [] ∧ ∀ H', Same H H' → Q (.bl true) H'
abbrev N12 : List Str := ["thing", "name"]
theorem sc12 : FnScope N12 ["thing"] (defScope (top 12)) := ⟨rfl, rfl, rfl, by decide +kernel, rfl, by decide +kernel, by decide +kernel⟩
theorem c_unlike (T : Tx K mg) : Cal P w K mg base 2 "are_unlike_names" (spUnlike K) := by
  refine cal_of T.d12 sc12 (fun _ _ _ _ _ _ us hl => match us, hl with | [_], _ => rfl) (fun vs H Q E h => ?_) (fun f cdv A outer s H vs Q E hr h => ?_)
  · obtain ⟨a, rfl, _⟩ := h; rfl
  · obtain ⟨a, rfl, hA, q⟩ := h
    have C := c_is_name (P := P) (w := w) (base := base) T
    refine ⟨_, pss_cons (ps_if (PW.pt (pw_or (pt_not (pt_val (pe_isiTL (pv 0) rfl (T.fr "isinstance" (by decide +kernel)) (pa_cons (pe_bltn (v := .ty "tuple") rfl (T.fr "tuple" (by decide +kernel)) (by decide +kernel) rfl (by decide) (by decide)) (pa_cons (pe_bltn (v := .ty "list") rfl (T.fr "list" (by decide +kernel)) (by decide +kernel) rfl (by decide) (by decide)) pa_nil)))))
        (pw_or1 (pt_not (pt_val (pB (cr_all rfl) T (pa_cons (pe_lc (own := [("name", 1)]) (g := gName 1) (tt := tYes) rfl sc12.nd (pi_tup (pv 0)) (blkOk_by (N := N12) (sc := defScope (top 12)) (by decide +kernel)) (fun _ _ _ _ _ => pg_name (i := 1) sc12.nd rfl (Or.inl rfl)) (fun _ _ _ _ _ => pts_nil)
          (fun _ _ _ _ _ => pc C hr (pa_cons (pv 1) pa_nil))) pa_nil))))))) (pss_one (ps_ret pe_bl)) pss_nil)
      (pss_one (ps_ret (pe_cmpR op_eq (pB call_lenSB T (pa_cons (pe_sc (own := [("name", 1)]) (g := gName 1) (tt := tYes) rfl sc12.nd (pi_tup (pv 0)) (blkOk_by (N := N12) (sc := defScope (top 12)) (by decide +kernel)) (fun _ _ _ _ _ => pg_name (i := 1) sc12.nd rfl (Or.inl rfl)) (fun _ _ _ _ _ => pts_nil) (fun _ _ _ _ _ => pe_never)) pa_nil))
        (pB call_len_seq T (pa_cons (pv 0) pa_nil)) (nomark _)))), ?_⟩
    refine ⟨_, rfl, ⟨a, _, rfl, hA⟩, fun t nt => ⟨_, rfl, iteF ?_⟩⟩
    have s1 : Same H (upd H t (.tup [.ty "tuple", .ty "list"])) := same_upd nt
    generalize upd H t (.tup [.ty "tuple", .ty "list"]) = H1 at s1
    refine ⟨_, rfl, a, rfl, ⟨_, s1.sqt hA⟩, fun D nD => ?_⟩
    refine lc_map (walk_tup (xs := [])) ([] : List Str) (fun _ => .bl true) rfl (by decide) nD (fun H2 s2 => s2.sqt (s1.sqt hA)) (fun i x y H2 H3 Kt hp s2 hy hk => by simp at hp) (fun H2 s2 e2 => ?_)
    refine ⟨D, [], rfl, SqL.of' e2, _, rfl, iteF ?_⟩
    have s12 := s1.trans s2
    refine ⟨_, rfl, a, rfl, ⟨_, s12.sqt hA⟩, fun D2 nD2 => ?_⟩
    refine sc_tup (te := fun _ _ _ => False) (xs := []) (fun _ H3 => Same H2 H3 ∧ H3 D2 = some (SetBO w D2 (fun _ => false) 0)) ⟨same_upd nD2, upd_same⟩ (fun i H3 _ p => (s12.trans p.1).sqt hA) (fun i x H3 hx _ => by simp at hx) (fun H3 p => ?_)
    obtain ⟨p1, p2⟩ := p
    refine ⟨D2, _, 0, rfl, p2, _, rfl, a, [], rfl, .inr ((s12.trans p1).sqt hA), rfl, ?_⟩
    exact q _ (s12.trans p1)

def spSet (K : PySem.W.Frag) (C : Addr) : Sp := fun vs H Q _ => ∃ (p a dx : Addr), vs = [.ref p, .ref a, .bl false] ∧ H p = some (.ins C dx []) ∧ SqT K H a [] ∧ ∀ H', (∀ b o, b ≠ p → H b = some o → H' b = some o) → WantAt K C H' p → Q .non H'
abbrev mInit : Stmt := inClass (top 13) 0
abbrev mSet : Stmt := inClass (top 13) 1
abbrev mHas : Stmt := inClass (top 13) 2
theorem scSet : FnScope ["self", "names", "all_but"] ["self", "names", "all_but"] (defScope mSet) := ⟨rfl, rfl, rfl, by decide +kernel, rfl, by decide +kernel, by decide +kernel⟩
theorem ok_set {C f : Addr} {fd : FuncData} (T : Tx K mg) (W : WantTx K mg C) (F : FunD K "set_names" "Want.set_names" (defArgs mSet) (defBody mSet) (defScope mSet) [] [] f fd) : FnOk P w K mg base CX0 1 f fd ["self", "names", "all_but"] (spSet K C) := by
  refine F.ok scSet (fun vs H Q E h => ?_) (fun cdv A outer s H vs Q E hr h => ?_)
  · obtain ⟨p, a, dx, rfl, _⟩ := h; rfl
  · obtain ⟨p, a, dx, rfl, hp, hA, q⟩ := h
    refine ⟨_, pss_cons (ps_fld (pv 0) (pT call_tuple_of T (pa_cons (pB cr_sortedTS T (pa_cons (pv 1) pa_nil)) pa_nil)) rfl) (pss_one (ps_fld (pv 0) (pv 2) rfl)), ?_⟩
    refine ⟨_, rfl, a, [], rfl, hA, by decide, fun ys l hl srt nl => ?_⟩
    have : ys = [] := hl.eq_nil
    subst this
    refine ⟨l, [], rfl, .inl ⟨SqL.of' upd_same, fun t nt => ?_⟩⟩
    have npl : p ≠ l := ne_of_none hp nl
    have nt' := free_upd nt
    have npt : p ≠ t := ne_of_none hp nt'
    refine ⟨_, rfl, p, C, dx, [], rfl, by rw [upd_ne npt, upd_ne npl]; exact hp, W.cl, W.nN, by show 0 < 1000; decide, ?_⟩
    refine ⟨_, rfl, _, rfl, p, C, dx, _, rfl, upd_same, W.cl, W.nA, by show 1 < 1000; decide, ?_⟩
    refine q _ (fun b o nb e => ?_) ⟨dx, t, upd_same, .inl (.inl ?_)⟩
    · rw [upd_ne nb, upd_ne nb, upd_ne (ne_of_none e nt'), upd_ne (ne_of_none e nl)]; exact e
    · rw [upd_ne npt.symm, upd_ne npt.symm]; exact upd_same

def spHas (K : PySem.W.Frag) (C : Addr) : Sp := fun vs H Q _ => ∃ (p : Addr) (x : Str), vs = [.ref p, .str x] ∧ WantAt K C H p ∧ Q (.bl false) H
theorem scHas : FnScope ["self", "sender"] ["self", "sender"] (defScope mHas) := ⟨rfl, rfl, rfl, by decide +kernel, rfl, by decide +kernel, by decide +kernel⟩
theorem ok_has {C f : Addr} {fd : FuncData} (T : Tx K mg) (W : WantTx K mg C) (F : FunD K "has" "Want.has" (defArgs mHas) (defBody mHas) (defScope mHas) [] [] f fd) : FnOk P w K mg base CX0 1 f fd ["self", "sender"] (spHas K C) := by
  refine F.ok scHas (fun vs H Q E h => ?_) (fun cdv A outer s H vs Q E hr h => ?_)
  · obtain ⟨p, x, rfl, _⟩ := h; rfl
  · obtain ⟨p, x, rfl, ⟨dx, t, h1, h2⟩, q⟩ := h
    refine ⟨_, pss_one (ps_ret (pe_cmpR op_ne (pe_cmpR op_in_seq (pv 1) (pe_fld (pv 0) rfl) rfl) (pe_fld (pv 0) rfl) (nomark _))), ?_⟩
    exact ⟨_, rfl, _, rfl, p, C, dx, _, _, rfl, h1, W.cl, W.nN, wf_names t, t, [], rfl, .inr h2, rfl, rfl, _, rfl, p, C, dx, _, _, rfl, h1, W.cl, W.nA, wf_all t, rfl, q⟩

def spInit (K : PySem.W.Frag) (C a : Addr) : Sp := fun vs H Q _ => ∃ (p dx : Addr), vs = [.ref p, .ref a, .bl false] ∧ H p = some (.ins C dx []) ∧ SqT K H a [] ∧ ∀ H', (∀ b o, b ≠ p → H b = some o → H' b = some o) → WantAt K C H' p → Q .non H'
theorem scInit : FnScope ["self", "names", "all_but"] ["self", "names", "all_but"] (defScope mInit) := ⟨rfl, rfl, rfl, by decide +kernel, rfl, by decide +kernel, by decide +kernel⟩
theorem ok_init {C a f : Addr} {fd : FuncData} (T : Tx K mg) (W : WantTx K mg C) (F : FunD K "__init__" "Want.__init__" (defArgs mInit) (defBody mInit) (defScope mInit) [.ref a] [("all_but", .bl false)] f fd) : FnOk P w K mg base CX0 3 f fd ["self", "names", "all_but"] (spInit K C a) := by
  refine F.ok scInit (fun vs H Q E h => ?_) (fun cdv A outer s H vs Q E hr h => ?_)
  · obtain ⟨p, dx, rfl, _⟩ := h; rfl
  · obtain ⟨p, dx, rfl, hp, hA, q⟩ := h
    obtain ⟨t60, m60⟩ := T.mostN
    have C1 := c_unlike (P := P) (w := w) (base := base) T
    obtain ⟨fs, fds, ms, Fs⟩ := W.setn
    have G := ok_set (P := P) (w := w) (base := base) T W Fs
    have b := Fs.bindsN (ps := ["self", "names", "all_but"]) fun _ _ _ _ _ _ us hl => match us, hl with | [_, _, _], _ => rfl
    refine ⟨_, pss_cons (ps_if (PW.pt (pw_or (pt_not (pt_val (pc C1 hr (pa_cons (pv 1) pa_nil)))) (pw_or (pt_cmpR op_gt (pB call_len_seq T (pa_cons (pv 1) pa_nil)) (pe_glob (v := .int 60) rfl m60 ⟨_, rfl⟩) (nomark _)) (pw_or1 (pt_not (pt_val (pIsi "bool" T (pv 2)))))))) pss_never pss_nil)
      (pss_one (ps_expr (pe_meth (pv 0) W.cl ms G (hr.mono (by decide)) b .nil pass0 (pa_cons (pv 1) (pa_cons (pv 2) pa_nil))))), ?_⟩
    refine ⟨_, rfl, a, rfl, hA, fun H1 s1 => ⟨_, rfl, iteF ?_⟩⟩
    refine ⟨_, rfl, a, [], rfl, .inr (s1.sqt hA), _, _, rfl, rfl, _, rfl, iteF ?_⟩
    refine ⟨_, rfl, _, _, _, _, true, rfl, .ty "bool", .base (.bl false), kit_ty (by decide +kernel), _, rfl, iteF ?_⟩
    refine ⟨_, rfl, p, dx, [], rfl, s1 _ _ hp, rfl, _, rfl, _, rfl, p, a, dx, rfl, s1 _ _ hp, s1.sqt hA, fun H2 k wa => q _ (fun bb o nb e => k bb o nb (s1 _ _ e)) wa⟩

def spNobody (K : PySem.W.Frag) (C : Addr) : Sp := fun vs H Q _ => vs = [] ∧ ∀ H' p, Same H H' → H p = none → WantAt K C H' p → Q (.ref p) H'
theorem sc15 : FnScope [] [] (defScope (top 15)) := ⟨rfl, rfl, rfl, by decide +kernel, rfl, by decide +kernel, by decide +kernel⟩
theorem c_nobody {C : Addr} (T : Tx K mg) (W : WantTx K mg C) : Cal P w K mg base 5 "nobody" (spNobody K C) := by
  refine cal_of T.d15 sc15 (fun _ _ _ _ _ _ us hl => match us, hl with | [], _ => rfl) (fun vs H Q E h => ?_) (fun f cdv A outer s H vs Q E hr h => ?_)
  · obtain ⟨rfl, _⟩ := h; rfl
  · obtain ⟨rfl, q⟩ := h
    obtain ⟨fi, fdi, a, M, Fi, hA⟩ := W.ini
    have G := ok_init (P := P) (w := w) (base := base) T W Fi
    obtain ⟨ds, hv, b⟩ := Fi.binds (ps := ["self", "names", "all_but"]) 1 0 (by simp) rfl (fun T D doc pm an cdv ct us its ks l1 l2 l3 => match us, its, ks, l1, l2, l3 with
      | [_], [_], [_], _, _, _ => ⟨_, rfl, _, _, _, _, _, _, rfl, rfl, rfl⟩) (by simp)
    refine ⟨_, pss_one (ps_ret (pe_make0 M G hr rfl W.mgC b hv pass0)), ?_⟩
    intro x dx nx ndx nex
    refine ⟨x, dx, rfl, upd_same, hA _, fun H1 k wa => ⟨rfl, q _ x (fun b o e => ?_) nx wa⟩⟩
    exact k b o (ne_of_none e nx) (by rw [upd_ne (ne_of_none e nx), upd_ne (ne_of_none e ndx)]; exact e)
end
end K66
set_option maxHeartbeats 4000000
/-! Steps of news. -/
namespace K66
open PySem PySem.Spec PyProof.Rows L2 PpSet
section
variable {P : Program} {w : World} {K : PySem.W.Frag} {mg : Str → Option Value} {base : Heap}
def spNeedW : Sp := fun vs H Q _ => ∃ (a b : Addr), vs = [.ref a, .ref b] ∧ H b = some (.dK []) ∧ ∀ H', Same H H' → Q .non H'
abbrev N43 : List Str := ["halls", "thing", "hall", "want"]
theorem sc43 : FnScope N43 ["halls", "thing"] (defScope (top 43)) := ⟨rfl, rfl, rfl, by decide +kernel, rfl, by decide +kernel, by decide +kernel⟩
theorem c_need_wanted (T : Tx K mg) : Cal P w K mg base 1 "need_wanted" spNeedW := by
  refine cal_of T.d43 sc43 (fun _ _ _ _ _ _ us hl => match us, hl with | [_, _], _ => rfl) (fun vs H Q E h => ?_) (fun f cdv A outer s H vs Q E hr h => ?_)
  · obtain ⟨a, b, rfl, _⟩ := h; rfl
  · obtain ⟨a, b, rfl, hB, q⟩ := h
    refine ⟨_, pss_cons (ps_if (pt_not (pt_val (pIsi "dict" T (pv 1)))) pss_never pss_nil)
      (pss_one (ps_lk (ps_for PassesOwn.never rfl (pi_items (pv 1)) (pg_tup rfl (pgs_cons (pg_name (i := 2) sc43.nd rfl (.inl rfl)) (pgs_cons (pg_name (i := 3) sc43.nd rfl (.inl rfl)) pgs_nil))) pss_never))), ?_⟩
    refine ⟨_, rfl, _, _, _, _, true, rfl, .ty "dict", .base (.dK hB), kit_ty (by decide +kernel), _, rfl, iteF ?_⟩
    refine lkS_of b _ (Lk.of_rd (.inl hB)) fun od H0 h0 he => ?_
    refine ⟨_, rfl, b, od, _, rfl, h0, ?_⟩
    refine for_it (walk_items (kvs := [])) (fun _ σ Hk => Hk = H0) rfl (fun i σ Hk _ e => by rw [e]; exact h0) (fun i x σ Hk H' hi _ _ => by simp at hi) (fun σ Hk e => ?_)
    subst e
    refine ⟨h0, q _ fun c o e => ?_⟩
    exact same_res he (Same.refl _) c o e

def DoorsAt (K : PySem.W.Frag) (C : Addr) (H : Hp) (p : Addr) (T : Halls) : Prop := ∃ L : List (Str × Addr), L.map (·.1) = T.map (·.1) ∧ Rd H p (.dK (tab V.ref L)) ∧ ∀ q ∈ L, WantAt K C H q.2
def spDoors (K : PySem.W.Frag) (C : Addr) : Sp := fun vs H Q _ => ∃ (a b : Addr) (T : Halls), vs = [.ref a, .ref b] ∧ AtH H a T ∧ (T.map (·.1)).Nodup ∧ T.length ≤ 40 ∧ H b = some (.dK []) ∧ ∀ H' p, Same H H' → H p = none → DoorsAt K C H' p T → Q (.ref p) H'
abbrev N44 : List Str := ["halls", "wanted", "found", "hall", "want", "upper"]
theorem sc44 : FnScope N44 ["halls", "wanted"] (defScope (top 44)) := ⟨rfl, rfl, rfl, by decide +kernel, rfl, by decide +kernel, by decide +kernel⟩
theorem c_doors {C : Addr} (T : Tx K mg) (W : WantTx K mg C) : Cal P w K mg base 6 "doors_of" (spDoors K C) := by
  refine cal_of T.d44 sc44 (fun _ _ _ _ _ _ us hl => match us, hl with | [_, _], _ => rfl) (fun vs H Q E h => ?_) (fun f cdv A outer s H vs Q E hr h => ?_)
  · obtain ⟨a, b, _, rfl, _⟩ := h; rfl
  · obtain ⟨a, b, Ts, rfl, hA, nd, hle, hB, q⟩ := h
    have C1 := c_nobody (P := P) (w := w) (base := base) T W
    refine ⟨_, pss_cons (ps_lk (ps_setDc (i := 2) (own := [("hall", 3)]) (g := gName 3) (tt := tYes) rfl sc44.nd rfl rfl (swd_true rfl rfl rfl (by decide +kernel)) (pi_keys (pv 0)) (blkOk_by (N := N44) (sc := defScope (top 44)) (by decide +kernel)) (fun _ _ _ _ _ => pg_name (i := 3) sc44.nd rfl (Or.inl rfl)) (fun _ _ _ _ _ => pts_nil)
        (fun _ _ _ _ _ => pv 3) (fun _ _ _ _ _ => pc0 C1 hr)))
      (pss_cons (ps_lk (ps_for PassesOwn.never rfl (pi_items (pv 1)) (pg_tup rfl (pgs_cons (pg_name (i := 3) sc44.nd rfl (.inl rfl)) (pgs_cons (pg_name (i := 4) sc44.nd rfl (.inl rfl)) pgs_nil))) pss_never))
      (pss_one (ps_ret (pv 2)))), ?_⟩
    refine lkS_asg ?_
    refine lk_dictN (WantAt K C) (fun H H' p h k => h.keep k) (fun H p h => ?_) nd rfl hA (small40 hle) (fun p H1 Kt hp m hk => ⟨rfl, _, rfl, rfl, fun H2 p2 s2 n2 wa => hk p2 H2 s2 n2 wa⟩) (fun D H1 L s1 nD e1 e2 nd2 fr => ?_)
    · obtain ⟨dx, t, h, _⟩ := h
      exact ⟨_, h, fun _ z => nomatch z⟩
    refine lkS_of b _ (Lk.of_rd (.inl (s1 _ _ hB))) fun od H0 h0 he => ?_
    refine ⟨_, rfl, b, od, _, rfl, h0, ?_⟩
    refine for_it (walk_items (kvs := [])) (fun _ σ Hk => Hk = H0 ∧ σ = (L2.start N44 [.ref a, .ref b]).set 2 (some (.ref D))) ⟨rfl, rfl⟩ (fun i σ Hk _ e => by rw [e.1]; exact h0) (fun i x σ Hk H' hi _ _ => by simp at hi) (fun σ Hk e => ?_)
    obtain ⟨e0, rfl⟩ := e
    have sr : Same H1 (res H1 b Hk) := by rw [e0]; exact same_res he (Same.refl _)
    have h0 : Hk b = some (.frz od (.dK [])) := by rw [e0]; exact h0
    refine ⟨h0, _, rfl, q _ D (s1.trans sr) nD ⟨L, e1, .inl (sr _ _ e2), fun r hr => WantAt.same sr (fr r hr).1⟩⟩

def spBegin : Sp := fun vs H Q _ => ∃ (a b : Addr) (x : Str) (T : Halls) (rk : Str → Nat), vs = [.ref a, .ref b, .str x] ∧ H a = some (.dK (tab optV T)) ∧ Good T rk ∧ H b = some (.dK []) ∧ x ∈ T.map (·.1) ∧ ∀ H', Same H H' → Q (.str x) H'
abbrev N45 : List Str := ["halls", "wanted", "start", "begin"]
theorem sc45 : FnScope N45 ["halls", "wanted", "start"] (defScope (top 45)) := ⟨rfl, rfl, rfl, by decide +kernel, rfl, by decide +kernel, by decide +kernel⟩
theorem c_begin (T : Tx K mg) : Cal P w K mg base 4 "begin_of" spBegin := by
  refine cal_of T.d45 sc45 (fun _ _ _ _ _ _ us hl => match us, hl with | [_, _, _], _ => rfl) (fun vs H Q E h => ?_) (fun f cdv A outer s H vs Q E hr h => ?_)
  · obtain ⟨a, b, _, _, _, rfl, _⟩ := h; rfl
  · obtain ⟨a, b, x, Ts, rk, rfl, hA, G, hB, hx, q⟩ := h
    have C1 := c_need_halls (P := P) (w := w) (base := base) T
    have C2 := c_need_hall (P := P) (w := w) (base := base) T
    have C3 := c_need_wanted (P := P) (w := w) (base := base) T
    refine ⟨_, pss_cons (ps_expr (pc C1 hr (pa_cons (pv 0) pa_nil))) (pss_cons (ps_set (i := 3) sc45.nd rfl (Or.inl rfl) (pe_ifExp (pt_cmp (pc_isN (pv 2))) pe_never (pv 2)))
      (pss_cons (ps_expr (pc C2 hr (pa_cons (pv 0) (pa_cons (pv 3) pa_nil)))) (pss_cons (ps_expr (pc C3 hr (pa_cons (pv 0) (pa_cons (pv 1) pa_nil)))) (pss_one (ps_ret (pv 3)))))), ?_⟩
    refine ⟨_, rfl, a, Ts, rk, rfl, hA, G, fun H1 s1 => ?_⟩
    refine ⟨_, rfl, _, rfl, iteF ⟨_, rfl, ?_⟩⟩
    refine ⟨_, rfl, _, rfl, a, x, Ts, rfl, .inl (s1 _ _ hA), G.nm x hx, G.t.nd, hx, fun H2 s2 => ?_⟩
    refine ⟨_, rfl, _, rfl, a, b, rfl, s2 _ _ (s1 _ _ hB), fun H3 s3 => ?_⟩
    exact ⟨_, rfl, q _ ((s1.trans s2).trans s3)⟩
end
end K66
set_option maxHeartbeats 4000000
/-! Steps of news: how many. -/
namespace K66
open PySem PySem.Spec PyProof.Rows L2 PpSet
section
variable {β : Type} {f : β → V} {l : List (Str × β)} {d : Addr} {i j k : Nat} {te tk tv : TE} {tt : TT} {vs : List Nat} {σ : L2.St} {H : Hp} {Q : VK} {K : PySem.W.Frag}
/-- [(..) for x in d] -/
theorem lk_keysT (F : Str × β → List V) (hσ : σ[i]? = some (some (.ref d))) (hR : Rd H d (.dK (tab f l))) (hz : l.length ≤ sizeLine)
    (hs : ∀ (p : Str × β) (H1 : Hp) (Kt : VK), p ∈ l → RdM H H1 → (∀ q H4, Same H1 H4 → H4 q = none → Kt (.ref q) (upd H4 q (.tup (F p)))) → wipe ((wipe σ vs).set j (some (.str p.1))) vs = wipe σ vs ∧ te ((wipe σ vs).set j (some (.str p.1))) H1 Kt)
    (hd : ∀ D H' (as : List Addr), Same H H' → H D = none → H' D = some (.lst (as.map V.ref)) → Paired (fun q p => H' q = some (.tup (F p)) ∧ H q = none) as l → Q (.ref D) H') : tLkE (tLc (iKeys (tVar i)) (gName j) tYes te vs) σ H Q := by
  refine lkE_of d _ (Lk.of_rd hR) fun od H0 h0 he => ?_
  refine ⟨_, hσ, d, od, rfl, .inl ⟨_, h0, fun D hD => ?_⟩⟩
  refine lc_tup' walk_keys l F (tab_len f l) (by rw [tab_len]; exact hz) hD (fun H1 s => s _ _ h0) (fun m p x H1 H2 Kt hp s1 hy hk => ?_) (fun H1 as s1 e pr => ?_)
  · obtain ⟨rfl, ky, v, hv, rfl⟩ := hy
    rw [tab_at, hp] at hv
    cases (show (Sum.inr p.1, f p.2) = (ky, v) from Option.some.inj hv)
    exact hs p H2 Kt (List.mem_of_getElem? hp) ((lk_rdm hR h0 he).trans s1.rdm) hk
  · exact ⟨s1 _ _ h0, hd D _ as (same_res he s1) (lk_free h0 he hD) ((res_new h0 hD).trans e) (L2.Paired.mapP pr fun q p h => ⟨(res_new h0 h.2).trans h.1, lk_free h0 he h.2⟩)⟩
end
theorem paired_is {H : Hp} {g : Str → Int} {N : Addr → Prop} {β : Type} : ∀ {as : List Addr} {l : List (Str × β)}, Paired (fun q p => H q = some (.tup [.int (g p.1), .str p.1]) ∧ N q) as l →
    ∃ ps : List ((Int × Str) × Addr), (ps.map fun p => V.ref p.2) = as.map V.ref ∧ (∀ p ∈ ps, H p.2 = some (.tup [.int p.1.1, .str p.1.2]) ∧ p.1.2 ∈ l.map (·.1)) ∧ ps.length = l.length
  | _, _, .nil => ⟨[], rfl, (fun _ h => by cases h), rfl⟩
  | q :: as, p :: l, .cons h t => by
    obtain ⟨ps, e1, e2, e3⟩ := paired_is t
    refine ⟨((g p.1, p.1), q) :: ps, by rw [List.map_cons, List.map_cons, e1], fun r hr => ?_, by rw [List.length_cons, List.length_cons, e3]⟩
    rcases List.mem_cons.mp hr with rfl | hr
    · exact ⟨h.1, List.mem_cons_self ..⟩
    · exact ⟨(e2 r hr).1, List.mem_cons_of_mem _ (e2 r hr).2⟩
theorem kept_true : ∀ l : List Str, tab id (kept id (fun _ => some (V.bl true)) l) = tab (fun _ : Unit => V.bl true) (l.map fun y => (y, ()))
  | [] => rfl
  | p :: l => by
    have ih := kept_true l
    unfold kept tab at ih ⊢
    simp only [List.filterMap_cons, Option.map_some, List.map_cons] at ih ⊢
    rw [ih]; rfl
theorem pairs_len (l : List Str) (h : 0 < l.length) : (pairsOf l).length + 1 = l.length := by
  unfold pairsOf; rw [List.length_zip, List.length_tail]; omega
section
variable {P : Program} {w : World} {K : PySem.W.Frag} {mg : Str → Option Value} {base : Heap}
def spStepsF : Sp := fun vs H Q _ => ∃ (a b : Addr) (z x : Str) (T : Halls) (rk : Str → Nat), vs = [.ref a, .ref b, .str z, .str x] ∧ AtH H a T ∧ Good T rk ∧ H b = some (.dK []) ∧ x ∈ T.map (·.1) ∧
  ∀ H' p (xs : List V), Same H H' → H p = none → H' p = some (.lst xs) → xs.length + 1 = (wy T rk x).length → Q (.ref p) H'
abbrev N46 : List Str := ["halls", "wanted", "sender", "start", "doors", "up", "found", "come", "deep", "hall", "lower", "upper"]
theorem sc46 : FnScope N46 ["halls", "wanted", "sender", "start"] (defScope (top 46)) := ⟨rfl, rfl, rfl, by decide +kernel, rfl, by decide +kernel, by decide +kernel⟩
theorem c_steps_from (T : Tx K mg) : Cal P w K mg base 7 "steps_from_hall" spStepsF := by
  refine cal_of T.d46 sc46 (fun _ _ _ _ _ _ us hl => match us, hl with | [_, _, _, _], _ => rfl) (fun vs H Q E h => ?_) (fun f cdv A outer s H vs Q E hr h => ?_)
  · obtain ⟨a, b, _, _, _, _, rfl, _⟩ := h; rfl
  · obtain ⟨a, b, z, x, Ts, rk, rfl, hA, G, hB, hx, q⟩ := h
    have hu := hu_of hr
    have t := G.t
    obtain ⟨C, W⟩ := T.want
    have C1 := c_doors (P := P) (w := w) (base := base) T W
    have C2 := c_ways (P := P) (w := w) (base := base) T
    obtain ⟨fh, fdh, mh, Fh⟩ := W.has
    have Gh := ok_has (P := P) (w := w) (base := base) T W Fh
    have bh := Fh.bindsN (ps := ["self", "sender"]) fun _ _ _ _ _ _ us hl => match us, hl with | [_, _], _ => rfl
    refine ⟨_, pss_cons (ps_set (i := 4) sc46.nd rfl (Or.inl rfl) (pc C1 hr (pa_cons (pv 0) (pa_cons (pv 1) pa_nil))))
      (pss_cons (ps_set (i := 5) sc46.nd rfl (Or.inl rfl) (pc C2 hr (pa_cons (pv 0) (pa_cons (pv 3) pa_nil))))
      (pss_cons (ps_setLc (i := 6) (own := [("lower", 10), ("upper", 11)]) (g := gTup K 2 (gCons (gName 10) (gCons (gName 11) gNil))) (tt := tYes) rfl sc46.nd rfl rfl (sw_true rfl rfl rfl (by decide +kernel)) (pi_zip rfl (T.fr "zip" (by decide +kernel)) (pa_cons (pv 5) (pa_cons (pe_slice sl_list (pv 5) (po_some pe_int) po_none) pa_nil))) (blkOk_by (N := N46) (sc := defScope (top 46)) (by decide +kernel))
          (fun _ _ _ _ _ => pg_tup rfl (pgs_cons (pg_name (i := 10) sc46.nd rfl (.inl rfl)) (pgs_cons (pg_name (i := 11) sc46.nd rfl (.inl rfl)) pgs_nil))) (fun _ _ _ _ _ => pts_nil) (fun _ _ _ _ _ => pe_tup (pa_cons (pv 10) (pa_cons (pv 11) pa_nil))))
      (pss_cons (ps_setDc (i := 7) (own := [("hall", 9)]) (g := gName 9) (tt := tYes) rfl sc46.nd rfl rfl (swd_true rfl rfl rfl (by decide +kernel)) (pi_list (pv 5)) (blkOk_by (N := N46) (sc := defScope (top 46)) (by decide +kernel)) (fun _ _ _ _ _ => pg_name (i := 9) sc46.nd rfl (Or.inl rfl)) (fun _ _ _ _ _ => pts_nil)
          (fun _ _ _ _ _ => pv 9) (fun _ _ _ _ _ => pe_bl))
      (pss_cons (ps_for PassesOwn.never rfl (pi_list (pB (cr_sortIS hr.units) T (pa_cons (pe_lk (pe_lc (own := [("hall", 9)]) (g := gName 9) (tt := tYes) rfl sc46.nd (pi_keys (pv 0)) (blkOk_by (N := N46) (sc := defScope (top 46)) (by decide +kernel)) (fun _ _ _ _ _ => pg_name (i := 9) sc46.nd rfl (Or.inl rfl)) (fun _ _ _ _ _ => pts_nil)
            (fun _ _ _ _ _ => pe_tup (pa_cons (pB (id := "len") (r := fun xs H Q => ∃ p ys, xs = [V.ref p] ∧ (SqL K H p ys ∨ SqT K H p ys) ∧ Q (V.int ↑ys.length) H) call_len_seq T (pa_cons (pc C2 hr (pa_cons (pv 0) (pa_cons (pv 9) pa_nil))) pa_nil)) (pa_cons (pv 9) pa_nil))))) pa_nil))) (pg_tup rfl (pgs_cons (pg_name (i := 8) sc46.nd rfl (.inl rfl)) (pgs_cons (pg_name (i := 9) sc46.nd rfl (.inl rfl)) pgs_nil)))
          (pss_one (ps_if (PW.pt (pw_and (pt_cmp (pc_dnotin hu (pv 9) (pv 7))) (pw_and (pt_cmp (pc_din hu (pe_dget hu (pv 0) (pv 9) (fun _ _ => rfl)) (pv 7))) (pw_and1 (pt_val (pe_meth (pe_dget hu (pv 4) (pv 9) (fun _ _ => rfl)) W.cl mh Gh (hr.mono (by decide)) bh .nil pass0 (pa_cons (pv 2) pa_nil))))))) pss_never pss_nil)))
      (pss_one (ps_ret (pv 6))))))), ?_⟩
    refine ⟨_, rfl, _, rfl, a, b, Ts, rfl, hA, t.nd, G.le, hB, fun H1 dp s1 ndp DA => ?_⟩
    refine ⟨_, rfl, _, rfl, a, x, Ts, rk, rfl, s1.rd hA, t, G.le, hx, fun H2 up s2 nup eup => ?_⟩
    have hpos := t.wy_pos x
    have hwl := t.wy_len hx
    have h40 := G.le
    refine ⟨_, rfl, _, rfl, 1, rfl, up, _, rfl, SqL.of' eup, fun l nl => ?_⟩
    rw [cut_tail]
    have sl : Same H2 (upd H2 l (.lst ((wy Ts rk x).tail.map V.str))) := same_upd nl
    have el : (upd H2 l (.lst ((wy Ts rk x).tail.map V.str))) l = some (.lst ((wy Ts rk x).tail.map V.str)) := upd_same
    generalize upd H2 l (.lst ((wy Ts rk x).tail.map V.str)) = H3 at sl el
    refine ⟨up, l, _, _, rfl, SqL.of' (sl _ _ eup), SqL.of' el, fun D nD => ?_⟩
    have zl : (pairsOf (wy Ts rk x)).length = min ((wy Ts rk x).map V.str).length ((wy Ts rk x).tail.map V.str).length := by
      unfold pairsOf; rw [List.length_zip, List.length_map, List.length_map]
    have pl := pairs_len _ hpos
    refine lc_tup' (walk_zip zl) (pairsOf (wy Ts rk x)) (fun p => [.str p.1, .str p.2]) rfl (small40 (by omega)) nD (fun H4 s4 => ⟨SqL.of' (s4 _ _ (sl _ _ eup)), SqL.of' (s4 _ _ el)⟩) (fun i p y H4 H5 Kt hp s4 hy hk => ?_) (fun H4 fs s4 e4 pr4 => ?_)
    · obtain ⟨tp, y1, y2, rfl, nt, rfl, g1, g2⟩ := hy
      obtain ⟨lo, hi⟩ := p
      have hp' := hp
      unfold pairsOf at hp'
      rw [List.getElem?_zip_eq_some] at hp'
      simp only [List.getElem?_map, hp'.1] at g1
      simp only [List.getElem?_map, hp'.2] at g2
      cases (show V.str lo = y1 from Option.some.inj g1)
      cases (show V.str hi = y2 from Option.some.inj g2)
      refine ⟨tp, _, rfl, SqT.of' upd_same, rfl, _, _, rfl, _, _, rfl, rfl, rfl, ?_⟩
      exact ⟨_, rfl, _, rfl, by show 2 ≤ sizeLine; decide, fun q nq => hk q _ (same_upd nt) nq⟩
    have s24 := sl.trans s4
    have fl := pr4.length
    refine ⟨_, rfl, up, rfl, ⟨_, SqL.of' (s24 _ _ eup)⟩, fun D2 nD2 => ?_⟩
    refine dc_src (walk_list (xs := (wy Ts rk x).map V.str)) (wy Ts rk x) id (fun _ => some (.bl true)) (by rw [List.map_id]; exact t.wy_nodup x) (by rw [List.length_map]) (by rw [List.length_map]; exact small40 (by omega)) nD2 (fun H5 s5 => SqL.of' (s5 _ _ (s24 _ _ eup))) (fun i y v H5 H6 Kt Kn hi s5 hy hk hn => ?_) (fun H5 s5 e5 => ?_)
    · obtain ⟨rfl, hy⟩ := hy
      rw [List.getElem?_map, hi] at hy
      cases (show V.str y = v from Option.some.inj hy)
      refine ⟨rfl, ?_⟩
      simp only [tYes, if_true]
      exact ⟨_, rfl, hk (.bl true) _ rfl (Same.refl _)⟩
    rw [kept_true] at e5
    have s25 := s24.trans s5
    have hA5 : AtH H5 a Ts := (((s1.trans s2).trans s25)).rd hA
    refine lk_keysT (fun p => [.int ((wy Ts rk p.1).length : Nat), .str p.1]) rfl hA5 (small40 G.le) (fun p H6 Kt hp m hk => ⟨rfl, ?_⟩) (fun D3 H6 as s6 n6 e6 pr6 => ?_)
    · refine ⟨_, rfl, _, rfl, a, p.1, Ts, rk, rfl, m.d _ _ hA5, t, G.le, List.mem_map.mpr ⟨p, hp, rfl⟩, fun H7 wl s7 n7 e7 => ?_⟩
      refine ⟨wl, _, rfl, .inl (SqL.of' e7), _, rfl, by show 2 ≤ sizeLine; decide, fun q nq => ?_⟩
      rw [List.length_map]
      exact hk q _ s7 nq
    obtain ⟨ps, g1, g2, g3⟩ := paired_is (g := fun y => ((wy Ts rk y).length : Nat)) (N := fun q => H5 q = none) pr6
    refine ⟨D3, ps, rfl, SqL.of' (by rw [g1]; exact e6), fun p hp => (g2 p hp).1, small40 (by omega), fun ys sp hp nsp => ?_⟩
    refine ⟨sp, rfl, ⟨_, SqL.of' upd_same⟩, ?_⟩
    have s6' : Same H6 (upd H6 sp (.lst (ys.map fun p => V.ref p.2))) := same_upd nsp
    have esp : (upd H6 sp (.lst (ys.map fun p => V.ref p.2))) sp = some (.lst (ys.map fun p => V.ref p.2)) := upd_same
    generalize upd H6 sp (.lst (ys.map fun p => V.ref p.2)) = H7 at s6' esp
    have s57 := s6.trans s6'
    have s17 : Same H H7 := ((s1.trans s2).trans s25).trans s57
    have eD : H7 D = some (.lst (fs.map V.ref)) := s57 _ _ (s5 _ _ e4)
    have eD2 : H7 D2 = some (.dK (tab (fun _ : Unit => V.bl true) ((wy Ts rk x).map fun y => (y, ())))) := s57 _ _ e5
    obtain ⟨L, d1, d2, d3⟩ := DA
    have s18 : Same H1 H7 := (s2.trans s25).trans s57
    refine for_list (K := K) (a := sp) (xs := ys.map fun p => V.ref p.2) (fun i σ Hk => Hk = H7 ∧ ∃ v8 v9 v10 v11, σ = [some (.ref a), some (.ref b), some (.str z), some (.str x), some (.ref dp), some (.ref up), some (.ref D), some (.ref D2), v8, v9, v10, v11])
      ⟨rfl, _, _, _, _, rfl⟩ (fun i σ Hk _ e => by rw [e.1]; exact SqL.of' esp) ?_ ?_
    · rintro i v σ Hk hi ⟨rfl, v8, v9, v10, v11, rfl⟩
      rw [List.getElem?_map] at hi
      obtain ⟨p, hpi, rfl⟩ := Option.map_eq_some_iff.mp hi
      obtain ⟨e1, e2⟩ := g2 p ((hp.mem_iff).mp (List.mem_of_getElem? hpi))
      obtain ⟨⟨n, h⟩, r⟩ := p
      refine ⟨r, _, rfl, SqT.of' (s6' _ _ e1), rfl, _, _, rfl, _, _, rfl, rfl, ?_⟩
      refine ⟨_, rfl, _, rfl, D2, _, rfl, DGet.rd (k := Sum.inr h) (.inl eD2), ?_⟩
      have ek : ((wy Ts rk x).map fun y => (y, ())).map (·.1) = wy Ts rk x := by rw [List.map_map]; exact List.map_id _
      rw [val_iff, ek]
      refine ⟨_, rfl, ?_⟩
      by_cases hw : h ∈ wy Ts rk x
      · rw [decide_eq_true hw]
        exact iteF (iteF ⟨rfl, _, _, _, _, rfl⟩)
      rw [decide_eq_false hw]
      refine iteT ?_
      obtain ⟨u, hu2⟩ : ∃ u, par Ts h = some u := by
        cases e : par Ts h with
        | some u => exact ⟨u, rfl⟩
        | none => exact absurd (t.root_mem e e2 hx) hw
      refine ⟨_, rfl, _, rfl, a, _, rfl, atH_get (s17.rd hA) t.nd e2, _, rfl, D2, valV (tab (fun _ : Unit => V.bl true) ((wy Ts rk x).map fun y => (y, ()))) (Sum.inr u), ?_⟩
      rw [hu2]
      refine ⟨rfl, DGet.rd (k := Sum.inr u) (.inl eD2), ?_⟩
      rw [val_iff, ek]
      refine ⟨_, rfl, ?_⟩
      by_cases hv : u ∈ wy Ts rk x
      · rw [decide_eq_true hv]
        refine iteT ?_
        have hL : h ∈ L.map (·.1) := by rw [d1]; exact e2
        obtain ⟨lq, hq, rfl⟩ := List.mem_map.mp hL
        have gd : DGet Hk dp (.str lq.1) (some (.ref lq.2)) := by
          have := DGet.rd (k := Sum.inr lq.1) (s18.rd d2)
          rw [val_mem (f := V.ref) (by rw [d1]; exact t.nd) hq] at this
          exact this
        have wa := WantAt.same s18 (d3 lq hq)
        obtain ⟨dx, tt, w1, w2⟩ := id wa
        refine ⟨_, rfl, _, rfl, dp, _, rfl, gd, lq.2, dx, _, rfl, w1, wf_no _ (by decide +kernel) (by decide +kernel), _, rfl, lq.2, z, rfl, wa, _, rfl, ?_⟩
        exact iteF ⟨rfl, _, _, _, _, rfl⟩
      · rw [decide_eq_false hv]
        exact iteF (iteF ⟨rfl, _, _, _, _, rfl⟩)
    · rintro σ Hk ⟨rfl, v8, v9, v10, v11, rfl⟩
      refine ⟨_, rfl, q _ D (fs.map V.ref) s17 ?_ eD ?_⟩
      · exact (s1.trans s2).free (sl.free nD)
      · rw [List.length_map, fl]; exact pl
end
end K66
set_option maxHeartbeats 4000000
/-! steps. -/
namespace K66
open PySem PySem.Spec PyProof.Rows L2 PpSet
section
variable {P : Program} {w : World} {K : PySem.W.Frag} {mg : Str → Option Value} {base : Heap}
def spSteps : Sp := fun vs H Q _ => ∃ (a b : Addr) (z x : Str) (T : Halls) (rk : Str → Nat), vs = [.ref a, .ref b, .str z, .str x] ∧ H a = some (.dK (tab optV T)) ∧ Good T rk ∧ H b = some (.dK []) ∧ x ∈ T.map (·.1) ∧
  ∀ H' p (xs : List V), Same H H' → H p = none → H' p = some (.tup xs) → xs.length + 1 = (wy T rk x).length → Q (.ref p) H'
abbrev P47 : List Str := ["halls", "wanted", "sender", "start"]
abbrev N47 : List Str := ["halls", "wanted", "sender", "start", "begin"]
theorem sc47 : FnScope N47 P47 (defScope (top 47)) := ⟨rfl, rfl, rfl, by decide +kernel, rfl, by decide +kernel, by decide +kernel⟩
theorem c_steps (T : Tx K mg) : ∃ (f : Addr) (fd : FuncData), FnOk P w K mg base CX0 8 f fd P47 spSteps ∧ mg "steps" = some (.ref f) ∧ PySem.W.keepIn K (.ref f) = true ∧ KBn K fd P47 3 ["start"] (fun us ws => us ++ ws) (fun vs zs => vs ++ zs) := by
  obtain ⟨f, fd, F, hm⟩ := T.d47
  obtain ⟨mv, kb⟩ := F.kbinds0 (ps := P47) 3 ["start"] [] (fun us mv ws => us ++ ws) (by simp) (fun q h => by cases h) (fun r1 _ r3 => r1.append r3) (fun D doc pm an cdv ct us mv ws l1 l2 l3 => match us, mv, ws, l1, l2, l3 with
    | [_, _, _], [], [_], _, _, _ => rfl)
  refine ⟨f, fd, ?_, hm, F.kp, kb⟩
  refine F.ok sc47 (fun vs H Q E h => ?_) (fun cdv A outer s H vs Q E hr h => ?_)
  · obtain ⟨a, b, _, _, _, _, rfl, _⟩ := h; rfl
  · obtain ⟨a, b, z, x, Ts, rk, rfl, hA, G, hB, hx, q⟩ := h
    have C1 := c_begin (P := P) (w := w) (base := base) T
    have C2 := c_steps_from (P := P) (w := w) (base := base) T
    refine ⟨_, pss_cons (ps_set (i := 4) sc47.nd rfl (Or.inl rfl) (pc C1 hr (pa_cons (pv 0) (pa_cons (pv 1) (pa_cons (pv 3) pa_nil)))))
      (pss_one (ps_ret (pT call_tuple_of T (pa_cons (pc C2 hr (pa_cons (pv 0) (pa_cons (pv 1) (pa_cons (pv 2) (pa_cons (pv 4) pa_nil))))) pa_nil)))), ?_⟩
    refine ⟨_, rfl, _, rfl, _, rfl, a, b, x, Ts, rk, rfl, hA, G, hB, hx, fun H1 s1 => ?_⟩
    refine ⟨_, rfl, _, rfl, _, rfl, _, rfl, a, b, z, x, Ts, rk, rfl, .inl (s1 _ _ hA), G, s1 _ _ hB, hx, fun H2 p xs s2 np ep el => ?_⟩
    refine ⟨p, xs, rfl, .inl ⟨SqL.of' ep, fun l nl => ?_⟩⟩
    exact q _ l xs (same_upd' (s1.trans s2) ((s1.trans s2).free nl)) ((s1.trans s2).free nl) upd_same el
end
end K66
set_option maxHeartbeats 4000000
/-! The law's draws. -/
namespace K66
open PySem PySem.Spec PyProof.Rows L2 PpSet
theorem atI_in {α : Type} {xs : List α} {i : Int} (h0 : 0 ≤ i) (h1 : i < xs.length) : ∃ v, atI xs i = some v ∧ v ∈ xs := by
  have hl : i.toNat < xs.length := by omega
  have e : xs[i.toNat]? = some xs[i.toNat] := List.getElem?_eq_getElem hl
  refine ⟨_, ?_, List.mem_of_getElem? e⟩
  have := atI_nat e
  rwa [Int.toNat_of_nonneg h0] at this
theorem atI_zero {α : Type} (x : α) (l : List α) : atI (x :: l) 0 = some x := atI_nat (j := 0) rfl
theorem ixN_zero {n : Nat} (h : 0 < n) : ixN n 0 = some 0 := by
  unfold ixN
  rw [if_pos (by decide), if_pos (by omega)]
  rfl
/-- the store of draws: n more may be drawn -/
structure StoreAt (H : Hp) (S g sm : Addr) (n : Nat) : Prop where
  ex : ∃ (great small : List Int) (blend step : Int), H S = some (.lst [.ref g, .int blend, .int step, .ref sm]) ∧ H g = some (.lst (great.map V.int)) ∧ H sm = some (.lst (small.map V.int)) ∧ (∀ z ∈ great, 0 ≤ z) ∧
    (∀ z ∈ small, 0 ≤ z ∧ z < 1000000000000000000) ∧ small ≠ [] ∧ (0 ≤ blend ∧ blend < 2147483648) ∧ 0 ≤ step ∧ step + n ≤ 1099511627776
  n1 : S ≠ g
  n2 : S ≠ sm
  n3 : g ≠ sm
theorem StoreAt.less {H : Hp} {S g sm : Addr} {m n : Nat} (h : StoreAt H S g sm n) (l : m ≤ n) : StoreAt H S g sm m := by
  obtain ⟨⟨gr, s, b, st, h1, h2, h3, h4, h5, h6, h7, h8, h9⟩, n1, n2, n3⟩ := h
  exact ⟨⟨gr, s, b, st, h1, h2, h3, h4, h5, h6, h7, h8, by omega⟩, n1, n2, n3⟩
theorem StoreAt.same {H H' : Hp} {S g sm : Addr} {n : Nat} (s : Same H H') (h : StoreAt H S g sm n) : StoreAt H' S g sm n := by
  obtain ⟨⟨gr, sl, b, st, h1, h2, h3, h⟩, n1, n2, n3⟩ := h
  exact ⟨⟨gr, sl, b, st, s _ _ h1, s _ _ h2, s _ _ h3, h⟩, n1, n2, n3⟩
/-- only the store's own lists have changed -/
structure Drew (S g : Addr) (H H' : Hp) : Prop where
  keep : ∀ b o, b ≠ S → b ≠ g → H b = some o → H' b = some o
  free : ∀ b, H' b = none → H b = none
section
variable {S g sm : Addr} {H H1 H2 : Hp} {n : Nat}
theorem Drew.refl : Drew S g H H := ⟨fun _ _ _ _ h => h, fun _ h => h⟩
theorem Drew.trans (a : Drew S g H H1) (b : Drew S g H1 H2) : Drew S g H H2 := ⟨fun c o n1 n2 h => b.keep c o n1 n2 (a.keep c o n1 n2 h), fun c h => a.free c (b.free c h)⟩
theorem Drew.of (s : Same H H1) : Drew S g H H1 := ⟨fun c o _ _ h => s c o h, fun c h => s.free h⟩
theorem Drew.next (a : Drew S g H H1) (s : Same H1 H2) : Drew S g H H2 := a.trans (.of s)
theorem Drew.putS {o u : HO} (a : Drew S g H H1) (h : H1 S = some u) : Drew S g H (upd H1 S o) := ⟨fun c x n1 n2 h => by rw [upd_ne n1]; exact a.keep c x n1 n2 h, fun c h => a.free c (free_upd h)⟩
theorem Drew.putG {o u : HO} (a : Drew S g H H1) (h : H1 g = some u) : Drew S g H (upd H1 g o) := ⟨fun c x n1 n2 h => by rw [upd_ne n2]; exact a.keep c x n1 n2 h, fun c h => a.free c (free_upd h)⟩
theorem Drew.putN {o : HO} {p : Addr} (a : Drew S g H H1) (h : H1 p = none) : Drew S g H (upd H1 p o) := a.next (same_upd h)
end
def spDraw (big : Prop) (e : Nat) : Sp := fun vs H Q _ => ∃ (S g sm : Addr) (m : Int) (n : Nat), vs = [.ref S, .int m] ∧ StoreAt H S g sm (n + e) ∧ (1 ≤ m ∧ (m ≤ 1000000 ∨ (big ∧ m = 1000000000000))) ∧
  ∀ H' d, Drew S g H H' → StoreAt H' S g sm n → 0 ≤ d → d < m → Q (.int d) H'
abbrev N50 : List Str := ["store", "many", "digit", "found", "turn", "step", "primes", "cell", "one", "two"]
theorem sc50 : FnScope N50 ["store", "many"] (defScope (top 50)) := ⟨rfl, rfl, rfl, by decide +kernel, rfl, by decide +kernel, by decide +kernel⟩
section
variable {P : Program} {w : World} {K : PySem.W.Frag} {mg : Str → Option Value} {base : Heap}
theorem draw_step {al : Prop} {k e : Nat} (T : Tx K mg) (C : Cal P w K mg base k "_law_draw" (fun vs H Q E => al ∧ spDraw False 1 vs H Q E)) (he : 1 ≤ e ∧ (al → 3 ≤ e)) : Cal P w K mg base (k + 1) "_law_draw" (spDraw al e) := by
  refine cal_of T.d50 sc50 (fun _ _ _ _ _ _ us hl => match us, hl with | [_, _], _ => rfl) (fun vs H Q E h => ?_) (fun f cdv A outer s H vs Q E hr h => ?_)
  · obtain ⟨S, g, sm, m, n, rfl, _⟩ := h; rfl
  · obtain ⟨S, g, sm, m, n, rfl, hS, hm, q⟩ := h
    refine ⟨_, pss_cons (ps_while PassesOwn.never (PW.pt (pw_and (pt_cmpR (op_neD hr.units) (pe_ix ix_list (pv 0) pe_int (fun _ _ => rfl)) (pe_lst pa_nil) (nomark _)) (pw_and1 (pt_cmpR op_eq (pe_ix ix_list (pe_ix ix_list (pv 0) pe_int (fun _ _ => rfl)) pe_int (fun _ _ => rfl)) pe_int (nomark _)))))
        (pss_one (ps_expr (pe_bm PySem.F.plainAttrs_list PySem.F.slot_list_pop PySem.F.type_list_pop mt_popAt (pe_ix ix_list (pv 0) pe_int (fun _ _ => rfl)) (pa_cons pe_int pa_nil)))))
      (pss_cons (ps_if (pt_cmpR (op_neD hr.units) (pe_ix ix_list (pv 0) pe_int (fun _ _ => rfl)) (pe_lst pa_nil) (nomark _))
        (pss_cons (ps_set (i := 2) sc50.nd rfl (Or.inl rfl) (pe_op op_mod (pe_ix ix_list (pe_ix ix_list (pv 0) pe_int (fun _ _ => rfl)) pe_int (fun _ _ => rfl)) (pv 1)))
        (pss_cons (ps_asg (pe_op op_fdivW (pe_ix ix_list (pe_ix ix_list (pv 0) pe_int (fun _ _ => rfl)) pe_int (fun _ _ => rfl)) (pv 1)) (pg_sub (pe_ix ix_list (pv 0) pe_int (fun _ _ => rfl)) pe_int set_list))
        (pss_one (ps_ret (pv 2))))) pss_nil)
      (pss_cons (ps_if (pt_cmpR op_gt (pv 1) (pe_op op_pow pe_int pe_int) (nomark _))
        (pss_cons (ps_set (i := 3) sc50.nd rfl (Or.inl rfl) pe_int)
        (pss_cons (ps_for PassesOwn.never rfl (pi_range1 rfl (T.fr "range" (by decide +kernel)) (pa_cons (pe_op op_add pe_int (pe_op op_fdiv (pB call_len_str T (pa_cons (pT call_str_int T (pa_cons (pv 1) pa_nil)) pa_nil)) pe_int)) pa_nil)) (pg_name (i := 4) sc50.nd rfl (Or.inl rfl))
          (pss_one (ps_set (i := 3) sc50.nd rfl (Or.inl rfl) (pe_op op_add (pe_op op_mul (pv 3) (pe_op op_pow pe_int pe_int)) (pc C hr (pa_cons (pv 0) (pa_cons (pe_op op_pow pe_int pe_int) pa_nil)) (Nat.le_refl _))))))
        (pss_one (ps_ret (pe_op op_mod (pv 3) (pv 1)))))) pss_nil)
      (pss_cons (ps_set (i := 5) sc50.nd rfl (Or.inl rfl) (pe_op op_add (pe_ix ix_list (pv 0) pe_int (fun _ _ => rfl)) pe_int))
      (pss_cons (ps_asg (pv 5) (pg_sub (pv 0) pe_int set_list))
      (pss_cons (ps_set (i := 6) sc50.nd rfl (Or.inl rfl) (pe_lst (pa_cons pe_int (pa_cons pe_int (pa_cons pe_int (pa_cons pe_int (pa_cons pe_int pa_nil)))))))
      (pss_cons (ps_set (i := 7) sc50.nd rfl (Or.inl rfl) (pe_ix ix_list (pe_ix ix_list (pv 0) pe_int (fun _ _ => rfl)) (pe_op op_mod (pv 5) (pB call_len_seq T (pa_cons (pe_ix ix_list (pv 0) pe_int (fun _ _ => rfl)) pa_nil))) (fun _ _ => rfl)))
      (pss_cons (ps_set (i := 8) sc50.nd rfl (Or.inl rfl) (pe_op op_mod (pe_op op_pow (pe_op op_add (pe_op op_add (pe_op op_add (pe_ix ix_list (pv 0) pe_int (fun _ _ => rfl)) (pv 7)) (pe_op op_mul pe_int (pv 5))) pe_int) pe_int) (pe_ix ix_list (pv 6) (pe_op op_mod (pv 5) pe_int) (fun _ _ => rfl))))
      (pss_cons (ps_set (i := 9) sc50.nd rfl (Or.inl rfl) (pe_op op_add (pe_op op_add (pe_op op_mul (pv 8) (pv 8)) (pe_op op_mod (pe_ix ix_list (pv 0) pe_int (fun _ _ => rfl)) pe_int)) (pv 5)))
      (pss_one (ps_ret (pe_op op_mod (pe_op op_fdiv (pe_op op_mod (pe_op op_pow (pv 9) pe_int) (pe_ix ix_list (pv 6) (pe_op op_mod (pe_op op_add (pv 5) pe_int) pe_int) (fun _ _ => rfl))) pe_int) (pv 1)))))))))))), ?_⟩
    obtain ⟨⟨great, small, blend, step, hSS, hSg, hSm, hgr, hsm, hne, hbl, hst, hbud⟩, n1, n2, n3⟩ := hS
    have hmp : 1 ≤ m := hm.1
    have hml : m ≤ 1000000000000 := by rcases hm.2 with h | h <;> omega
    have hlog : m.natAbs.log2 < 9000 := Nat.lt_trans ((Nat.log2_lt (by omega)).mpr (show m.natAbs < 2 ^ 41 by omega)) (by decide)
    refine ⟨fun mm σ Hc => ∃ gr : List Int, mm = gr.length ∧ σ = L2.start N50 [.ref S, .int m] ∧ Drew S g H Hc ∧ Hc S = some (.lst [.ref g, .int blend, .int step, .ref sm]) ∧ Hc g = some (.lst (gr.map V.int)) ∧ Hc sm = some (.lst (small.map V.int)) ∧ ∀ z ∈ gr, 0 ≤ z,
      ⟨_, great, rfl, rfl, .refl, hSS, hSg, hSm, hgr⟩, fun mm σ Hc hW => ?_⟩
    obtain ⟨gr, rfl, rfl, dr, eS, eg, em, hz⟩ := hW
    refine ⟨_, rfl, S, _, 0, _, rfl, rfl, SqL.of' eS, rfl, Nat.zero_le _, fun q1 nq1 => ?_⟩
    have s1 : Same Hc (upd Hc q1 (.lst [])) := same_upd nq1
    refine ⟨_, _, dp_ints (SqL.of' (s1 _ _ eg)), dp_nil (SqL.of' upd_same), shaped_ints _, shaped_nil, ?_⟩
    rw [eqv_nil]
    have dr1 := dr.next s1
    generalize upd Hc q1 (.lst []) = Hd at s1 dr1
    cases gr with
    | cons z rest =>
      refine ⟨_, rfl, iteT ?_⟩
      refine ⟨_, rfl, S, _, 0, _, rfl, rfl, SqL.of' (s1 _ _ eS), rfl, g, _, 0, .int z, rfl, rfl, SqL.of' (s1 _ _ eg), atI_zero _ _, rfl, _, rfl, ?_⟩
      by_cases ez : z = 0
      · subst ez
        refine iteT ?_
        refine ⟨_, fun σ' H' h => h, ?_⟩
        refine ⟨_, rfl, S, _, 0, _, rfl, rfl, SqL.of' (s1 _ _ eS), rfl, .inl ⟨rfl, _, SqL.of' (s1 _ _ eg)⟩, g, _, 0, 0, _, rfl, rfl, s1 _ _ eg, by decide, by decide, ?_, rfl, ?_⟩
        · exact seqIndex_of (by decide) (by rw [List.length_map, List.length_cons]; omega)
        · have eg1 := s1 _ _ eg
          refine ⟨rest.length, by rw [List.length_cons]; omega, rest, rfl, rfl, dr1.putG eg1, ?_, upd_same, ?_, fun y hy => hz y (List.mem_cons_of_mem _ hy)⟩
          · rw [upd_ne n1]; exact s1 _ _ eS
          · rw [upd_ne n3.symm]; exact s1 _ _ em
      · rw [decide_eq_false fun h => ez (V.int.inj h)]
        refine iteF ?_
        -- a digit of the great ones
        refine ⟨_, rfl, S, _, 0, _, rfl, rfl, SqL.of' (s1 _ _ eS), rfl, Nat.zero_le _, fun q2 nq2 => ?_⟩
        have s2 : Same Hd (upd Hd q2 (.lst [])) := same_upd nq2
        refine ⟨_, _, dp_ints (SqL.of' (s2 _ _ (s1 _ _ eg))), dp_nil (SqL.of' upd_same), shaped_ints _, shaped_nil, ?_⟩
        rw [eqv_nil]
        have dr2 := dr1.next s2
        have s12 := s1.trans s2
        generalize upd Hd q2 (.lst []) = He at s2 s12 dr2
        refine ⟨_, rfl, iteT ?_⟩
        refine ⟨_, rfl, S, _, 0, _, rfl, rfl, SqL.of' (s12 _ _ eS), rfl, g, _, 0, .int z, rfl, rfl, SqL.of' (s12 _ _ eg), atI_zero _ _, _, rfl, z, m, rfl, rfl, (by show 0 < m; omega), ?_⟩
        refine ⟨_, rfl, S, _, 0, _, rfl, rfl, SqL.of' (s12 _ _ eS), rfl, g, _, 0, .int z, rfl, rfl, SqL.of' (s12 _ _ eg), atI_zero _ _, _, rfl, z, m, rfl, rfl, ⟨by omega, hlog⟩, ?_⟩
        refine ⟨_, rfl, S, _, 0, _, rfl, rfl, SqL.of' (s12 _ _ eS), rfl, g, _, 0, 0, rfl, rfl, s12 _ _ eg, ixN_zero (by rw [List.length_map, List.length_cons]; omega), ?_⟩
        refine ⟨_, rfl, q _ (z % m) (dr2.putG (s12 _ _ eg)) ⟨⟨(z / m) :: rest, small, blend, step, ?_, upd_same, ?_, fun y hy => ?_, hsm, hne, hbl, hst, by omega⟩, n1, n2, n3⟩ (Int.emod_nonneg _ (by omega)) (Int.emod_lt_of_pos _ (by omega))⟩
        · rw [upd_ne n1]; exact s12 _ _ eS
        · rw [upd_ne n3.symm]; exact s12 _ _ em
        · rcases List.mem_cons.mp hy with rfl | hy
          · exact Int.ediv_nonneg (hz z (List.mem_cons_self ..)) (by omega)
          · exact hz y (List.mem_cons_of_mem _ hy)
    | nil =>
      refine ⟨_, rfl, iteF ?_⟩
      refine ⟨_, rfl, S, _, 0, _, rfl, rfl, SqL.of' (s1 _ _ eS), rfl, Nat.zero_le _, fun q2 nq2 => ?_⟩
      have s2 : Same Hd (upd Hd q2 (.lst [])) := same_upd nq2
      refine ⟨_, _, dp_ints (SqL.of' (s2 _ _ (s1 _ _ eg))), dp_nil (SqL.of' upd_same), shaped_ints _, shaped_nil, ?_⟩
      rw [eqv_nil]
      have dr2 := dr1.next s2
      have s12 := s1.trans s2
      generalize upd Hd q2 (.lst []) = He at s2 s12 dr2
      refine ⟨_, rfl, iteF ?_⟩
      have eS2 := s12 _ _ eS
      have eg2 := s12 _ _ eg
      have em2 := s12 _ _ em
      refine ⟨_, rfl, 10, 6, rfl, rfl, ⟨by decide, by decide, by decide⟩, _, _, rfl, rfl, _, rfl, ?_⟩
      have e6 : (10 : Int) ^ (6 : Int).toNat = 1000000 := by decide
      rw [e6]
      by_cases hb : m ≤ 1000000
      · refine iteN (by omega) ?_
        refine ⟨_, rfl, S, _, 2, .int step, rfl, rfl, SqL.of' eS2, rfl, _, _, rfl, rfl, ?_⟩
        refine ⟨_, rfl, _, rfl, S, _, 2, 2, rfl, rfl, eS2, rfl, ?_⟩
        have dr3 := dr2.putS (o := .lst [.ref g, .int blend, .int (step + 1), .ref sm]) eS2
        have eS3 : (upd He S (.lst [.ref g, .int blend, .int (step + 1), .ref sm])) S = some (.lst [.ref g, .int blend, .int (step + 1), .ref sm]) := upd_same
        have eg3 : (upd He S (.lst [.ref g, .int blend, .int (step + 1), .ref sm])) g = some (.lst []) := by rw [upd_ne n1.symm]; exact eg2
        have em3 : (upd He S (.lst [.ref g, .int blend, .int (step + 1), .ref sm])) sm = some (.lst (small.map V.int)) := by rw [upd_ne n2.symm]; exact em2
        show tSeq _ _ _ _ (upd He S (.lst [.ref g, .int blend, .int (step + 1), .ref sm]))
        generalize upd He S (.lst [.ref g, .int blend, .int (step + 1), .ref sm]) = Hf at dr3 eS3 eg3 em3
        refine ⟨by show 5 ≤ sizeLine; decide, fun pp npp => ?_⟩
        have s4 : Same Hf (upd Hf pp (.lst [.int 2147483563, .int 2147483549, .int 2147483543, .int 2147483497, .int 2147483489])) := same_upd npp
        have ep4 : (upd Hf pp (.lst [.int 2147483563, .int 2147483549, .int 2147483543, .int 2147483497, .int 2147483489])) pp = some (.lst [.int 2147483563, .int 2147483549, .int 2147483543, .int 2147483497, .int 2147483489]) := upd_same
        have dr4 := dr3.next s4
        generalize upd Hf pp (.lst [.int 2147483563, .int 2147483549, .int 2147483543, .int 2147483497, .int 2147483489]) = Hg at s4 ep4 dr4
        have eS4 := s4 _ _ eS3
        have em4 := s4 _ _ em3
        have hlen : 0 < small.length := List.length_pos_iff.mpr hne
        have hb1 := he.1
        -- cell
        obtain ⟨vc, hvc, hvm⟩ := atI_in (xs := small.map V.int) (i := (step + 1) % (small.length : Int)) (Int.emod_nonneg _ (by omega)) (by rw [List.length_map]; exact Int.emod_lt_of_pos _ (by omega))
        obtain ⟨cell, hcm, rfl⟩ := List.mem_map.mp hvm
        have hcell := hsm cell hcm
        refine ⟨_, rfl, S, _, 3, .ref sm, rfl, rfl, SqL.of' eS4, rfl, _, rfl, _, rfl, S, _, 3, .ref sm, rfl, rfl, SqL.of' eS4, rfl, sm, _, rfl, .inl (SqL.of' em4), step + 1, (small.length : Int), rfl, by rw [List.length_map], (by show (0 : Int) < small.length; omega), ?_⟩
        refine ⟨sm, _, _, .int cell, rfl, rfl, SqL.of' em4, hvc, ?_⟩
        -- one
        have pr : ∀ i : Int, ∃ p : Int, atI [V.int 2147483563, V.int 2147483549, V.int 2147483543, V.int 2147483497, V.int 2147483489] (i % 5) = some (.int p) ∧ 0 < p ∧ p < 2147483648 := fun i => by
          obtain ⟨v, hv, hvm⟩ := atI_in (xs := [V.int 2147483563, V.int 2147483549, V.int 2147483543, V.int 2147483497, V.int 2147483489]) (i := i % 5) (Int.emod_nonneg _ (by decide)) (by show i % 5 < 5; exact Int.emod_lt_of_pos _ (by decide))
          simp only [List.mem_cons, List.not_mem_nil, or_false] at hvm
          rcases hvm with rfl | rfl | rfl | rfl | rfl <;> exact ⟨_, hv, by decide, by decide⟩
        obtain ⟨p1, hp1, hp0, hp2⟩ := pr (step + 1)
        obtain ⟨p2, hq1, hq0, hq2⟩ := pr (step + 1 + 2)
        have hstep : step + 1 ≤ 1099511627776 := by omega
        refine ⟨_, rfl, S, _, 1, .int blend, rfl, rfl, SqL.of' eS4, rfl, _, rfl, blend, cell, rfl, rfl, ?_⟩
        refine ⟨_, rfl, 104729, step + 1, rfl, rfl, .inl ⟨by decide, by decide⟩, blend + cell, 104729 * (step + 1), rfl, rfl, _, 13, rfl, rfl, blend + cell + 104729 * (step + 1) + 13, 3, rfl, rfl, ⟨by decide, by decide, by omega⟩, ?_⟩
        refine ⟨_, rfl, _, rfl, _, _, rfl, rfl, (by show (0 : Int) < 5; decide), pp, _, _, .int p1, rfl, rfl, SqL.of' ep4, hp1, ?_⟩
        refine ⟨_, p1, rfl, rfl, hp0, ?_⟩
        have ho0 : 0 ≤ (blend + cell + 104729 * (step + 1) + 13) ^ (3 : Int).toNat % p1 := Int.emod_nonneg _ (by omega)
        have ho1 : (blend + cell + 104729 * (step + 1) + 13) ^ (3 : Int).toNat % p1 < p1 := Int.emod_lt_of_pos _ hp0
        obtain ⟨one, ho⟩ : ∃ one, (blend + cell + 104729 * (step + 1) + 13) ^ (3 : Int).toNat % p1 = one := ⟨_, rfl⟩
        rw [ho] at ho0 ho1
        have hof : some (some (V.int ((blend + cell + 104729 * (step + 1) + 13) ^ (3 : Int).toNat % p1))) = some (some (V.int one)) := by rw [ho]
        have hoo : one * one ≤ 2147483647 * 2147483647 := Int.mul_le_mul (by omega) (by omega) ho0 (by decide)
        have hoo0 : 0 ≤ one * one := Int.mul_nonneg ho0 ho0
        have hb3 : 0 ≤ blend % 1000003 := Int.emod_nonneg _ (by decide)
        have hb4 : blend % 1000003 < 1000003 := Int.emod_lt_of_pos _ (by decide)
        refine ⟨.int one, hof, .int one, hof, one, one, rfl, rfl, .inl ⟨by omega, by omega⟩, _, rfl, S, _, 1, .int blend, rfl, rfl, SqL.of' eS4, rfl, blend, 1000003, rfl, rfl, (by show (0 : Int) < 1000003; decide), one * one, blend % 1000003, rfl, rfl, _, rfl, one * one + blend % 1000003, step + 1, rfl, rfl, ?_⟩
        refine ⟨_, rfl, one * one + blend % 1000003 + (step + 1), 5, rfl, rfl, ⟨by decide, by decide, by omega⟩, _, rfl, _, rfl, step + 1, 2, rfl, rfl, step + 1 + 2, 5, rfl, rfl, (by show (0 : Int) < 5; decide), pp, _, _, .int p2, rfl, rfl, SqL.of' ep4, hq1, ?_⟩
        refine ⟨_, p2, rfl, rfl, hq0, _, 16, rfl, rfl, ⟨by decide, by decide⟩, _, rfl, _, m, rfl, rfl, (by show 0 < m; omega), ?_⟩
        refine q _ _ dr4 ⟨⟨[], small, blend, step + 1, eS4, s4 _ _ eg3, em4, fun _ h => (by cases h), hsm, hne, hbl, by omega, by omega⟩, n1, n2, n3⟩ (Int.emod_nonneg _ (by omega)) (Int.emod_lt_of_pos _ (by omega))
      · have ha : al ∧ m = 1000000000000 := by
          rcases hm.2 with h | h
          · exact absurd h hb
          · exact h
        obtain ⟨hal, rfl⟩ := ha
        refine iteY (by decide) ?_
        have he3 := he.2 hal
        have S0 : StoreAt He S g sm (n + 3) := ⟨⟨[], small, blend, step, eS2, eg2, em2, fun _ h => (by cases h), hsm, hne, hbl, hst, by omega⟩, n1, n2, n3⟩
        refine ⟨_, rfl, 1000000000000, rfl, by decide +kernel, _, rfl, by decide +kernel, _, _, rfl, rfl, ⟨by decide, by decide⟩, ?_⟩
        refine ⟨1, _, rfl, rfl, 3, by decide +kernel, by decide, by decide, ?_⟩
        refine for_range (n := 3) (fun i σ Hc => ∃ (fo : Int) (v4 : Option V), σ = [some (.ref S), some (.int 1000000000000), none, some (.int fo), v4, none, none, none, none, none] ∧ Drew S g H Hc ∧ StoreAt Hc S g sm (n + (3 - i))) ⟨0, _, rfl, dr2, S0⟩ ?_ ?_
        · rintro i σ Hc hi ⟨fo, v4, rfl, d1, st1⟩
          refine ⟨_, rfl, _, _, rfl, rfl, ⟨by decide, by decide, by decide⟩, _, _, rfl, rfl, .inr ⟨by decide, by decide⟩, ?_⟩
          refine ⟨_, rfl, _, _, rfl, rfl, ⟨by decide, by decide, by decide⟩, hal, S, g, sm, 1000000, n + (3 - (i + 1)), rfl, ?_, ⟨by decide, .inl (by decide)⟩, fun Hx dg dx stx h0 h1 => ?_⟩
          · have e : n + (3 - (i + 1)) + 1 = n + (3 - i) := by omega
            rw [e]; exact st1
          · exact ⟨_, _, rfl, rfl, _, _, rfl, d1.trans dx, stx⟩
        · rintro σ Hc ⟨fo, v4, rfl, d1, st1⟩
          refine ⟨_, rfl, _, rfl, fo, 1000000000000, rfl, rfl, (by show (0 : Int) < 1000000000000; decide), ?_⟩
          exact q _ _ d1 (st1.less (by omega)) (Int.emod_nonneg _ (by decide)) (Int.emod_lt_of_pos _ (by decide))
theorem c_draw0 (T : Tx K mg) : Cal P w K mg base 0 "_law_draw" (fun vs H Q E => False ∧ spDraw False 1 vs H Q E) := by
  obtain ⟨f, fd, F, hm⟩ := T.d50
  exact ⟨f, fd, ["store", "many"], ⟨fun vs H Q E h => h.1.elim, fun A outer s H args us vs Q E _ _ _ _ h => h.1.elim⟩, hm, F.kp, F.bindsN fun _ _ _ _ _ _ us hl => match us, hl with | [_, _], _ => rfl⟩
theorem c_draw1 (T : Tx K mg) : Cal P w K mg base 1 "_law_draw" (spDraw False 1) := draw_step T (c_draw0 T) ⟨by decide, fun h => h.elim⟩
theorem Cal.imp {k : Nat} {x : Str} {sp sp' : Sp} (c : Cal P w K mg base k x sp) (h : ∀ vs H Q E, sp' vs H Q E → sp vs H Q E) : Cal P w K mg base k x sp' := by
  obtain ⟨f, fd, ps, F, r⟩ := c.ex
  exact ⟨f, fd, ps, F.imp h, r⟩
theorem c_draw (T : Tx K mg) : Cal P w K mg base 2 "_law_draw" (spDraw True 3) := draw_step T ((c_draw1 T).imp fun vs H Q E h => h.2) ⟨by decide, fun _ => by decide⟩
end
end K66
set_option maxHeartbeats 4000000
/-! The law's store. -/
namespace K66
open PySem PySem.Spec PyProof.Rows L2 PpSet
theorem cut_ints (ns : List Int) (lo hi : Option Int) : ∃ ms : List Int, cutV (ns.map V.int) lo hi = ms.map V.int ∧ ms.length ≤ ns.length := by
  refine ⟨(ns.drop (HT.sIx (ns.map V.int).length 0 lo)).take (HT.sIx (ns.map V.int).length (ns.map V.int).length hi - HT.sIx (ns.map V.int).length 0 lo), ?_, ?_⟩
  · unfold cutV; rw [List.map_take, List.map_drop]
  · rw [List.length_take, List.length_drop]; omega
theorem fm_ints {c : Int → Prop} [DecidablePred c] (f : Int → Int) : ∀ l : List Int, ∃ r : List Int, (l.filterMap fun a => if c a then some (V.int (f a)) else none) = r.map V.int ∧ r.length ≤ l.length ∧ ∀ z ∈ r, ∃ a ∈ l, c a ∧ z = f a
  | [] => ⟨[], rfl, Nat.le_refl _, fun _ h => by cases h⟩
  | a :: l => by
    obtain ⟨r, h1, h2, h3⟩ := fm_ints (c := c) f l
    by_cases h : c a
    · refine ⟨f a :: r, ?_, by simp; omega, fun z hz => ?_⟩
      · rw [List.filterMap_cons, if_pos h, h1]; rfl
      · rcases List.mem_cons.mp hz with rfl | hz
        · exact ⟨a, List.mem_cons_self .., h, rfl⟩
        · obtain ⟨b, hb, r⟩ := h3 z hz
          exact ⟨b, List.mem_cons_of_mem _ hb, r⟩
    · refine ⟨r, ?_, by simp; omega, fun z hz => ?_⟩
      · rw [List.filterMap_cons, if_neg h, h1]
      · obtain ⟨b, hb, r⟩ := h3 z hz
        exact ⟨b, List.mem_cons_of_mem _ hb, r⟩
section
variable {P : Program} {w : World} {K : PySem.W.Frag} {mg : Str → Option Value} {base : Heap}
def spStore (K : PySem.W.Frag) : Sp := fun vs H Q _ => ∃ (a : Addr) (ns : List Int), vs = [.ref a] ∧ SqL K H a (ns.map V.int) ∧ ns.length ≤ 63 ∧ ∀ H' S g sm, Same H H' → H S = none → H g = none → StoreAt H' S g sm 1000000 → Q (.ref S) H'
abbrev N49 : List Str := ["script", "blend", "place", "cell", "great", "small"]
theorem sc49 : FnScope N49 ["script"] (defScope (top 49)) := ⟨rfl, rfl, rfl, by decide +kernel, rfl, by decide +kernel, by decide +kernel⟩
theorem c_store (T : Tx K mg) : Cal P w K mg base 1 "_law_store" (spStore K) := by
  refine cal_of T.d49 sc49 (fun _ _ _ _ _ _ us hl => match us, hl with | [_], _ => rfl) (fun vs H Q E h => ?_) (fun f cdv A outer s H vs Q E hr h => ?_)
  · obtain ⟨a, _, rfl, _⟩ := h; rfl
  · obtain ⟨a, ns, rfl, hA, hlen, q⟩ := h
    refine ⟨_, pss_cons (ps_set (i := 1) sc49.nd rfl (Or.inl rfl) pe_int)
      (pss_cons (ps_for PassesOwn.never rfl (pi_enum rfl (T.fr "enumerate" (by decide +kernel)) (pa_cons (pe_slice sl_list (pv 0) po_none (po_some pe_int)) pa_nil)) (pg_tup rfl (pgs_cons (pg_name (i := 2) sc49.nd rfl (.inl rfl)) (pgs_cons (pg_name (i := 3) sc49.nd rfl (.inl rfl)) pgs_nil)))
        (pss_one (ps_set (i := 1) sc49.nd rfl (Or.inl rfl) (pe_op op_mod (pe_op op_add (pe_op op_add (pe_op op_mul (pv 1) (pv 1)) (pe_op op_mod (pv 3) pe_int)) (pe_op op_mul pe_int (pv 2))) pe_int))))
      (pss_cons (ps_setLc (i := 4) (own := [("cell", 3)]) (g := gName 3) (tt := tTest (tOp (rI0 fun i j => .bl (decide (j ≤ i))) (tCB (fun xs H Q => ∃ i, xs = [V.int i] ∧ Q (.int (if i < 0 then -i else i)) H) (tCons (tVar 3) tNil)) (tOp (rI CPow fun i j => .int (i ^ j.toNat)) (tC (.int 10)) (tC (.int 18))))) rfl sc49.nd rfl rfl (sw_true rfl rfl rfl (by decide +kernel)) (pi_list (pe_slice sl_list (pv 0) po_none (po_some pe_int))) (blkOk_by (N := N49) (sc := defScope (top 49)) (by decide +kernel))
          (fun _ _ _ _ _ => pg_name (i := 3) sc49.nd rfl (.inl rfl)) (fun _ _ _ _ _ => pts_one (pt_cmpR op_ge (pB call_abs T (pa_cons (pv 3) pa_nil)) (pe_op op_pow pe_int pe_int) (nomark _))) (fun _ _ _ _ _ => pB call_abs T (pa_cons (pv 3) pa_nil)))
      (pss_cons (ps_setLc (i := 5) (own := [("cell", 3)]) (g := gName 3) (tt := tTest (tOp (rI0 fun i j => .bl (decide (i < j))) (tCB (fun xs H Q => ∃ i, xs = [V.int i] ∧ Q (.int (if i < 0 then -i else i)) H) (tCons (tVar 3) tNil)) (tOp (rI CPow fun i j => .int (i ^ j.toNat)) (tC (.int 10)) (tC (.int 18))))) rfl sc49.nd rfl rfl (sw_true rfl rfl rfl (by decide +kernel)) (pi_list (pe_slice sl_list (pv 0) po_none (po_some pe_int))) (blkOk_by (N := N49) (sc := defScope (top 49)) (by decide +kernel))
          (fun _ _ _ _ _ => pg_name (i := 3) sc49.nd rfl (.inl rfl)) (fun _ _ _ _ _ => pts_one (pt_cmpR op_lt (pB call_abs T (pa_cons (pv 3) pa_nil)) (pe_op op_pow pe_int pe_int) (nomark _))) (fun _ _ _ _ _ => pB call_abs T (pa_cons (pv 3) pa_nil)))
      (pss_one (ps_ret (pe_lst (pa_cons (pv 4) (pa_cons (pv 1) (pa_cons pe_int (pa_cons (pe_op op_cat (pv 5) (pe_lst (pa_cons pe_int pa_nil))) pa_nil)))))))))), ?_⟩
    have e18 : (10 : Int) ^ (18 : Int).toNat = 1000000000000000000 := by decide
    refine ⟨_, rfl, 63, rfl, a, _, rfl, hA, fun sl nsl => ?_⟩
    obtain ⟨ms, em, lm⟩ := cut_ints ns none (some 63)
    have hml : ms.length ≤ sizeLine := Nat.le_trans (Nat.le_trans lm hlen) (by decide)
    rw [em]
    have s1 : Same H (upd H sl (.lst (ms.map V.int))) := same_upd nsl
    have esl : (upd H sl (.lst (ms.map V.int))) sl = some (.lst (ms.map V.int)) := upd_same
    generalize upd H sl (.lst (ms.map V.int)) = H1 at s1 esl
    refine ⟨sl, _, rfl, SqL.of' esl, ?_⟩
    refine for_it (walk_enum (xs := ms.map V.int)) (fun i σ Hk => ∃ bl v2 v3, σ = [some (.ref a), some (.int bl), v2, v3, none, none] ∧ Same H1 Hk ∧ 0 ≤ bl ∧ bl < 2147483648) ⟨271, _, _, rfl, Same.refl _, by decide, by decide⟩ (fun i σ Hk _ ⟨_, _, _, _, h, _⟩ => SqL.of' (h _ _ esl)) ?_ ?_
    · rintro i x σ Hk H' hi ⟨bl, v2, v3, rfl, k1, k2, k3⟩ hy
      rw [List.length_map] at hi
      obtain ⟨tp, y, u, rfl, nt, rfl, g1, g2⟩ := hy
      have hmi : ms[i]? = some ms[i] := List.getElem?_eq_getElem hi
      generalize ms[i] = c at hmi
      simp only [List.getElem?_map, hmi] at g2
      cases (show V.int (i : Nat) = y from Option.some.inj g1)
      cases (show V.int c = u from Option.some.inj g2)
      have hi2 : (i : Int) < 64 := by omega
      refine ⟨tp, _, rfl, SqT.of' upd_same, rfl, _, _, rfl, _, _, rfl, rfl, ?_⟩
      refine ⟨_, rfl, _, rfl, bl, bl, rfl, rfl, .inl ⟨by omega, by omega⟩, _, rfl, c, 2147483629, rfl, rfl, (by show (0 : Int) < 2147483629; decide), bl * bl, c % 2147483629, rfl, rfl, _, rfl, 40009, (i : Int), rfl, rfl, .inl ⟨by decide, by decide⟩, _, _, rfl, rfl, _, 2147483587, rfl, rfl, (by show (0 : Int) < 2147483587; decide), ?_⟩
      exact ⟨_, _, _, rfl, same_upd' k1 (k1.free nt), Int.emod_nonneg _ (by decide), Int.lt_trans (Int.emod_lt_of_pos _ (by decide)) (by decide)⟩
    · rintro σ Hk ⟨bl, v2, v3, rfl, k1, k2, k3⟩
      have s2 := s1.trans k1
      refine ⟨_, rfl, 63, rfl, a, _, rfl, s2.seq hA, fun sl2 nsl2 => ?_⟩
      rw [em]
      have s3 : Same Hk (upd Hk sl2 (.lst (ms.map V.int))) := same_upd nsl2
      have esl2 : (upd Hk sl2 (.lst (ms.map V.int))) sl2 = some (.lst (ms.map V.int)) := upd_same
      generalize upd Hk sl2 (.lst (ms.map V.int)) = H3 at s3 esl2
      refine ⟨sl2, rfl, ⟨_, SqL.of' esl2⟩, fun D nD => ?_⟩
      refine lc_src (walk_list (xs := ms.map V.int)) ms (fun c => if 1000000000000000000 ≤ (if c < 0 then -c else c) then some (V.int (if c < 0 then -c else c)) else none) (by rw [List.length_map]) (by rw [List.length_map]; exact hml) nD (fun H4 s4 => SqL.of' (s4 _ _ esl2)) (fun i c y H4 H5 Kt Kn hi s4 hy hk hn => ?_) (fun H4 s4 e4 => ?_)
      · obtain ⟨rfl, hy⟩ := hy
        rw [List.getElem?_map, hi] at hy
        cases (show V.int c = y from Option.some.inj hy)
        refine ⟨rfl, _, rfl, c, rfl, 10, 18, rfl, rfl, ⟨by decide, by decide, by decide⟩, _, _, rfl, rfl, _, rfl, ?_⟩
        rw [e18]
        by_cases hc : 1000000000000000000 ≤ (if c < 0 then -c else c)
        · exact iteY hc ⟨_, rfl, c, rfl, hk _ _ (if_pos hc) (Same.refl _)⟩
        · exact iteN hc (hn _ (if_neg hc) (Same.refl _))
      obtain ⟨gr, egr, lgr, mgr⟩ := fm_ints (c := fun c => 1000000000000000000 ≤ (if c < 0 then -c else c)) (fun c => if c < 0 then -c else c) ms
      rw [egr] at e4
      have s24 := s2.trans (s3.trans s4)
      refine ⟨_, rfl, 63, rfl, a, _, rfl, s24.seq hA, fun sl3 nsl3 => ?_⟩
      rw [em]
      have s5 : Same H4 (upd H4 sl3 (.lst (ms.map V.int))) := same_upd nsl3
      have esl3 : (upd H4 sl3 (.lst (ms.map V.int))) sl3 = some (.lst (ms.map V.int)) := upd_same
      generalize upd H4 sl3 (.lst (ms.map V.int)) = H5 at s5 esl3
      refine ⟨sl3, rfl, ⟨_, SqL.of' esl3⟩, fun D2 nD2 => ?_⟩
      refine lc_src (walk_list (xs := ms.map V.int)) ms (fun c => if (if c < 0 then -c else c) < 1000000000000000000 then some (V.int (if c < 0 then -c else c)) else none) (by rw [List.length_map]) (by rw [List.length_map]; exact hml) nD2 (fun H6 s6 => SqL.of' (s6 _ _ esl3)) (fun i c y H6 H7 Kt Kn hi s6 hy hk hn => ?_) (fun H6 s6 e6 => ?_)
      · obtain ⟨rfl, hy⟩ := hy
        rw [List.getElem?_map, hi] at hy
        cases (show V.int c = y from Option.some.inj hy)
        refine ⟨rfl, _, rfl, c, rfl, 10, 18, rfl, rfl, ⟨by decide, by decide, by decide⟩, _, _, rfl, rfl, _, rfl, ?_⟩
        rw [e18]
        by_cases hc : (if c < 0 then -c else c) < 1000000000000000000
        · exact iteY hc ⟨_, rfl, c, rfl, hk _ _ (if_pos hc) (Same.refl _)⟩
        · exact iteN hc (hn _ (if_neg hc) (Same.refl _))
      obtain ⟨sm, esm, lsm, msm⟩ := fm_ints (c := fun c => (if c < 0 then -c else c) < 1000000000000000000) (fun c => if c < 0 then -c else c) ms
      rw [esm] at e6
      have eg6 := s6 _ _ (s5 _ _ e4)
      -- [great, blend, 0, small + [17]]
      refine ⟨_, rfl, _, rfl, _, rfl, by show 1 ≤ sizeLine; decide, fun p1 np1 => ?_⟩
      have np6 : D2 ≠ p1 := ne_of_none e6 np1
      have gp6 : D ≠ p1 := ne_of_none eg6 np1
      refine ⟨D2, p1, _, _, rfl, rfl, by rw [upd_ne np6]; exact e6, upd_same, by rw [List.length_map]; exact Nat.le_of_lt (small1000 (by show sm.length + 1 ≤ 1000; omega)), fun p2 np2 => ?_⟩
      have hp2 := free_upd np2
      refine ⟨by show 4 ≤ sizeLine; decide, fun p3 np3 => ?_⟩
      have hp3 := free_upd np3
      have hp3' := free_upd hp3
      have gp2 : D ≠ p2 := ne_of_none eg6 hp2
      have gp3 : D ≠ p3 := ne_of_none eg6 hp3'
      have p23 : p2 ≠ p3 := fun e => by rw [← e, upd_same] at np3; cases np3
      have s26 : Same H H6 := s24.trans (s5.trans s6)
      refine q _ p3 D p2 (same_upd' (same_upd' (same_upd' s26 (s26.free np1)) (s26.free hp2)) (s26.free hp3')) (s26.free hp3') ((s2.trans s3).free nD) ⟨⟨gr, sm ++ [17], bl, 0, upd_same, ?_, ?_, ?_, ?_, by simp, ⟨k2, k3⟩, Int.le_refl _, by decide⟩, gp3.symm, p23.symm, gp2⟩
      · rw [upd_ne gp3, upd_ne gp2, upd_ne gp6]; exact eg6
      · rw [upd_ne p23, upd_same, List.map_append]; rfl
      · intro z hz
        obtain ⟨c, _, hc, rfl⟩ := mgr z hz
        show 0 ≤ (if c < 0 then -c else c)
        split <;> omega
      · intro z hz
        rcases List.mem_append.mp hz with hz | hz
        · obtain ⟨c, _, hc, rfl⟩ := msm z hz
          refine ⟨?_, hc⟩
          show 0 ≤ (if c < 0 then -c else c)
          split <;> omega
        · have : z = 17 := by simpa using hz
          subst this
          exact ⟨by decide, by decide⟩
end
end K66
set_option maxHeartbeats 4000000
/-! Names made of letters (plain). -/
namespace K66
open PySem PySem.Spec PyProof.Rows L2
abbrev isLet (c : Nat) : Prop := c ∈ LET.cps.toList
abbrev sg1 (c : Nat) : Str := ⟨#[c]⟩
theorem nm_of {s : Str} (h : 1 ≤ s.length) (h8 : s.length ≤ 8) (hs : ∀ c ∈ s.cps.toList, isLet c) : IsNm s := ⟨h, h8, hs⟩
theorem app_cps (a b : Str) : (a ++ b).cps.toList = a.cps.toList ++ b.cps.toList := by
  show (a.cps ++ b.cps).toList = _
  simp
theorem app_len (a b : Str) : (a ++ b).length = a.length + b.length := by
  show (a.cps ++ b.cps).size = _
  exact Array.size_append
theorem join_cps : ∀ l : List Str, (Str.join (Str.ofString "") l).cps.toList = l.flatMap fun y => y.cps.toList
  | [] => rfl
  | [x] => by simp [Str.join]
  | x :: y :: r => by
    show ((x ++ Str.ofString "") ++ Str.join (Str.ofString "") (y :: r)).cps.toList = _
    rw [app_cps, app_cps, join_cps (y :: r)]
    show x.cps.toList ++ [] ++ _ = _
    rw [List.append_nil]
    rfl
theorem nm_join {ys : List Str} (h : ∀ y ∈ ys, ∃ c, isLet c ∧ y = sg1 c) (h1 : 1 ≤ ys.length) (h8 : ys.length ≤ 8) : IsNm (Txt.join (Str.ofString "") ys) := by
  have e : (Txt.join (Str.ofString "") ys).cps.toList = ys.flatMap fun y => y.cps.toList := by
    unfold Txt.join; rw [StrLaws.glued_eq_join]; exact join_cps ys
  have hl : ∀ l : List Str, (∀ y ∈ l, ∃ c, isLet c ∧ y = sg1 c) → (l.flatMap fun y => y.cps.toList).length = l.length := by
    intro l
    induction l with
    | nil => intro _; rfl
    | cons y l ih =>
      intro h
      obtain ⟨c, _, rfl⟩ := h y (List.mem_cons_self ..)
      rw [List.flatMap_cons, List.length_append, ih fun z hz => h z (List.mem_cons_of_mem _ hz)]
      show 1 + l.length = l.length + 1
      omega
  have el : (Txt.join (Str.ofString "") ys).length = ys.length := by
    show (Txt.join (Str.ofString "") ys).cps.size = _
    rw [← Array.length_toList, e, hl ys h]
  refine nm_of (by omega) (by omega) fun c hc => ?_
  rw [e, List.mem_flatMap] at hc
  obtain ⟨y, hy, hc⟩ := hc
  obtain ⟨d, hd, rfl⟩ := h y hy
  have : c = d := by simpa using hc
  subst this
  exact hd
theorem cut_to {x : Str} {k : Int} (h : 0 ≤ k) : (cutS x none (some k)).cps.toList = x.cps.toList.take k.toNat ∧ (cutS x none (some k)).length = min k.toNat x.length := by
  have e : (cutS x none (some k)).cps.toList = x.cps.toList.take k.toNat := by
    unfold cutS
    have e1 : HT.sIx x.length x.length (some k) = min k.toNat x.length := by
      have := HT.sIx_nat x.length x.length k.toNat
      rwa [Int.toNat_of_nonneg h] at this
    rw [e1, HT.sIx_none]
    show (List.take (min k.toNat x.length - 0) (List.drop 0 x.cps.toList)) = _
    rw [List.drop_zero, Nat.sub_zero]
    have hxl : x.length = x.cps.toList.length := (Array.length_toList).symm
    rw [hxl]
    by_cases hk : k.toNat ≤ x.cps.toList.length
    · rw [Nat.min_eq_left hk]
    · rw [Nat.min_eq_right (by omega), List.take_length, List.take_of_length_le (by omega)]
  refine ⟨e, ?_⟩
  show (cutS x none (some k)).cps.size = _
  rw [← Array.length_toList, e, List.length_take]
  rfl
theorem nm_cut {x : Str} {k : Int} (h : IsNm x) (hk : 1 ≤ k) : IsNm (cutS x none (some k)) := by
  obtain ⟨e1, e2⟩ := cut_to (x := x) (k := k) (by omega)
  have h1 := h.pos
  have h2 := h.le
  refine nm_of (by omega) (by omega) fun c hc => ?_
  rw [e1] at hc
  exact h.sg c (List.mem_of_mem_take hc)
theorem cut7 {x : Str} (h : IsNm x) : 1 ≤ (cutS x none (some 7)).length ∧ (cutS x none (some 7)).length ≤ 7 ∧ ∀ c ∈ (cutS x none (some 7)).cps.toList, isLet c := by
  obtain ⟨e1, e2⟩ := cut_to (x := x) (k := 7) (by decide)
  have h1 := h.pos
  have e7 : (7 : Int).toNat = 7 := rfl
  rw [e7] at e1 e2
  refine ⟨by omega, by omega, fun c hc => ?_⟩
  rw [e1] at hc
  exact h.sg c (List.mem_of_mem_take hc)
theorem nm_app {x : Str} {c : Nat} (h : IsNm x) (hc : isLet c) : IsNm (cutS x none (some 7) ++ sg1 c) ∧ IsNm (sg1 c ++ cutS x none (some 7)) := by
  obtain ⟨h1, h2, h3⟩ := cut7 h
  constructor
  · refine nm_of (by rw [app_len]; omega) (by rw [app_len]; show _ + 1 ≤ 8; omega) fun d hd => ?_
    rw [app_cps, List.mem_append] at hd
    rcases hd with hd | hd
    · exact h3 d hd
    · have : d = c := by simpa using hd
      subst this; exact hc
  · refine nm_of (by rw [app_len]; omega) (by rw [app_len]; show 1 + _ ≤ 8; omega) fun d hd => ?_
    rw [app_cps, List.mem_append] at hd
    rcases hd with hd | hd
    · have : d = c := by simpa using hd
      subst this; exact hc
    · exact h3 d hd
def tries (x : Str) : List Str := x :: (LET.cps.toList.map (fun c => cutS x none (some 7) ++ sg1 c) ++ LET.cps.toList.map fun c => sg1 c ++ cutS x none (some 7))
theorem tries_nm {x : Str} (h : IsNm x) : ∀ y ∈ tries x, IsNm y := by
  intro y hy
  rcases List.mem_cons.mp hy with rfl | hy
  · exact h
  · rcases List.mem_append.mp hy with hy | hy
    · obtain ⟨c, hc, rfl⟩ := List.mem_map.mp hy
      exact (nm_app h hc).1
    · obtain ⟨c, hc, rfl⟩ := List.mem_map.mp hy
      exact (nm_app h hc).2
theorem let_nodup : LET.cps.toList.Nodup := by decide
theorem let_len : LET.cps.toList.length = 26 := by decide
theorem tries_new (x : Str) {found : List Str} (hf : found.length < 26) : ∃ y ∈ tries x, ¬ y ∈ found := by
  by_cases h : ∃ y ∈ tries x, ¬ y ∈ found
  · exact h
  · exfalso
    have hs : ∀ y ∈ LET.cps.toList.map (fun c => cutS x none (some 7) ++ sg1 c), y ∈ found := fun y hy => by
      by_cases hy2 : y ∈ found
      · exact hy2
      · exact absurd ⟨y, List.mem_cons_of_mem _ (List.mem_append.mpr (.inl hy)), hy2⟩ h
    have nd : (LET.cps.toList.map (fun c => cutS x none (some 7) ++ sg1 c)).Nodup := by
      refine List.Pairwise.map _ (fun a b hab e => ?_) let_nodup
      have := congrArg (fun s : Str => s.cps.toList) e
      simp only [app_cps, List.append_cancel_left_eq] at this
      simp at this
      exact hab this
    have := List.Nodup.length_le_of_subset nd hs
    rw [List.length_map, let_len] at this
    omega
end K66
set_option maxHeartbeats 4000000
/-! The law's names. -/
namespace K66
open PySem PySem.Spec PyProof.Rows L2 PpSet
section
variable {P : Program} {w : World} {K : PySem.W.Frag} {mg : Str → Option Value} {base : Heap}
theorem StoreAt.hasS {H : Hp} {S g sm : Addr} {n : Nat} (h : StoreAt H S g sm n) : ∃ o, H S = some o := by obtain ⟨⟨_, _, _, _, h, _⟩, _⟩ := h; exact ⟨_, h⟩
theorem StoreAt.hasG {H : Hp} {S g sm : Addr} {n : Nat} (h : StoreAt H S g sm n) : ∃ o, H g = some o := by obtain ⟨⟨_, _, _, _, _, h, _⟩, _⟩ := h; exact ⟨_, h⟩
theorem StoreAt.newS {H : Hp} {S g sm p : Addr} {n : Nat} (h : StoreAt H S g sm n) (e : H p = none) : p ≠ S := fun z => by
  obtain ⟨o, h⟩ := h.hasS; rw [← z, e] at h; cases h
theorem StoreAt.newG {H : Hp} {S g sm p : Addr} {n : Nat} (h : StoreAt H S g sm n) (e : H p = none) : p ≠ g := fun z => by
  obtain ⟨o, h⟩ := h.hasG; rw [← z, e] at h; cases h
theorem if_any {c : TT} {t u : TS} {B : TS} {D : Ends} {σ : L2.St} {H : Hp} (R : L2.St → Hp → Prop) (h : ∀ nx : L2.St → Hp → Prop, (∀ σ H, R σ H → nx σ H) → tIfS c t u { D with nx := nx } σ H) (hR : ∀ σ H, R σ H → B D σ H) : tSeq (tIfS c t u) B D σ H := h (B D) hR
theorem StoreAt.newM {H : Hp} {S g sm p : Addr} {n : Nat} (h : StoreAt H S g sm n) (e : H p = none) : p ≠ sm := fun z => by
  obtain ⟨⟨_, _, _, _, _, _, h, _⟩, _⟩ := h; rw [← z, e] at h; cases h
theorem StoreAt.put {H : Hp} {S g sm p : Addr} {n : Nat} {o : HO} (h : StoreAt H S g sm n) (a : p ≠ S) (b : p ≠ g) (c : p ≠ sm) : StoreAt (upd H p o) S g sm n := by
  obtain ⟨⟨gr, sl, bl, stp, h1, h2, h3, h⟩, n1, n2, n3⟩ := h
  exact ⟨⟨gr, sl, bl, stp, by rw [upd_ne a.symm]; exact h1, by rw [upd_ne b.symm]; exact h2, by rw [upd_ne c.symm]; exact h3, h⟩, n1, n2, n3⟩
theorem Drew.putNew {S g p : Addr} {H H1 : Hp} {o : HO} (a : Drew S g H H1) (n : H p = none) : Drew S g H (upd H1 p o) :=
  ⟨fun c x n1 n2 h => by rw [upd_ne (ne_of_none h n)]; exact a.keep c x n1 n2 h, fun c h => a.free c (free_upd h)⟩
def spNames : Sp := fun vs H Q _ => ∃ (S g sm : Addr) (m n : Nat), vs = [.ref S, .int (m : Int)] ∧ StoreAt H S g sm (n + 300) ∧ m ≤ 8 ∧
  ∀ H' p (ns : List Str), Drew S g H H' → H p = none → StoreAt H' S g sm n → H' p = some (.lst (ns.map V.str)) → ns.length = m → ns.Nodup → (∀ x ∈ ns, IsNm x) → Q (.ref p) H'
abbrev N51 : List Str := ["store", "many", "letters", "found", "k", "word", "turn", "some", "letter", "one"]
theorem sc51 : FnScope N51 ["store", "many"] (defScope (top 51)) := ⟨rfl, rfl, rfl, by decide +kernel, rfl, by decide +kernel, by decide +kernel⟩
theorem c_names (T : Tx K mg) : Cal P w K mg base 3 "_law_names" spNames := by
  refine cal_of T.d51 sc51 (fun _ _ _ _ _ _ us hl => match us, hl with | [_, _], _ => rfl) (fun vs H Q E h => ?_) (fun f cdv A outer s H vs Q E hr h => ?_)
  · obtain ⟨_, _, _, _, _, rfl, _⟩ := h; rfl
  · obtain ⟨S, g, sm, m, n, rfl, hS, hm, q⟩ := h
    have C := c_draw (P := P) (w := w) (base := base) T
    refine ⟨_, pss_cons (ps_set (i := 2) sc51.nd rfl (Or.inr rfl) pe_str)
      (pss_cons (ps_set (i := 3) sc51.nd rfl (Or.inr rfl) (pe_lst pa_nil))
      (pss_cons (ps_for PassesOwn.never rfl (pi_range1 rfl (T.fr "range" (by decide +kernel)) (pa_cons (pv 1) pa_nil)) (pg_name (i := 4) sc51.nd rfl (Or.inl rfl))
        (pss_cons (ps_set (i := 5) sc51.nd rfl (Or.inr rfl) (pe_join pe_str (pe_lc (own := [("turn", 6)]) (g := gName 6) (tt := tYes) (te := tOp rIxS (tVar 2) (tCall (spDraw True 3) [] E0 (tCons (tVar 0) (tCons (tC (.int 26)) tNil)))) rfl sc51.nd (pi_range1 rfl (T.fr "range" (by decide +kernel)) (pa_cons (pe_op op_add pe_int (pc C hr (pa_cons (pv 0) (pa_cons pe_int pa_nil)))) pa_nil)) (blkOk_by (N := N51) (sc := defScope (top 51)) (by decide +kernel)) (fun _ _ _ _ _ => pg_name (i := 6) sc51.nd rfl (Or.inl rfl)) (fun _ _ _ _ _ => pts_nil)
            (fun _ _ _ _ _ => pe_ix ix_str (pv 2) (pc C hr (pa_cons (pv 0) (pa_cons pe_int pa_nil))) (fun _ _ => rfl)))))
        (pss_cons (ps_if (PW.pt (pw_and (pt_cmpR (op_neD hr.units) (pv 3) (pe_lst pa_nil) (nomark _)) (pw_and1 (pt_cmpR op_eq (pc C hr (pa_cons (pv 0) (pa_cons pe_int pa_nil))) pe_int (nomark _)))))
          (pss_one (ps_set (i := 5) sc51.nd rfl (Or.inr rfl) (pe_slice sl_str (pe_ix ix_list (pv 3) (pe_un un_neg pe_int) (fun _ _ => rfl)) po_none (po_some (pe_op op_add pe_int (pc C hr (pa_cons (pv 0) (pa_cons pe_int pa_nil)))))))) pss_nil)
        (pss_cons (ps_set (i := 7) sc51.nd rfl (Or.inl rfl) (pe_op op_cat (pe_op op_cat (pe_lst (pa_cons (pv 5) pa_nil))
            (pe_lc (own := [("letter", 8)]) (g := gName 8) (tt := tYes) (te := tOp (fun x y H Q => ∃ i j, x = V.str i ∧ y = V.str j ∧ i.length + j.length ≤ sizeLine ∧ Q (.str (i ++ j)) H) (tSl rSlS (tVar 5) tNoPart (tPart (tC (.int 7)))) (tVar 8)) rfl sc51.nd (pi_str (pv 2)) (blkOk_by (N := N51) (sc := defScope (top 51)) (by decide +kernel)) (fun _ _ _ _ _ => pg_name (i := 8) sc51.nd rfl (Or.inl rfl)) (fun _ _ _ _ _ => pts_nil) (fun _ _ _ _ _ => pe_op op_add_str (pe_slice sl_str (pv 5) po_none (po_some pe_int)) (pv 8))))
            (pe_lc (own := [("letter", 8)]) (g := gName 8) (tt := tYes) (te := tOp (fun x y H Q => ∃ i j, x = V.str i ∧ y = V.str j ∧ i.length + j.length ≤ sizeLine ∧ Q (.str (i ++ j)) H) (tVar 8) (tSl rSlS (tVar 5) tNoPart (tPart (tC (.int 7))))) rfl sc51.nd (pi_str (pv 2)) (blkOk_by (N := N51) (sc := defScope (top 51)) (by decide +kernel)) (fun _ _ _ _ _ => pg_name (i := 8) sc51.nd rfl (Or.inl rfl)) (fun _ _ _ _ _ => pts_nil) (fun _ _ _ _ _ => pe_op op_add_str (pv 8) (pe_slice sl_str (pv 5) po_none (po_some pe_int))))))
        (pss_one (ps_expr (pe_bm PySem.F.plainAttrs_list PySem.F.slot_list_append PySem.F.type_list_append mt_append (pv 3) (pa_cons (pe_ix ix_list (pe_lc (own := [("one", 9)]) (g := gName 9) (tt := tTest (tOp (rIn K true) (tVar 9) (tVar 3))) (te := tVar 9) rfl sc51.nd (pi_list (pv 7)) (blkOk_by (N := N51) (sc := defScope (top 51)) (by decide +kernel)) (fun _ _ _ _ _ => pg_name (i := 9) sc51.nd rfl (Or.inl rfl)) (fun _ _ _ _ _ => pts_one (pt_cmpR op_notIn_seq (pv 9) (pv 3) rfl)) (fun _ _ _ _ _ => pv 9)) pe_int (fun _ _ => rfl)) pa_nil))))))))
      (pss_one (ps_ret (pv 3))))), ?_⟩
    have nS : ∀ {p : Addr}, H p = none → p ≠ S := hS.newS
    have nG : ∀ {p : Addr}, H p = none → p ≠ g := hS.newG
    refine ⟨Nat.zero_le _, fun fo nfo => ?_⟩
    refine ⟨_, rfl, (m : Int), rfl, by omega, by omega, ?_⟩
    have s0 : Same H (upd H fo (.lst [])) := same_upd nfo
    refine for_range (n := m) (fun i σ Hk => ∃ (ns : List Str) (v4 v5 v6 v7 v8 v9 : Option V), σ = [some (.ref S), some (.int (m : Int)), some (.str LET), some (.ref fo), v4, v5, v6, v7, v8, v9] ∧ Drew S g H Hk ∧ StoreAt Hk S g sm (n + 33 * (8 - i) + 36) ∧
      Hk fo = some (.lst (ns.map V.str)) ∧ ns.length = i ∧ ns.Nodup ∧ ∀ x ∈ ns, IsNm x) ⟨[], _, _, _, _, _, _, rfl, .of s0, hS.same s0, upd_same, rfl, List.nodup_nil, fun _ h => by cases h⟩ ?_ ?_
    · rintro i σ Hk hi ⟨ns, v4, v5, v6, v7, v8, v9, rfl, dr, st, efo, len, nd, nm⟩
      have b1 : n + 33 * (8 - i) + 36 = n + 33 * (8 - (i + 1)) + 36 + 33 := by omega
      rw [b1] at st
      generalize n + 33 * (8 - (i + 1)) + 36 = nn at st
      -- the word
      refine ⟨⟨_, rfl⟩, _, rfl, S, g, sm, 8, nn + 30, rfl, st, ⟨by decide, .inl (by decide)⟩, fun H1 d1 dr1 st1 d10 d18 => ?_⟩
      refine ⟨_, _, rfl, rfl, _, rfl, by omega, by omega, fun D nD => ?_⟩
      have nDH := dr.free D (dr1.free D nD)
      refine lc_it (walk_range (lo := 0) (n := (1 + d1).toNat)) (fun j Hx => Drew S g H1 Hx ∧ StoreAt Hx S g sm (nn + 6 + 3 * (8 - j)) ∧ ∃ cs : List Nat, cs.length = j ∧ (∀ c ∈ cs, isLet c) ∧ Hx D = some (.lst ((cs.map sg1).map V.str)))
        ⟨.of (same_upd nD), (st1.less (by omega)).same (same_upd nD), [], rfl, fun _ h => (by cases h), upd_same⟩ (fun _ _ _ _ => True.intro) (fun j y Hx Hy hj p hy => ?_) (fun Hx p => ?_)
      · obtain ⟨p1, p2, cs, p3, p4, p5⟩ := p
        obtain ⟨rfl, rfl⟩ := hy
        have nDS := nS nDH
        have nDG := nG nDH
        refine ⟨rfl, ?_⟩
        simp only [tYes, if_true]
        have b2 : nn + 6 + 3 * (8 - j) = nn + 6 + 3 * (8 - (j + 1)) + 3 := by omega
        rw [b2] at p2
        refine ⟨_, rfl, _, rfl, S, g, sm, 26, _, rfl, p2, ⟨by decide, .inl (by decide)⟩, fun H5 d dr5 st5 d0 d26 => ?_⟩
        obtain ⟨c, hc, hcm⟩ := atI_in (xs := LET.cps.toList) (i := d) d0 (by rw [let_len]; exact d26)
        refine ⟨LET, d, c, rfl, rfl, by decide, hc, ?_⟩
        refine ⟨_, dr5.keep _ _ nDS nDG p5, by rw [List.length_map, List.length_map]; exact small1000 (by omega), (p1.trans dr5).putNew nD, st5.put nDS nDG (st1.newM nD), cs ++ [c], by rw [List.length_append, p3]; rfl, fun z hz => ?_, ?_⟩
        · rcases List.mem_append.mp hz with hz | hz
          · exact p4 z hz
          · have : z = c := by simpa using hz
            subst this; exact hcm
        · rw [upd_same, List.map_append, List.map_append]; rfl
      · obtain ⟨p1, p2, cs, p3, p4, p5⟩ := p
        have b3 : cs.length = (1 + d1).toNat := p3
        have hx : IsNm (Txt.join (Str.ofString "") (cs.map sg1)) := nm_join (fun y hy => by
          obtain ⟨c, hc, rfl⟩ := List.mem_map.mp hy
          exact ⟨c, p4 c hc, rfl⟩) (by rw [List.length_map]; omega) (by rw [List.length_map]; omega)
        have hsum : (((cs.map sg1).map (·.length)).sum + (cs.map sg1).length * (Str.ofString "").length) ≤ 16777216 := by
          have e0 : (Str.ofString "").length = 0 := rfl
          have e1 : ((cs.map sg1).map (·.length)).sum = cs.length := by
            clear p3 p4 p5 b3 hx
            induction cs with
            | nil => rfl
            | cons c cs ih => rw [List.map_cons, List.map_cons, List.sum_cons, ih]; show 1 + cs.length = cs.length + 1; omega
          rw [e0, e1]; omega
        refine ⟨Str.ofString "", D, cs.map sg1, rfl, rfl, .inl (SqL.of' p5), hsum, ?_⟩
        generalize Txt.join (Str.ofString "") (cs.map sg1) = x at hx
        have st2 := p2.less (m := nn + 6) (by omega)
        have dr2 := dr1.trans p1
        have drx := dr.trans dr2
        have fS := nS nfo
        have fG := nG nfo
        have fM := hS.newM nfo
        have efo2 : Hx fo = some (.lst (ns.map V.str)) := dr2.keep _ _ fS fG efo
        clear p1 p2 p3 p4 p5 b3 hsum dr1 st1 dr2
        rw [show gName 5 = fun v σ H Q => Q (σ.set 5 (some v)) H from rfl]
        dsimp only
        refine if_any (fun σ Hy => ∃ (x' : Str) (v6' : Option V), IsNm x' ∧ σ = [some (.ref S), some (.int (m : Int)), some (.str LET), some (.ref fo), some (.int (0 + (i : Int))), some (.str x'), v6', v7, v8, v9] ∧ Drew S g H Hy ∧ StoreAt Hy S g sm nn ∧ Hy fo = some (.lst (ns.map V.str))) (fun nx hnx => ?_) (fun σ Hy hR => ?_)
        · -- if found != [] and ..
          refine ⟨_, rfl, Nat.zero_le _, fun q1 nq1 => ?_⟩
          have s1 : Same Hx (upd Hx q1 (.lst [])) := same_upd nq1
          refine ⟨_, _, dp_strs (SqL.of' (s1 _ _ efo2)), dp_nil (SqL.of' upd_same), shaped_strs _ (fun y hy => nm_ok (nm y hy)), shaped_nil, ?_⟩
          rw [eqv_nil]
          have drq := drx.next s1
          have stq := st2.same s1
          have efq := s1 _ _ efo2
          generalize upd Hx q1 (.lst []) = Hq at drq stq efq
          cases ns with
          | nil => exact ⟨_, rfl, iteF (iteF (hnx _ _ ⟨x, _, hx, rfl, drq, stq.less (by omega), efq⟩))⟩
          | cons y ys =>
            refine ⟨_, rfl, iteT ?_⟩
            refine ⟨_, rfl, S, g, sm, 4, nn + 3, rfl, stq, ⟨by decide, .inl (by decide)⟩, fun H5 d dr5 st5 d0 d4 => ?_⟩
            refine ⟨rfl, _, rfl, ?_⟩
            by_cases hd : d = 0
            · subst hd
              refine iteT ?_
              have ef5 := dr5.keep _ _ fS fG efq
              have hlst : ((y :: ys).map V.str) = ((y :: ys).dropLast).map V.str ++ [.str ((y :: ys).getLast (by simp))] := by
                conv => lhs; rw [← List.dropLast_concat_getLast (l := y :: ys) (by simp)]
                rw [List.map_append]; rfl
              have hlast : atI ((y :: ys).map V.str) (-1) = some (.str ((y :: ys).getLast (by simp))) := by rw [hlst]; exact atI_last _ _
              have lnm : IsNm ((y :: ys).getLast (by simp)) := nm _ (List.getLast_mem _)
              refine ⟨_, rfl, _, rfl, fo, _, _, _, rfl, rfl, SqL.of' ef5, hlast, _, rfl, S, g, sm, 7, nn, rfl, st5, ⟨by decide, .inl (by decide)⟩, fun H6 d7 dr6 st6 d70 d77 => ?_⟩
              refine ⟨1, d7, rfl, rfl, _, rfl, _, rfl, Nat.le_trans lnm.le (by decide), ?_⟩
              exact hnx _ _ ⟨_, _, nm_cut lnm (by omega), rfl, (drq.trans dr5).trans dr6, st6, dr6.keep _ _ fS fG ef5⟩
            · rw [decide_eq_false fun z => hd (V.int.inj z)]
              exact iteF (hnx _ _ ⟨x, _, hx, rfl, drq.trans dr5, st5.less (by omega), dr5.keep _ _ fS fG efq⟩)
        · obtain ⟨x', v6', hx', rfl, dry, sty, efy⟩ := hR
          have c7 := cut7 hx'
          have hlt : LET.cps.size ≤ sizeLine := by decide
          refine ⟨_, rfl, by show 1 ≤ sizeLine; decide, fun p1 np1 => ?_⟩
          have s1 : Same Hy (upd Hy p1 (.lst [.str x'])) := same_upd np1
          have ep1 : (upd Hy p1 (.lst [.str x'])) p1 = some (.lst [.str x']) := upd_same
          generalize upd Hy p1 (.lst [.str x']) = H1 at s1 ep1
          refine ⟨_, rfl, LET, rfl, fun D1 nD1 => ?_⟩
          refine lc_map walk_str LET.cps.toList (fun c => .str (cutS x' none (some 7) ++ sg1 c)) (by simp) hlt nD1 (fun _ _ => True.intro) (fun j c z Ha Hb Kt hc sa hy hk => ?_) (fun H2 s2 e2 => ?_)
          · obtain ⟨rfl, c', hc', rfl⟩ := hy
            have hca : c' = c := by
              rw [← Array.getElem?_toList, hc] at hc'
              exact (Option.some.inj hc').symm
            subst hca
            exact ⟨rfl, _, rfl, 7, rfl, x', rfl, Nat.le_trans hx'.le (by decide), _, rfl, _, _, rfl, rfl, Nat.le_trans (show _ + 1 ≤ 8 by omega) (by decide), hk _ (Same.refl _)⟩
          refine ⟨p1, D1, _, _, rfl, rfl, s2 _ _ ep1, e2, by rw [List.length_map, let_len]; exact Nat.le_of_lt (small1000 (by show 1 + 26 ≤ 1000; decide)), fun p2 np2 => ?_⟩
          have s3 : Same H2 (upd H2 p2 (.lst ([.str x'] ++ LET.cps.toList.map fun c => .str (cutS x' none (some 7) ++ sg1 c)))) := same_upd np2
          have ep2 : (upd H2 p2 (.lst ([.str x'] ++ LET.cps.toList.map fun c => .str (cutS x' none (some 7) ++ sg1 c)))) p2 = some (.lst ([.str x'] ++ LET.cps.toList.map fun c => .str (cutS x' none (some 7) ++ sg1 c))) := upd_same
          generalize upd H2 p2 (.lst ([.str x'] ++ LET.cps.toList.map fun c => .str (cutS x' none (some 7) ++ sg1 c))) = H3 at s3 ep2
          refine ⟨_, rfl, LET, rfl, fun D3 nD3 => ?_⟩
          refine lc_map walk_str LET.cps.toList (fun c => .str (sg1 c ++ cutS x' none (some 7))) (by simp) hlt nD3 (fun _ _ => True.intro) (fun j c z Ha Hb Kt hc sa hy hk => ?_) (fun H4 s4 e4 => ?_)
          · obtain ⟨rfl, c', hc', rfl⟩ := hy
            have hca : c' = c := by
              rw [← Array.getElem?_toList, hc] at hc'
              exact (Option.some.inj hc').symm
            subst hca
            exact ⟨rfl, _, rfl, _, rfl, 7, rfl, x', rfl, Nat.le_trans hx'.le (by decide), _, _, rfl, rfl, Nat.le_trans (show 1 + _ ≤ 8 by omega) (by decide), hk _ (Same.refl _)⟩
          refine ⟨p2, D3, _, _, rfl, rfl, s4 _ _ ep2, e4, by rw [List.length_append, List.length_map, List.length_map, let_len]; exact Nat.le_of_lt (small1000 (by show 1 + 26 + 26 ≤ 1000; decide)), fun p4 np4 => ?_⟩
          have etr : ([V.str x'] ++ LET.cps.toList.map fun c => V.str (cutS x' none (some 7) ++ sg1 c)) ++ (LET.cps.toList.map fun c => V.str (sg1 c ++ cutS x' none (some 7))) = (tries x').map V.str := by
            unfold tries
            rw [List.map_cons, List.map_append, List.map_map, List.map_map]; rfl
          rw [etr]
          have s5 : Same H4 (upd H4 p4 (.lst ((tries x').map V.str))) := same_upd np4
          have ep4 : (upd H4 p4 (.lst ((tries x').map V.str))) p4 = some (.lst ((tries x').map V.str)) := upd_same
          generalize upd H4 p4 (.lst ((tries x').map V.str)) = H5 at s5 ep4
          have sy5 : Same Hy H5 := s1.trans (s2.trans (s3.trans (s4.trans s5)))
          have ef5 := sy5 _ _ efy
          have tl : (tries x').length = 53 := by
            unfold tries
            rw [List.length_cons, List.length_append, List.length_map, List.length_map, let_len]
          refine ⟨_, rfl, .inl ⟨rfl, _, SqL.of' ef5⟩, _, rfl, p4, rfl, ⟨_, SqL.of' ep4⟩, fun D nD => ?_⟩
          refine lc_src (walk_list (xs := (tries x').map V.str)) (tries x') (fun y => if y ∈ ns then none else some (.str y)) (by rw [List.length_map]) (by rw [List.length_map, tl]; decide) nD (fun H6 s6 => SqL.of' (s6 _ _ ep4)) (fun j y z H6 H7 Kt Kn hj s6 hy hk hn => ?_) (fun H6 s6 e6 => ?_)
          · obtain ⟨rfl, hy⟩ := hy
            rw [List.getElem?_map, hj] at hy
            cases (show V.str y = z from Option.some.inj hy)
            refine ⟨rfl, _, rfl, _, rfl, fo, _, rfl, .inl (SqL.of' (s6 _ _ ef5)), rfl, flat_strs _, _, rfl, ?_⟩
            rw [if_pos rfl, inV_str]
            by_cases hm : y ∈ ns
            · exact iteNS hm (hn _ (if_pos hm) (Same.refl _))
            · exact iteNN hm ⟨_, rfl, hk _ _ (if_neg hm) (Same.refl _)⟩
          · have ef : (tries x').filterMap (fun y => if y ∈ ns then none else some (V.str y)) = ((tries x').filter fun y => !decide (y ∈ ns)).map V.str := by
              generalize tries x' = l
              induction l with
              | nil => rfl
              | cons y l ih =>
                rw [List.filterMap_cons, List.filter_cons, ih]
                by_cases hm : y ∈ ns <;> simp [hm]
            rw [ef] at e6
            obtain ⟨y0, hy0, hy1⟩ := tries_new x' (found := ns) (by omega)
            cases hfl : (tries x').filter fun y => !decide (y ∈ ns) with
            | nil =>
              have : y0 ∈ (tries x').filter fun y => !decide (y ∈ ns) := List.mem_filter.mpr ⟨hy0, by simp [hy1]⟩
              rw [hfl] at this; cases this
            | cons y1 r =>
              rw [hfl] at e6
              have hy1m : y1 ∈ (tries x').filter fun y => !decide (y ∈ ns) := by rw [hfl]; exact List.mem_cons_self ..
              obtain ⟨t1, t2⟩ := List.mem_filter.mp hy1m
              have t2 : ¬ y1 ∈ ns := by simpa using t2
              have ef6 := s6 _ _ ef5
              refine ⟨D, _, 0, .str y1, rfl, rfl, SqL.of' e6, atI_zero _ _, fo, _, _, rfl, rfl, ef6, by rw [List.length_map]; exact small1000 (by omega), ?_⟩
              have sy6 := sy5.trans s6
              refine ⟨ns ++ [y1], _, _, _, _, _, _, rfl, (dry.next sy6).putNew nfo, (sty.same sy6).put fS fG fM, by rw [upd_same, List.map_append]; rfl, by rw [List.length_append, len]; rfl, ?_, fun z hz => ?_⟩
              · rw [List.nodup_append]
                refine ⟨nd, by simp, fun a ha b hb e => ?_⟩
                have : b = y1 := by simpa using hb
                subst this; subst e
                exact t2 ha
              · rcases List.mem_append.mp hz with hz | hz
                · exact nm z hz
                · have : z = y1 := by simpa using hz
                  subst this
                  exact tries_nm hx' _ t1
    · rintro σ Hk ⟨ns, v4, v5, v6, v7, v8, v9, rfl, dr, st, efo, len, nd, nm⟩
      exact ⟨_, rfl, q _ fo ns dr nfo (st.less (by omega)) efo len nd nm⟩
end
end K66
set_option maxHeartbeats 4000000
/-! The halls' names. -/
namespace K66
open PySem PySem.Spec PyProof.Rows L2 PpSet
def hn (y k : Nat) : Str := sg1 (97 + k * y % 26) ++ sg1 (97 + k % 5) ++ sg1 (97 + k / 26)
theorem let_at : ∀ j, j < 26 → LET.cps.toList[j]? = some (97 + j) := by decide
theorem let_mem : ∀ j, j < 26 → isLet (97 + j) := by decide
theorem hn_nodup : ∀ y ∈ [1, 3, 7, 9], ((List.range 40).map (hn y)).Nodup := by
  intro y hy
  refine List.Pairwise.map _ (fun a b (hab : a < b ∧ b < 40) e => ?_) (R := fun a b => a < b ∧ b < 40) ?_
  · have h := congrArg (fun s : Str => s.cps.toList) e
    unfold hn at h
    simp only [app_cps] at h
    have h : [97 + a * y % 26, 97 + a % 5, 97 + a / 26] = [97 + b * y % 26, 97 + b % 5, 97 + b / 26] := h
    simp only [List.cons.injEq, and_true] at h
    obtain ⟨h1, h2, h3⟩ := h
    simp only [List.mem_cons, List.not_mem_nil, or_false] at hy
    rcases hy with rfl | rfl | rfl | rfl <;> omega
  · rw [List.pairwise_iff_getElem]
    intro i j hi hj hij
    rw [List.length_range] at hj
    simp
    omega
theorem hn_nm {y k : Nat} (hk : k < 40) : IsNm (hn y k) := by
  unfold hn
  refine nm_of (by rw [app_len, app_len]; show 1 ≤ 1 + 1 + 1; omega) (by rw [app_len, app_len]; show 1 + 1 + 1 ≤ 8; omega) fun c hc => ?_
  simp only [app_cps] at hc
  have hc : c ∈ [97 + k * y % 26, 97 + k % 5, 97 + k / 26] := hc
  simp only [List.mem_cons, List.not_mem_nil, or_false] at hc
  rcases hc with rfl | rfl | rfl
  · exact let_mem _ (Nat.mod_lt _ (by decide))
  · exact let_mem _ (by omega)
  · exact let_mem _ (by omega)
section
variable {P : Program} {w : World} {K : PySem.W.Frag} {mg : Str → Option Value} {base : Heap}
def spHN : Sp := fun vs H Q _ => ∃ (S g sm : Addr) (m n : Nat), vs = [.ref S, .int (m : Int)] ∧ StoreAt H S g sm (n + 303) ∧ 1 ≤ m ∧ m ≤ 40 ∧
  ∀ H' p (ns : List Str), Drew S g H H' → H p = none → StoreAt H' S g sm n → H' p = some (.lst (ns.map V.str)) → ns.length = m → ns.Nodup → (∀ x ∈ ns, IsNm x) → Q (.ref p) H'
abbrev N52 : List Str := ["store", "many", "letters", "by", "k"]
theorem sc52 : FnScope N52 ["store", "many"] (defScope (top 52)) := ⟨rfl, rfl, rfl, by decide +kernel, rfl, by decide +kernel, by decide +kernel⟩
theorem c_hall_names (T : Tx K mg) : Cal P w K mg base 4 "_law_hall_names" spHN := by
  refine cal_of T.d52 sc52 (fun _ _ _ _ _ _ us hl => match us, hl with | [_, _], _ => rfl) (fun vs H Q E h => ?_) (fun f cdv A outer s H vs Q E hr h => ?_)
  · obtain ⟨_, _, _, _, _, rfl, _⟩ := h; rfl
  · obtain ⟨S, g, sm, m, n, rfl, hS, hm1, hm, q⟩ := h
    have C := c_draw (P := P) (w := w) (base := base) T
    have C2 := c_names (P := P) (w := w) (base := base) T
    refine ⟨_, pss_cons (ps_set (i := 2) sc52.nd rfl (Or.inr rfl) pe_str)
      (pss_cons (ps_if (pt_cmpR op_lt (pv 1) pe_int (nomark _)) (pss_one (ps_ret (pc C2 hr (pa_cons (pv 0) (pa_cons (pv 1) pa_nil))))) pss_nil)
      (pss_cons (ps_set (i := 3) sc52.nd rfl (Or.inr rfl) (pe_ix ix_list (pe_lst (pa_cons pe_int (pa_cons pe_int (pa_cons pe_int (pa_cons pe_int pa_nil))))) (pc C hr (pa_cons (pv 0) (pa_cons pe_int pa_nil))) (fun _ _ => rfl)))
      (pss_one (ps_ret (pe_lc (own := [("k", 4)]) (g := gName 4) (tt := tYes) rfl sc52.nd (pi_range1 rfl (T.fr "range" (by decide +kernel)) (pa_cons (pv 1) pa_nil)) (blkOk_by (N := N52) (sc := defScope (top 52)) (by decide +kernel)) (fun _ _ _ _ _ => pg_name (i := 4) sc52.nd rfl (Or.inl rfl)) (fun _ _ _ _ _ => pts_nil)
        (fun _ _ _ _ _ => pe_op op_add_str (pe_op op_add_str (pe_ix ix_str (pv 2) (pe_op op_mod (pe_op op_mul (pv 4) (pv 3)) pe_int) (fun _ _ => rfl)) (pe_ix ix_str (pv 2) (pe_op op_mod (pv 4) pe_int) (fun _ _ => rfl))) (pe_ix ix_str (pv 2) (pe_op op_fdiv (pv 4) pe_int) (fun _ _ => rfl)))))))), ?_⟩
    refine ⟨_, rfl, _, _, rfl, rfl, _, rfl, ?_⟩
    by_cases h9 : (m : Int) < 9
    · exact iteY h9 ⟨_, rfl, _, rfl, S, g, sm, m, n, rfl, hS.less (by omega), by omega, fun H1 p ns dr np st e l nd nm => q H1 p ns dr np st e l nd nm⟩
    refine iteN h9 ?_
    refine ⟨by show 4 ≤ sizeLine; decide, fun p np => ?_⟩
    have s1 : Same H (upd H p (.lst [.int 1, .int 3, .int 7, .int 9])) := same_upd np
    have e1 : (upd H p (.lst [.int 1, .int 3, .int 7, .int 9])) p = some (.lst [.int 1, .int 3, .int 7, .int 9]) := upd_same
    generalize upd H p (.lst [.int 1, .int 3, .int 7, .int 9]) = H1 at s1 e1
    refine ⟨_, rfl, S, g, sm, 4, n, rfl, (hS.same s1).less (by omega), ⟨by decide, .inl (by decide)⟩, fun H2 d dr st d0 d4 => ?_⟩
    obtain ⟨v, hv, hvm⟩ := atI_in (xs := [V.int 1, V.int 3, V.int 7, V.int 9]) (i := d) d0 (by show d < 4; exact d4)
    have e2 := dr.keep _ _ (hS.newS np) (hS.newG np) e1
    obtain ⟨y, hy, rfl⟩ : ∃ y : Nat, y ∈ [1, 3, 7, 9] ∧ v = V.int (y : Nat) := by
      simp only [List.mem_cons, List.not_mem_nil, or_false] at hvm
      rcases hvm with rfl | rfl | rfl | rfl
      · exact ⟨1, by decide, rfl⟩
      · exact ⟨3, by decide, rfl⟩
      · exact ⟨7, by decide, rfl⟩
      · exact ⟨9, by decide, rfl⟩
    have hy9 : y ≤ 9 := by
      simp only [List.mem_cons, List.not_mem_nil, or_false] at hy
      omega
    refine ⟨p, _, d, _, rfl, rfl, SqL.of' e2, hv, ?_⟩
    refine ⟨_, rfl, (m : Int), rfl, by omega, by omega, fun D nD => ?_⟩
    refine lc_map (walk_range (lo := 0) (n := m)) (List.range m) (fun k => .str (hn y k)) (by rw [List.length_range]) (small40 hm) nD (fun _ _ => True.intro) (fun i k z Ha Hb Kt hk sa hz hkt => ?_) (fun H3 s3 e3 => ?_)
    · obtain ⟨rfl, rfl⟩ := hz
      have hkm : k < m ∧ i = k := by
        obtain ⟨h1, h2⟩ := List.getElem?_eq_some_iff.mp hk
        rw [List.length_range] at h1
        rw [List.getElem_range] at h2
        exact ⟨by omega, h2⟩
      obtain ⟨hk1, rfl⟩ := hkm
      refine ⟨rfl, ?_⟩
      have at1 : ∀ (z : Int) (j : Nat), z = (j : Int) → j < 26 → atI LET.cps.toList z = some (97 + j) := fun z j e hj => by rw [e]; exact atI_nat (let_at j hj)
      refine ⟨_, rfl, _, rfl, _, rfl, _, _, rfl, rfl, .inr ⟨by omega, by omega⟩, _, 26, rfl, rfl, (by show (0 : Int) < 26; decide), LET, _, _, rfl, rfl, by decide, at1 _ (i * y % 26) ?_ (Nat.mod_lt _ (by decide)), ?_⟩
      · show (0 + (i : Int)) * (y : Int) % 26 = _
        rw [Int.zero_add]
        simp
      refine ⟨_, rfl, _, rfl, _, 5, rfl, rfl, (by show (0 : Int) < 5; decide), LET, _, _, rfl, rfl, by decide, at1 _ (i % 5) ?_ (by omega), _, _, rfl, rfl, by show 1 + 1 ≤ sizeLine; decide, ?_⟩
      · show (0 + (i : Int)) % 5 = _
        omega
      refine ⟨_, rfl, _, rfl, _, 26, rfl, rfl, ⟨by decide, by decide⟩, LET, _, _, rfl, rfl, by decide, at1 _ (i / 26) ?_ (by omega), _, _, rfl, rfl, by show 1 + 1 + 1 ≤ sizeLine; decide, ?_⟩
      · show (0 + (i : Int)) / 26 = _
        omega
      exact hkt _ (Same.refl _)
    · have e4 : (List.range m).map (fun k => V.str (hn y k)) = ((List.range m).map (hn y)).map V.str := by rw [List.map_map]; rfl
      rw [e4] at e3
      have sub : ((List.range m).map (hn y)).Nodup := by
        have e : (List.range m).map (hn y) = ((List.range 40).map (hn y)).take m := by
          rw [← List.map_take, List.take_range, Nat.min_eq_left hm]
        rw [e]
        exact List.Nodup.sublist (List.take_sublist _ _) (hn_nodup y hy)
      have drn : Drew S g H H2 := (Drew.of s1).trans dr
      refine q H3 D _ (drn.next s3) (drn.free D nD) (st.same s3) e3 (by rw [List.length_map, List.length_range]) sub fun x hx => ?_
      obtain ⟨k, hk, rfl⟩ := List.mem_map.mp hx
      exact hn_nm (by have := List.mem_range.mp hk; omega)
end
end K66
set_option maxHeartbeats 4000000
/-! The halls drawn. -/
namespace K66
open PySem PySem.Spec PyProof.Rows L2 PpSet
def rkOf (ns : List Str) (s : Str) : Nat := ns.findIdx fun y => decide (y = s)
theorem nodup_at {α : Type} {N : List α} (hN : N.Nodup) {i j : Nat} {x : α} (a : N[i]? = some x) (b : N[j]? = some x) : i = j := by
  obtain ⟨h1, e1⟩ := List.getElem?_eq_some_iff.mp a
  obtain ⟨h2, e2⟩ := List.getElem?_eq_some_iff.mp b
  exact (List.getElem_inj hN).mp (e1.trans e2.symm)
theorem rkOf_at {ns : List Str} (nd : ns.Nodup) {k : Nat} {s : Str} (h : ns[k]? = some s) : rkOf ns s = k := by
  have hk := (List.getElem?_eq_some_iff.mp h).1
  have hlt : rkOf ns s < ns.length := List.findIdx_lt_length_of_exists ⟨s, List.mem_of_getElem? h, by simp⟩
  have h2 : decide (ns[rkOf ns s] = s) = true := List.findIdx_getElem (w := hlt)
  exact nodup_at nd (List.getElem?_eq_some_iff.mpr ⟨hlt, of_decide_eq_true h2⟩) h
/-- the first i halls stand -/
structure Grow (ns : List Str) (i : Nat) (T : Halls) : Prop where
  nms : T.map (·.1) = ns.take i
  up : ∀ x u, (x, some u) ∈ T → ∃ k j : Nat, ns[k]? = some x ∧ ns[j]? = some u ∧ j < k
  non : ∀ x, (x, none) ∈ T → ns[0]? = some x
  root : 0 < i → ∃ x, ns[0]? = some x ∧ (x, none) ∈ T
theorem grow0 (ns : List Str) : Grow ns 0 [] := ⟨by simp, fun _ _ h => (by cases h), fun _ h => (by cases h), fun h => absurd h (by decide)⟩
theorem Grow.step {ns : List Str} {i : Nat} {T : Halls} (h : Grow ns i T) {x : Str} {o : Option Str} (hx : ns[i]? = some x) (h0 : i = 0 → o = none) (h1 : 0 < i → ∃ (j : Nat) (u : Str), o = some u ∧ ns[j]? = some u ∧ j < i) : Grow ns (i + 1) (T ++ [(x, o)]) where
  nms := by rw [List.map_append, h.nms, List.take_add_one, hx]; rfl
  up := fun y u hy => by
    rcases List.mem_append.mp hy with hy | hy
    · exact h.up y u hy
    · have e : (y, some u) = (x, o) := by simpa using hy
      cases e
      have hi : 0 < i := by
        rcases Nat.eq_zero_or_pos i with z | z
        · exact absurd (h0 z) (by simp)
        · exact z
      obtain ⟨j, v, e, h2, h3⟩ := h1 hi
      cases e
      exact ⟨i, j, hx, h2, h3⟩
  non := fun y hy => by
    rcases List.mem_append.mp hy with hy | hy
    · exact h.non y hy
    · have e : (y, none) = (x, o) := by simpa using hy
      cases e
      rcases Nat.eq_zero_or_pos i with z | z
      · subst z; exact hx
      · obtain ⟨j, v, e, _⟩ := h1 z
        cases e
  root := fun _ => by
    rcases Nat.eq_zero_or_pos i with z | z
    · have := h0 z
      subst z; subst this
      exact ⟨x, hx, by simp⟩
    · obtain ⟨y, h2, h3⟩ := h.root z
      exact ⟨y, h2, List.mem_append.mpr (.inl h3)⟩
theorem Grow.tree {ns : List Str} {T : Halls} (h : Grow ns ns.length T) (nd : ns.Nodup) (h0 : 0 < ns.length) : Tree T (rkOf ns) where
  nd := by rw [h.nms, List.take_length]; exact nd
  root := by
    obtain ⟨x, h1, h2⟩ := h.root h0
    exact ⟨x, h2, fun y hy => by have := h.non y hy; rw [h1] at this; exact (Option.some.inj this).symm⟩
  up := fun x u hx => by
    obtain ⟨k, j, h1, h2, h3⟩ := h.up x u hx
    refine ⟨by rw [h.nms, List.take_length]; exact List.mem_of_getElem? h2, ?_⟩
    rw [rkOf_at nd h1, rkOf_at nd h2]
    exact h3
theorem tree_perm {T T' : Halls} {rk : Str → Nat} (t : Tree T rk) (p : T'.Perm T) : Tree T' rk where
  nd := (p.map (·.1)).nodup_iff.mpr t.nd
  root := by
    obtain ⟨r, h1, h2⟩ := t.root
    exact ⟨r, p.mem_iff.mpr h1, fun x hx => h2 x (p.mem_iff.mp hx)⟩
  up := fun x u hx => by
    obtain ⟨h1, h2⟩ := t.up x u (p.mem_iff.mp hx)
    exact ⟨(p.map (·.1)).mem_iff.mpr h1, h2⟩
theorem Good.perm {T T' : Halls} {rk : Str → Nat} (G : Good T rk) (p : T'.Perm T) : Good T' rk := ⟨tree_perm G.t p, fun x hx => G.nm x ((p.map (·.1)).mem_iff.mp hx), by rw [p.length_eq]; exact G.le⟩
theorem Paired.rev {α β : Type} {R : α → β → Prop} : ∀ {l : List α} {l' : List β}, Paired R l l' → Paired R l.reverse l'.reverse
  | _, _, .nil => .nil
  | _, _, .cons h t => by rw [List.reverse_cons, List.reverse_cons]; exact Paired.snoc (Paired.rev t) h
section
variable {P : Program} {w : World} {K : PySem.W.Frag} {mg : Str → Option Value} {base : Heap}
def spHalls : Sp := fun vs H Q _ => ∃ (S g sm : Addr) (m n : Nat), vs = [.ref S, .int (m : Int)] ∧ StoreAt H S g sm (n + 600) ∧ 2 ≤ m ∧ m ≤ 40 ∧
  ∀ H' p (T : Halls) (rk : Str → Nat), Drew S g H H' → H p = none → StoreAt H' S g sm n → H' p = some (.dK (tab optV T)) → Good T rk → Q (.ref p) H'
abbrev N53 : List Str := ["store", "most", "many", "names", "shape", "pairs", "k", "name", "at"]
theorem sc53 : FnScope N53 ["store", "most"] (defScope (top 53)) := ⟨rfl, rfl, rfl, by decide +kernel, rfl, by decide +kernel, by decide +kernel⟩
theorem c_halls (T : Tx K mg) : Cal P w K mg base 5 "_law_halls" spHalls := by
  refine cal_of T.d53 sc53 (fun _ _ _ _ _ _ us hl => match us, hl with | [_, _], _ => rfl) (fun vs H Q E h => ?_) (fun f cdv A outer s H vs Q E hr h => ?_)
  · obtain ⟨_, _, _, _, _, rfl, _⟩ := h; rfl
  · obtain ⟨S, g, sm, m, n, rfl, hS, hm2, hm, q⟩ := h
    have C := c_draw (P := P) (w := w) (base := base) T
    have C2 := c_hall_names (P := P) (w := w) (base := base) T
    refine ⟨_, pss_cons (ps_set (i := 2) sc53.nd rfl (Or.inl rfl) (pe_ix ix_list (pe_lst (pa_cons pe_int (pa_cons pe_int (pa_cons (pe_op op_add pe_int (pc C hr (pa_cons (pv 0) (pa_cons pe_int pa_nil)))) (pa_cons (pe_op op_add pe_int (pc C hr (pa_cons (pv 0) (pa_cons (pv 1) pa_nil)))) (pa_cons (pv 1) pa_nil)))))) (pc C hr (pa_cons (pv 0) (pa_cons pe_int pa_nil))) (fun _ _ => rfl)))
      (pss_cons (ps_set (i := 3) sc53.nd rfl (Or.inl rfl) (pc C2 hr (pa_cons (pv 0) (pa_cons (pv 2) pa_nil))))
      (pss_cons (ps_set (i := 4) sc53.nd rfl (Or.inl rfl) (pc C hr (pa_cons (pv 0) (pa_cons pe_int pa_nil))))
      (pss_cons (ps_set (i := 5) sc53.nd rfl (Or.inl rfl) (pe_lst pa_nil))
      (pss_cons (ps_for PassesOwn.never rfl (pi_enum rfl (T.fr "enumerate" (by decide +kernel)) (pa_cons (pv 3) pa_nil)) (pg_tup rfl (pgs_cons (pg_name (i := 6) sc53.nd rfl (.inl rfl)) (pgs_cons (pg_name (i := 7) sc53.nd rfl (.inl rfl)) pgs_nil)))
        (pss_cons (ps_set (i := 8) sc53.nd rfl (Or.inl rfl) (pe_ix ix_list (pe_lst (pa_cons (pB (call_max2 rfl) T (pa_cons pe_int (pa_cons (pe_op op_sub (pv 6) pe_int) pa_nil))) (pa_cons pe_int (pa_cons (pB (call_max2 rfl) T (pa_cons pe_int (pa_cons (pe_op op_sub (pe_op op_sub (pv 6) pe_int) (pc C hr (pa_cons (pv 0) (pa_cons pe_int pa_nil)))) pa_nil)))
            (pa_cons (pc C hr (pa_cons (pv 0) (pa_cons (pB (call_max2 rfl) T (pa_cons pe_int (pa_cons (pv 6) pa_nil))) pa_nil))) pa_nil))))) (pv 4) (fun _ _ => rfl)))
        (pss_one (ps_expr (pe_bm PySem.F.plainAttrs_list PySem.F.slot_list_append PySem.F.type_list_append mt_append (pv 5) (pa_cons (pe_tup (pa_cons (pv 7) (pa_cons (pe_ifExp (pt_cmpR op_eq (pv 6) pe_int (nomark _)) pe_non (pe_ix ix_list (pv 3) (pv 8) (fun _ _ => rfl))) pa_nil))) pa_nil))))))
      (pss_one (ps_ret (pT (call_dictP rfl) T (pa_cons (pe_ifExp (pt_cmpR op_eq (pc C hr (pa_cons (pv 0) (pa_cons pe_int pa_nil))) pe_int (nomark _)) (pv 5) (pe_revL (pv 5))) pa_nil)))))))), ?_⟩
    have nS : ∀ {p : Addr}, H p = none → p ≠ S := hS.newS
    have nG : ∀ {p : Addr}, H p = none → p ≠ g := hS.newG
    -- many
    refine ⟨_, rfl, S, g, sm, 6, n + 597, rfl, hS, ⟨by decide, .inl (by decide)⟩, fun H1 d1 dr1 st1 d10 d16 => ⟨_, _, rfl, rfl, ?_⟩⟩
    refine ⟨_, rfl, _, rfl, S, g, sm, m, n + 594, rfl, st1, ⟨by omega, .inl (by omega)⟩, fun H2 d2 dr2 st2 d20 d2m => ⟨_, _, rfl, rfl, ?_⟩⟩
    have dr12 := dr1.trans dr2
    refine ⟨_, rfl, by show 5 ≤ sizeLine; decide, fun p0 np0 => ?_⟩
    have s3 : Same H2 (upd H2 p0 (.lst [.int 1, .int 2, .int (3 + d1), .int (1 + d2), .int (m : Int)])) := same_upd np0
    have e3 : (upd H2 p0 (.lst [.int 1, .int 2, .int (3 + d1), .int (1 + d2), .int (m : Int)])) p0 = some (.lst [.int 1, .int 2, .int (3 + d1), .int (1 + d2), .int (m : Int)]) := upd_same
    have dr3 := dr12.next s3
    have st3 := st2.same s3
    have np0H := dr12.free _ np0
    show tCall _ _ _ _ _ (upd H2 p0 (.lst [.int 1, .int 2, .int (3 + d1), .int (1 + d2), .int (m : Int)])) _
    generalize upd H2 p0 (.lst [.int 1, .int 2, .int (3 + d1), .int (1 + d2), .int (m : Int)]) = H3 at s3 e3 dr3 st3
    refine ⟨_, rfl, S, g, sm, 5, n + 591, rfl, st3, ⟨by decide, .inl (by decide)⟩, fun H4 d4 dr4 st4 d40 d45 => ?_⟩
    obtain ⟨v, hv, hvm⟩ := atI_in (xs := [V.int 1, V.int 2, V.int (3 + d1), V.int (1 + d2), V.int (m : Int)]) (i := d4) d40 (by show d4 < 5; exact d45)
    obtain ⟨M, hM1, hM40, rfl⟩ : ∃ M : Nat, 1 ≤ M ∧ M ≤ 40 ∧ v = V.int (M : Int) := by
      simp only [List.mem_cons, List.not_mem_nil, or_false] at hvm
      rcases hvm with rfl | rfl | rfl | rfl | rfl
      · exact ⟨1, by decide, by decide, rfl⟩
      · exact ⟨2, by decide, by decide, rfl⟩
      · exact ⟨(3 + d1).toNat, by omega, by omega, by rw [Int.toNat_of_nonneg (by omega)]⟩
      · exact ⟨(1 + d2).toNat, by omega, by omega, by rw [Int.toNat_of_nonneg (by omega)]⟩
      · exact ⟨m, by omega, hm, rfl⟩
    refine ⟨p0, _, d4, _, rfl, rfl, SqL.of' (dr4.keep _ _ (nS np0H) (nG np0H) e3), hv, ?_⟩
    have dr14 := dr3.trans dr4
    refine ⟨_, rfl, _, rfl, S, g, sm, M, n + 288, rfl, st4.less (by omega), hM1, hM40, fun H5 np ns dr5 hnp st5 e5 nl nd nm => ?_⟩
    have dr15 := dr14.trans dr5
    have npH := dr14.free _ hnp
    refine ⟨_, rfl, S, g, sm, 4, n + 285, rfl, st5, ⟨by decide, .inl (by decide)⟩, fun H6 sh dr6 st6 sh0 sh4 => ?_⟩
    have dr16 := dr15.trans dr6
    have e6 := dr6.keep _ _ (nS npH) (nG npH) e5
    refine ⟨Nat.zero_le _, fun pp npp => ?_⟩
    have nppH := dr16.free _ npp
    have s7 : Same H6 (upd H6 pp (.lst [])) := same_upd npp
    have nnp : np ≠ pp := ne_of_none e6 npp
    refine ⟨_, rfl, np, _, rfl, SqL.of' (s7 _ _ e6), ?_⟩
    refine for_it (walk_enum (xs := ns.map V.str)) (fun i σ Hk => ∃ (ps : List Addr) (Tk : Halls) (v6 v7 v8 : Option V), σ = [some (.ref S), some (.int (m : Int)), some (.int (M : Int)), some (.ref np), some (.int sh), some (.ref pp), v6, v7, v8] ∧ Drew S g H Hk ∧ StoreAt Hk S g sm (n + 45 + 6 * (40 - i)) ∧
        Hk np = some (.lst (ns.map V.str)) ∧ Hk pp = some (.lst (ps.map V.ref)) ∧ Paired (fun p q => Hk p = some (.tup [.str q.1, optV q.2])) ps Tk ∧ Grow ns i Tk)
      ⟨[], [], _, _, _, rfl, dr16.next s7, (st6.less (by omega)).same s7, s7 _ _ e6, upd_same, .nil, grow0 ns⟩ (fun i σ Hk _ ⟨_, _, _, _, _, _, _, _, h, _⟩ => SqL.of' h) ?_ ?_
    · rintro i y σ Hk H' hi ⟨ps, Tk, v6, v7, v8, rfl, dr, st, enp, epp, pr, gr⟩ hy
      rw [List.length_map] at hi
      obtain ⟨tp, y1, y2, rfl, nt, rfl, g1, g2⟩ := hy
      have hni : ns[i]? = some ns[i] := List.getElem?_eq_getElem hi
      generalize ns[i] = x at hni
      simp only [List.getElem?_map, hni] at g2
      cases (show V.int (i : Nat) = y1 from Option.some.inj g1)
      cases (show V.str x = y2 from Option.some.inj g2)
      have si : Same Hk (upd Hk tp (.tup [.int (i : Nat), .str x])) := same_upd nt
      have ei : (upd Hk tp (.tup [.int (i : Nat), .str x])) tp = some (.tup [.int (i : Nat), .str x]) := upd_same
      refine ⟨tp, _, rfl, SqT.of' ei, rfl, _, _, rfl, _, _, rfl, rfl, ?_⟩
      have dri := dr.next si
      have sti := st.same si
      generalize upd Hk tp (.tup [.int (i : Nat), .str x]) = Hi at si dri sti
      have b1 : n + 45 + 6 * (40 - i) = n + 45 + 6 * (40 - (i + 1)) + 3 + 3 := by omega
      rw [b1] at sti
      generalize n + 45 + 6 * (40 - (i + 1)) = nn at sti
      refine ⟨_, rfl, _, 1, rfl, rfl, 0, _, rfl, ?_⟩
      refine ⟨_, rfl, _, 1, rfl, rfl, _, rfl, S, g, sm, 3, nn + 3, rfl, sti, ⟨by decide, .inl (by decide)⟩, fun Ha da dra sta da0 da3 => ⟨_, _, rfl, rfl, 0, _, rfl, ?_⟩⟩
      have hmx : (1 : Int) ≤ (if (i : Int) > 1 then (i : Int) else 1) ∧ (if (i : Int) > 1 then (i : Int) else 1) ≤ 1000000 ∧ (0 < i → (if (i : Int) > 1 then (i : Int) else 1) ≤ i) := by
        split <;> omega
      refine ⟨_, rfl, _, rfl, 1, _, rfl, S, g, sm, _, nn, rfl, sta, ⟨hmx.1, .inl hmx.2.1⟩, fun Hb db drb stb db0 dbm => ?_⟩
      refine ⟨by show 4 ≤ sizeLine; decide, fun pa npa => ?_⟩
      have drab := (dri.trans dra).trans drb
      have npaH := drab.free _ npa
      refine ⟨_, rfl, ?_⟩
      generalize hl4 : ([V.int (if (i : Int) - 1 > 0 then (i : Int) - 1 else 0), .int 0, .int (if (i : Int) - 1 - da > 0 then (i : Int) - 1 - da else 0), .int db] : List V) = l4
      have sc : Same Hb (upd Hb pa (.lst l4)) := same_upd npa
      have ec : (upd Hb pa (.lst l4)) pa = some (.lst l4) := upd_same
      obtain ⟨v, hv, hvm⟩ := atI_in (xs := l4) (i := sh) sh0 (by rw [← hl4]; show sh < 4; exact sh4)
      obtain ⟨z, rfl, hz0, hz1⟩ : ∃ z : Int, v = V.int z ∧ 0 ≤ z ∧ (0 < i → z < i) := by
        rw [← hl4] at hvm
        simp only [List.mem_cons, List.not_mem_nil, or_false] at hvm
        rcases hvm with rfl | rfl | rfl | rfl
        · exact ⟨_, rfl, by split <;> omega, fun _ => by split <;> omega⟩
        · exact ⟨_, rfl, by decide, fun _ => by omega⟩
        · exact ⟨_, rfl, by split <;> omega, fun _ => by split <;> omega⟩
        · refine ⟨_, rfl, db0, fun h => ?_⟩
          have := hmx.2.2 h
          omega
      refine ⟨pa, _, sh, .int z, rfl, rfl, SqL.of' ec, hv, ?_⟩
      have drc := drab.next sc
      have stc := stb.same sc
      have dic : Drew S g Hi (upd Hb pa (.lst l4)) := (dra.trans drb).next sc
      generalize upd Hb pa (.lst l4) = Hc at sc ec drc stc dic
      have enpc := dic.keep _ _ (nS npH) (nG npH) (si _ _ enp)
      have eppc := dic.keep _ _ (nS nppH) (nG nppH) (si _ _ epp)
      -- the pair put behind
      refine ⟨_, rfl, .inl ⟨rfl, _, SqL.of' eppc⟩, _, rfl, ?_⟩
      have hps : ps.length = i := by
        have e1 := pr.length
        have e2 := congrArg List.length gr.nms
        rw [List.length_map, List.length_take] at e2
        omega
      have fin : ∀ (o : Option Str) (tq : Addr), Hc tq = none → (i = 0 → o = none) → (0 < i → ∃ (j : Nat) (u : Str), o = some u ∧ ns[j]? = some u ∧ j < i) →
          ∃ (ps' : List Addr) (Tk' : Halls), ps.map V.ref ++ [.ref tq] = ps'.map V.ref ∧ Drew S g H (upd (upd Hc tq (.tup [.str x, optV o])) pp (.lst (ps'.map V.ref))) ∧ StoreAt (upd (upd Hc tq (.tup [.str x, optV o])) pp (.lst (ps'.map V.ref))) S g sm nn ∧
            (upd (upd Hc tq (.tup [.str x, optV o])) pp (.lst (ps'.map V.ref))) np = some (.lst (ns.map V.str)) ∧ Paired (fun p q => (upd (upd Hc tq (.tup [.str x, optV o])) pp (.lst (ps'.map V.ref))) p = some (.tup [.str q.1, optV q.2])) ps' Tk' ∧ Grow ns (i + 1) Tk' := fun o tq ntq h0 h1 => by
        have ntqH := drc.free _ ntq
        refine ⟨ps ++ [tq], Tk ++ [(x, o)], by rw [List.map_append]; rfl, (drc.putNew ntqH).putNew nppH, (stc.put (nS ntqH) (nG ntqH) (hS.newM ntqH)).put (nS nppH) (nG nppH) (hS.newM nppH), ?_, ?_, gr.step hni h0 h1⟩
        · rw [upd_ne nnp, upd_ne (ne_of_none enpc ntq)]; exact enpc
        · have ntp : tq ≠ pp := fun e => by rw [e, eppc] at ntq; cases ntq
          refine Paired.snoc (L2.Paired.mapP pr fun p q hp => ?_) ?_
          · have hS' : p ≠ S := fun e => by
              obtain ⟨⟨_, _, _, _, hh, _⟩, _⟩ := st
              rw [e, hh] at hp; cases hp
            have hG' : p ≠ g := fun e => by
              obtain ⟨⟨_, _, _, _, _, hh, _⟩, _⟩ := st
              rw [e, hh] at hp; cases hp
            have hpc := dic.keep _ _ hS' hG' (si _ _ hp)
            have h1 : p ≠ tq := ne_of_none hpc ntq
            have h2 : p ≠ pp := fun e => by rw [e, epp] at hp; cases hp
            rw [upd_ne h2, upd_ne h1]; exact hpc
          · rw [upd_ne ntp]; exact upd_same
      refine ⟨_, rfl, rfl, _, rfl, ?_⟩
      by_cases hi0 : i = 0
      · subst hi0
        refine iteT ?_
        refine ⟨by show 2 ≤ sizeLine; decide, fun tq ntq => ?_⟩
        obtain ⟨ps', Tk', e1, f1, f2, f3, f4, f5⟩ := fin none tq ntq (fun _ => rfl) (fun h => absurd h (by decide))
        refine ⟨pp, ps.map V.ref, _, rfl, rfl, ?_, by rw [List.length_map]; exact small1000 (by omega), ?_⟩
        · rw [upd_ne (ne_of_none eppc ntq)]; exact eppc
        · rw [e1]
          exact ⟨ps', Tk', _, _, _, rfl, f1, f2, f3, upd_same, f4, f5⟩
      · have hne : ¬ V.int (i : Int) = V.int 0 := fun e => by have := V.int.inj e; omega
        rw [decide_eq_false hne]
        have hzi := hz1 (by omega)
        have hnz : ns[z.toNat]? = some (ns[z.toNat]'(by omega)) := List.getElem?_eq_getElem (by omega)
        generalize (ns[z.toNat]'(by omega)) = u at hnz
        have hat : atI (ns.map V.str) z = some (.str u) := by
          have := atI_nat (xs := ns.map V.str) (j := z.toNat) (v := .str u) (by rw [List.getElem?_map, hnz]; rfl)
          rwa [Int.toNat_of_nonneg hz0] at this
        refine iteF ⟨_, rfl, _, rfl, np, _, _, _, rfl, rfl, SqL.of' enpc, hat, ?_⟩
        refine ⟨by show 2 ≤ sizeLine; decide, fun tq ntq => ?_⟩
        obtain ⟨ps', Tk', e1, f1, f2, f3, f4, f5⟩ := fin (some u) tq ntq (fun h => absurd h hi0) (fun _ => ⟨z.toNat, u, rfl, hnz, by omega⟩)
        refine ⟨pp, ps.map V.ref, _, rfl, rfl, ?_, by rw [List.length_map]; exact small1000 (by omega), ?_⟩
        · rw [upd_ne (ne_of_none eppc ntq)]; exact eppc
        · rw [e1]
          exact ⟨ps', Tk', _, _, _, rfl, f1, f2, f3, upd_same, f4, f5⟩
    · rintro σ Hk ⟨ps, Tk, v6, v7, v8, rfl, dr, st, enp, epp, pr, gr⟩
      rw [List.length_map] at gr
      have G : Good Tk (rkOf ns) := ⟨gr.tree nd (by omega), fun x hx => by rw [gr.nms, List.take_length] at hx; exact nm x hx, by
        have := congrArg List.length gr.nms
        rw [List.length_map, List.take_length] at this
        omega⟩
      refine ⟨_, rfl, S, g, sm, 2, n, rfl, st.less (by omega), ⟨by decide, .inl (by decide)⟩, fun He de dre ste de0 de2 => ?_⟩
      have eppe := dre.keep _ _ (nS nppH) (nG nppH) epp
      have pre : Paired (fun p q => He p = some (.tup [.str q.1, optV q.2])) ps Tk := L2.Paired.mapP pr fun p q hp => by
        have hS' : p ≠ S := fun e => by
          obtain ⟨⟨_, _, _, _, hh, _⟩, _⟩ := st
          rw [e, hh] at hp; cases hp
        have hG' : p ≠ g := fun e => by
          obtain ⟨⟨_, _, _, _, _, hh, _⟩, _⟩ := st
          rw [e, hh] at hp; cases hp
        exact dre.keep _ _ hS' hG' hp
      have drf := dr.trans dre
      have ndk := G.t.nd
      have fin : ∀ (Hf : Hp) (l : Addr) (qs : List Addr) (Tq : Halls), Same He Hf → Hf l = some (.lst (qs.map V.ref)) → Paired (fun p q => He p = some (.tup [.str q.1, optV q.2])) qs Tq → Tq.Perm Tk →
          ∃ (a : Addr) (ps : List Addr) (kvs : List (Key × V)), [V.ref l] = [.ref a] ∧ SqL K Hf a (ps.map V.ref) ∧ Paired (fun p kv => SqT K Hf p [kV kv.1, kv.2]) ps kvs ∧ ∀ p, Hf p = none → Q (.ref p) (upd Hf p (.dK (mergeK [] kvs))) := fun Hf l qs Tq sf el pq pm => by
        refine ⟨l, qs, Tq.map fun p => (Sum.inr p.1, optV p.2), rfl, SqL.of' el, Paired.map_right (R := fun p (kv : Key × V) => SqT K Hf p [kV kv.1, kv.2]) (f := fun q : Str × Option Str => (Sum.inr q.1, optV q.2)) (L2.Paired.mapP pq fun p q hp => SqT.of' (sf _ _ hp)), fun p np => ?_⟩
        rw [show mergeK [] (Tq.map fun p => (Sum.inr p.1, optV p.2)) = tab optV ([] ++ Tq) from merge_new (l := []) (f := optV) (by rw [List.nil_append]; exact (pm.map (·.1)).nodup_iff.mpr ndk)]
        have npH := (drf.next sf).free _ np
        exact q _ p Tq (rkOf ns) ((drf.next sf).putNew npH) npH ((ste.same sf).put (nS npH) (nG npH) (hS.newM npH)) upd_same (G.perm pm)
      refine ⟨rfl, _, rfl, ?_⟩
      by_cases hd0 : de = 0
      · subst hd0
        exact iteT ⟨_, rfl, fin He pp ps Tk (Same.refl _) eppe pre (List.Perm.refl _)⟩
      · rw [decide_eq_false fun e => hd0 (V.int.inj e)]
        refine iteF ⟨_, rfl, pp, _, rfl, SqL.of' eppe, fun l nl => ?_⟩
        rw [← List.map_reverse]
        exact fin _ l ps.reverse Tk.reverse (same_upd nl) upd_same (Paired.rev pre) (List.reverse_perm _)
end
end K66
set_option maxHeartbeats 4000000
/-! The weights drawn. -/
namespace K66
open PySem PySem.Spec PyProof.Rows L2 PpSet
section
variable {S g sm a : Addr} {H1 H0 Hk : Hp} {n : Nat} {od : Obj} {kvs : List (Key × V)}
theorem Drew.unlock (he : ∀ b, b ≠ a → H0 b = H1 b) (ha : H1 a = some (.dK kvs)) (d : Drew S g H0 Hk) : Drew S g H1 (res H1 a Hk) := by
  constructor
  · intro b o n1 n2 h
    by_cases e : b = a
    · subst e; rw [res_at]; exact h
    · rw [res_ne e]; exact d.keep b o n1 n2 ((he b e).trans h)
  · intro b h
    by_cases e : b = a
    · subst e; rw [res_at, ha] at h; cases h
    · rw [res_ne e] at h
      rw [← he b e]
      exact d.free b h
theorem StoreAt.no (h : StoreAt H1 S g sm n) (ha : H1 a = some (.dK kvs)) : a ≠ S ∧ a ≠ g ∧ a ≠ sm := by
  obtain ⟨⟨_, _, _, _, h1, h2, h3, _⟩, _⟩ := h
  refine ⟨fun e => ?_, fun e => ?_, fun e => ?_⟩
  · rw [e, h1] at ha; cases ha
  · rw [e, h2] at ha; cases ha
  · rw [e, h3] at ha; cases ha
theorem StoreAt.turn (h : StoreAt H1 S g sm n) (e1 : H0 S = H1 S) (e2 : H0 g = H1 g) (e3 : H0 sm = H1 sm) : StoreAt H0 S g sm n := by
  obtain ⟨⟨gr, sl, bl, st, h1, h2, h3, h⟩, n1, n2, n3⟩ := h
  exact ⟨⟨gr, sl, bl, st, e1.trans h1, e2.trans h2, e3.trans h3, h⟩, n1, n2, n3⟩
end
section
variable {P : Program} {w : World} {K : PySem.W.Frag} {mg : Str → Option Value} {base : Heap}
def spWeights : Sp := fun vs H Q _ => ∃ (S g sm a : Addr) (T : Halls) (n : Nat), vs = [.ref S, .ref a] ∧ StoreAt H S g sm (n + 830) ∧ H a = some (.dK (tab optV T)) ∧ (T.map (·.1)).Nodup ∧ T.length ≤ 40 ∧
  ∀ H' p (W : Wts), Drew S g H H' → H p = none → StoreAt H' S g sm n → H' p = some (.dK (tab V.int W)) → GoodW T W → Q (.ref p) H'
abbrev N54 : List Str := ["store", "rooms", "found", "kind", "name"]
theorem sc54 : FnScope N54 ["store", "rooms"] (defScope (top 54)) := ⟨rfl, rfl, rfl, by decide +kernel, rfl, by decide +kernel, by decide +kernel⟩
theorem c_weights (T : Tx K mg) : Cal P w K mg base 3 "_law_weights" spWeights := by
  refine cal_of T.d54 sc54 (fun _ _ _ _ _ _ us hl => match us, hl with | [_, _], _ => rfl) (fun vs H Q E h => ?_) (fun f cdv A outer s H vs Q E hr h => ?_)
  · obtain ⟨_, _, _, _, _, _, rfl, _⟩ := h; rfl
  · obtain ⟨S, g, sm, a, Ts, n, rfl, hS, hA, nd, hle, q⟩ := h
    have hu := hu_of hr
    have C := c_draw (P := P) (w := w) (base := base) T
    refine ⟨_, pss_cons (ps_set (i := 2) sc54.nd rfl (Or.inl rfl) pe_dnewK)
      (pss_cons (ps_set (i := 3) sc54.nd rfl (Or.inl rfl) (pc C hr (pa_cons (pv 0) (pa_cons pe_int pa_nil))))
      (pss_cons (ps_lk (ps_for PassesOwn.never rfl (pi_keys (pv 1)) (pg_name (i := 4) sc54.nd rfl (Or.inl rfl))
        (pss_one (ps_if (pt_cmpR op_gt (pc C hr (pa_cons (pv 0) (pa_cons pe_int pa_nil))) pe_int (nomark _))
          (pss_one (ps_dput hu (pv 2) (pv 4) (pe_ix ix_list (pe_lst (pa_cons pe_int (pa_cons (pc C hr (pa_cons (pv 0) (pa_cons pe_int pa_nil))) (pa_cons (pe_op op_sub (pe_op op_pow pe_int pe_int) (pc C hr (pa_cons (pv 0) (pa_cons pe_int pa_nil)))) (pa_cons (pc C hr (pa_cons (pv 0) (pa_cons (pe_op op_pow pe_int pe_int) pa_nil))) pa_nil)))))
              (pe_ifExp (pt_cmpR op_gt (pc C hr (pa_cons (pv 0) (pa_cons pe_int pa_nil))) pe_int (nomark _)) (pv 3) (pc C hr (pa_cons (pv 0) (pa_cons pe_int pa_nil)))) (fun _ _ => rfl)) rfl)) pss_nil))))
      (pss_one (ps_ret (pv 2))))), ?_⟩
    have nS : ∀ {p : Addr}, H p = none → p ≠ S := hS.newS
    have nG : ∀ {p : Addr}, H p = none → p ≠ g := hS.newG
    intro fo nfo
    have s1 : Same H (upd H fo (.dK [])) := same_upd nfo
    have e1 : (upd H fo (.dK [])) fo = some (.dK []) := upd_same
    have S1 := hS.same s1
    generalize upd H fo (.dK []) = H1 at s1 e1 S1
    refine ⟨_, rfl, S, g, sm, 4, n + 827, rfl, S1, ⟨by decide, .inl (by decide)⟩, fun H2 kd dr2 st2 kd0 kd4 => ?_⟩
    have fS := nS nfo
    have fG := nG nfo
    have fM := hS.newM nfo
    have e2 := dr2.keep _ _ fS fG e1
    obtain ⟨aS, aG, aM⟩ := hS.no hA
    have a1 := s1 _ _ hA
    have a2 := dr2.keep _ _ aS aG a1
    have af : fo ≠ a := fun e => by rw [e, hA] at nfo; cases nfo
    have dr02 : Drew S g H H2 := (Drew.of s1).trans dr2
    refine lkS_of a _ (Lk.of_rd (.inl a2)) fun od H3 h0 he => ?_
    have st3 : StoreAt H3 S g sm (n + 827) := st2.turn (he _ aS.symm) (he _ aG.symm) (he _ aM.symm)
    have e3 : H3 fo = some (.dK []) := (he _ af).trans e2
    refine ⟨_, rfl, a, od, rfl, .inl ⟨_, h0, ?_⟩⟩
    refine for_it walk_keys (fun i σ Hk => ∃ (v4 : Option V) (W : Wts), σ = [some (.ref S), some (.ref a), some (.ref fo), some (.int kd), v4] ∧ Drew S g H (res H2 a Hk) ∧ Hk a = some (.frz od (.dK (tab optV Ts))) ∧ StoreAt Hk S g sm (n + 20 * (40 - i)) ∧
        Hk fo = some (.dK (tab V.int W)) ∧ (W.map (·.1)).Sublist ((Ts.map (·.1)).take i) ∧ ∀ p ∈ W, 0 ≤ p.2 ∧ p.2 ≤ 1000000000000)
      ⟨_, [], rfl, dr02.trans (Drew.unlock he a2 .refl), h0, st3.less (by omega), e3, by simp, fun _ h => by cases h⟩ (fun i σ Hk _ ⟨_, _, _, _, h, _⟩ => h) ?_ ?_
    · rintro i y σ Hk H' hi ⟨v4, W, rfl, dr, ea, st, ef, sub, hw⟩ hy
      rw [tab_len] at hi
      obtain ⟨rfl, ky, v, hv, rfl⟩ := hy
      have hTi : Ts[i]? = some Ts[i] := List.getElem?_eq_getElem hi
      generalize Ts[i] = pr at hTi
      obtain ⟨x, o⟩ := pr
      rw [tab_at, hTi] at hv
      cases (show (Sum.inr x, optV o) = (ky, v) from Option.some.inj hv)
      have b1 : n + 20 * (40 - i) = n + 20 * (40 - (i + 1)) + 20 := by omega
      rw [b1] at st
      generalize n + 20 * (40 - (i + 1)) = nn at st
      have sub' : (W.map (·.1)).Sublist ((Ts.map (·.1)).take (i + 1)) := sub.trans (List.take_sublist_take_left (Nat.le_succ i))
      -- what a draw keeps
      have step : ∀ {Ha Hb : Hp}, Drew S g H (res H2 a Ha) → Ha a = some (.frz od (.dK (tab optV Ts))) → Ha fo = some (.dK (tab V.int W)) → Drew S g Ha Hb → Drew S g H (res H2 a Hb) ∧ Hb a = some (.frz od (.dK (tab optV Ts))) ∧ Hb fo = some (.dK (tab V.int W)) := fun {Ha Hb} h1 h2 h3 h4 => by
        have hb := h4.keep _ _ aS aG h2
        refine ⟨⟨fun b o n1 n2 h => ?_, fun b h => ?_⟩, hb, h4.keep _ _ fS fG h3⟩
        · have := h1.keep b o n1 n2 h
          by_cases e : b = a
          · subst e; rw [res_at]; exact dr02.keep _ _ aS aG h
          · rw [res_ne e] at this ⊢; exact h4.keep b o n1 n2 this
        · by_cases e : b = a
          · subst e; rw [res_at, a2] at h; cases h
          · refine h1.free b ?_
            rw [res_ne e] at h ⊢
            exact h4.free b h
      refine ⟨_, rfl, S, g, sm, 4, nn + 17, rfl, st, ⟨by decide, .inl (by decide)⟩, fun Ha d dra sta d0 d4 => ?_⟩
      obtain ⟨k1, k2, k3⟩ := step dr ea ef dra
      refine ⟨_, _, rfl, rfl, _, rfl, ?_⟩
      by_cases hd : 0 < d
      · refine iteY hd ?_
        -- the weight
        have e12 : (10 : Int) ^ (12 : Int).toNat = 1000000000000 := by decide
        refine ⟨_, rfl, S, g, sm, 5, nn + 14, rfl, sta, ⟨by decide, .inl (by decide)⟩, fun Hb d5 drb stb d50 d55 => ?_⟩
        refine ⟨_, _, rfl, rfl, ⟨by decide, by decide, by decide⟩, _, rfl, S, g, sm, 3, nn + 11, rfl, stb, ⟨by decide, .inl (by decide)⟩, fun Hc d3 drc stc d30 d33 => ⟨_, _, rfl, rfl, ?_⟩⟩
        refine ⟨_, rfl, _, _, rfl, rfl, ⟨by decide, by decide, by decide⟩, S, g, sm, _, nn + 8, rfl, stc, ⟨by rw [e12]; decide, .inr ⟨True.intro, e12⟩⟩, fun Hd d12 drd std d120 d121 => ?_⟩
        refine ⟨by show 4 ≤ sizeLine; decide, fun pl npl => ?_⟩
        rw [e12] at d121 ⊢
        have drad := (drb.trans drc).trans drd
        obtain ⟨k4, k5, k6⟩ := step k1 k2 k3 drad
        have npS : pl ≠ S := std.newS npl
        have npG : pl ≠ g := std.newG npl
        have sp : Same Hd (upd Hd pl (.lst [.int 1, .int d5, .int (1000000000000 - d3), .int d12])) := same_upd npl
        have ep : (upd Hd pl (.lst [.int 1, .int d5, .int (1000000000000 - d3), .int d12])) pl = some (.lst [.int 1, .int d5, .int (1000000000000 - d3), .int d12]) := upd_same
        have stp := std.same sp
        obtain ⟨k7, k8, k9⟩ := step k4 k5 k6 (Drew.of sp)
        generalize upd Hd pl (.lst [.int 1, .int d5, .int (1000000000000 - d3), .int d12]) = He at sp ep stp k7 k8 k9
        have fin : ∀ (Hf : Hp) (ix : Int), Drew S g He Hf → StoreAt Hf S g sm nn → 0 ≤ ix → ix < 4 → ∃ z : Int, atI [V.int 1, .int d5, .int (1000000000000 - d3), .int d12] ix = some (.int z) ∧ SqL K Hf pl [V.int 1, .int d5, .int (1000000000000 - d3), .int d12] ∧ Hf fo = some (.dK (tab V.int W)) ∧ W.length < sizeLine ∧
            Drew S g H (res H2 a (upd Hf fo (.dK (putK (tab V.int W) (Sum.inr x) (.int z))))) ∧ (upd Hf fo (.dK (putK (tab V.int W) (Sum.inr x) (.int z)))) a = some (.frz od (.dK (tab optV Ts))) ∧ StoreAt (upd Hf fo (.dK (putK (tab V.int W) (Sum.inr x) (.int z)))) S g sm nn ∧
            (upd Hf fo (.dK (putK (tab V.int W) (Sum.inr x) (.int z)))) fo = some (.dK (tab V.int (W ++ [(x, z)]))) ∧ ((W ++ [(x, z)]).map (·.1)).Sublist ((Ts.map (·.1)).take (i + 1)) ∧ ∀ p ∈ W ++ [(x, z)], 0 ≤ p.2 ∧ p.2 ≤ 1000000000000 := fun Hf ix drf stf i0 i4 => by
          obtain ⟨v, hv, hvm⟩ := atI_in (xs := [V.int 1, .int d5, .int (1000000000000 - d3), .int d12]) (i := ix) i0 i4
          obtain ⟨z, rfl, z0, z1⟩ : ∃ z : Int, v = V.int z ∧ 0 ≤ z ∧ z ≤ 1000000000000 := by
            simp only [List.mem_cons, List.not_mem_nil, or_false] at hvm
            rcases hvm with rfl | rfl | rfl | rfl
            · exact ⟨1, rfl, by decide, by decide⟩
            · exact ⟨d5, rfl, d50, by omega⟩
            · exact ⟨_, rfl, by omega, by omega⟩
            · exact ⟨d12, rfl, d120, by omega⟩
          obtain ⟨f1, f2, f3⟩ := step k7 k8 k9 drf
          have xi : (Ts.map (·.1))[i]? = some x := by rw [List.getElem?_map, hTi]; rfl
          have xnew : ¬ x ∈ W.map (·.1) := fun h => by
            have hm := sub.subset h
            obtain ⟨j, hj⟩ := List.getElem?_of_mem hm
            rw [List.getElem?_take] at hj
            split at hj
            · have := nodup_at nd hj xi
              omega
            · cases hj
          have wl : W.length ≤ 40 := by
            have := sub.length_le
            rw [List.length_map, List.length_take, List.length_map] at this
            omega
          refine ⟨z, hv, SqL.of' (drf.keep _ _ npS npG ep), f3, small1000 (by omega), ⟨fun b o n1 n2 h => ?_, fun b h => ?_⟩, by rw [upd_ne af.symm]; exact f2, stf.put fS fG fM, by rw [upd_same, put_new (f := V.int) xnew], ?_, fun p hp => ?_⟩
          · have := f1.keep b o n1 n2 h
            by_cases e : b = a
            · subst e; rw [res_at]; exact dr02.keep _ _ aS aG h
            · rw [res_ne e] at this ⊢
              by_cases e2 : b = fo
              · exact absurd e2 (ne_of_none h nfo)
              · rw [upd_ne e2]; exact this
          · by_cases e : b = a
            · subst e; rw [res_at, a2] at h; cases h
            · refine f1.free b ?_
              rw [res_ne e] at h ⊢
              exact free_upd h
          · rw [List.map_append, List.take_add_one, xi]
            exact List.Sublist.append sub (List.Sublist.refl _)
          · rcases List.mem_append.mp hp with hp | hp
            · exact hw p hp
            · have : p = (x, z) := by simpa using hp
              subst this
              exact ⟨z0, z1⟩
        refine ⟨_, rfl, S, g, sm, 3, nn + 5, rfl, stp, ⟨by decide, .inl (by decide)⟩, fun Hf df drf stf df0 df3 => ⟨_, _, rfl, rfl, _, rfl, ?_⟩⟩
        by_cases hdf : 0 < df
        · obtain ⟨z, f1, f2, f3, f4, f5, f6, f7, f8, f9, f10⟩ := fin Hf kd drf (stf.less (by omega)) kd0 kd4
          exact iteY hdf ⟨_, rfl, pl, _, _, _, rfl, rfl, f2, f1, _, rfl, _, rfl, fo, _, rfl, DPut.k (k := Sum.inr x) f3 (by rw [tab_len]; exact f4), _, _, rfl, f5, f6, f7, f8, f9, f10⟩
        · refine iteN hdf ⟨_, rfl, S, g, sm, 4, nn, rfl, stf.less (by omega), ⟨by decide, .inl (by decide)⟩, fun Hg dg drg stg dg0 dg4 => ?_⟩
          obtain ⟨z, f1, f2, f3, f4, f5, f6, f7, f8, f9, f10⟩ := fin Hg dg (drf.trans drg) stg dg0 dg4
          exact ⟨pl, _, _, _, rfl, rfl, f2, f1, _, rfl, _, rfl, fo, _, rfl, DPut.k (k := Sum.inr x) f3 (by rw [tab_len]; exact f4), _, _, rfl, f5, f6, f7, f8, f9, f10⟩
      · exact iteN hd ⟨_, W, rfl, k1, k2, sta.less (by omega), k3, sub', hw⟩
    · rintro σ Hk ⟨v4, W, rfl, dr, ea, st, ef, sub, hw⟩
      refine ⟨ea, _, rfl, ?_⟩
      have hnd : (W.map (·.1)).Nodup := List.Nodup.sublist (sub.trans (List.take_sublist _ _)) nd
      refine q _ fo W dr nfo ((st.less (by omega)).turn (res_ne aS.symm) (res_ne aG.symm) (res_ne aM.symm)) ((res_ne af).trans ef) ⟨hnd, fun p hp => ?_, fun p hp => (hw p hp).1, fun p hp => (hw p hp).2⟩
      exact List.mem_of_mem_take (sub.subset (List.mem_map.mpr ⟨p, hp, rfl⟩))
end
end K66
set_option maxHeartbeats 4000000
/-! The law's own sides. -/
namespace K66
open PySem PySem.Spec PyProof.Rows L2 PpSet
section
variable {P : Program} {w : World} {K : PySem.W.Frag} {mg : Str → Option Value} {base : Heap}
abbrev N55 : List Str := ["rooms", "found", "name"]
theorem sc55 : FnScope N55 ["rooms"] (defScope (top 55)) := ⟨rfl, rfl, rfl, by decide +kernel, rfl, by decide +kernel, by decide +kernel⟩
theorem c_law_sides (T : Tx K mg) : Cal P w K mg base 1 "_law_sides" spSides := by
  refine cal_of T.d55 sc55 (fun _ _ _ _ _ _ us hl => match us, hl with | [_], _ => rfl) (fun vs H Q E h => ?_) (fun f cdv A outer s H vs Q E hr h => ?_)
  · obtain ⟨a, _, _, rfl, _⟩ := h; rfl
  · obtain ⟨a, Ts, rk, rfl, hA, t, hle, q⟩ := h
    have hu := hu_of hr
    have hz : Ts.length ≤ sizeLine := small40 hle
    refine ⟨_, pss_cons (ps_set (i := 1) sc55.nd rfl (Or.inl rfl) (pT (call_dictP rfl) T (pa_cons (pe_lk (pe_lc (own := [("name", 2)]) (g := gName 2) (tt := tYes) rfl sc55.nd (pi_keys (pv 0)) (blkOk_by (N := N55) (sc := defScope (top 55)) (by decide +kernel)) (fun _ _ _ _ _ => pg_name (i := 2) sc55.nd rfl (Or.inl rfl)) (fun _ _ _ _ _ => pts_nil)
        (fun _ _ _ _ _ => pe_tup (pa_cons (pv 2) (pa_cons (pe_lst pa_nil) pa_nil))))) pa_nil)))
      (pss_cons (ps_lk (ps_for PassesOwn.never rfl (pi_keys (pv 0)) (pg_name (i := 2) sc55.nd rfl (Or.inl rfl))
        (pss_one (ps_if (pt_cmp (pc_notN (pe_dget hu (pv 0) (pv 2) (fun _ _ => rfl))))
          (pss_cons (ps_expr (pe_bm PySem.F.plainAttrs_list PySem.F.slot_list_append PySem.F.type_list_append mt_append (pe_dget hu (pv 1) (pv 2) (fun _ _ => rfl)) (pa_cons (pe_dget hu (pv 0) (pv 2) (fun _ _ => rfl)) pa_nil)))
          (pss_one (ps_expr (pe_bm PySem.F.plainAttrs_list PySem.F.slot_list_append PySem.F.type_list_append mt_append (pe_dget hu (pv 1) (pe_dget hu (pv 0) (pv 2) (fun _ _ => rfl)) (fun _ _ => rfl)) (pa_cons (pv 2) pa_nil))))) pss_nil))))
      (pss_one (ps_ret (pv 1)))), ?_⟩
    -- the pairs
    refine lkE_of a _ (Lk.of_rd hA) fun od0 G0 g0 ge => ?_
    refine ⟨_, rfl, a, od0, rfl, .inl ⟨_, g0, fun D0 nD0 => ?_⟩⟩
    refine lc_it walk_keys (fun i Hk => Same G0 Hk ∧ ∃ (as : List Addr) (L : List (Str × Addr)), L.map (·.1) = (Ts.take i).map (·.1) ∧ Hk D0 = some (.lst (as.map V.ref)) ∧ Paired (fun p q => Hk p = some (.tup [.str q.1, .ref q.2]) ∧ G0 p = none) as L ∧ (L.map (·.2)).Nodup ∧ ∀ q ∈ L, Hk q.2 = some (.lst []) ∧ G0 q.2 = none ∧ q.2 ≠ D0)
      ⟨same_upd nD0, [], [], rfl, upd_same, .nil, List.nodup_nil, fun _ h => by cases h⟩ (fun i Hk _ p => p.1 _ _ g0) (fun i y Hk H' hi p hy => ?_) (fun Hk p => ?_)
    · obtain ⟨p1, as, L, p2, p3, p4, p5, p6⟩ := p
      obtain ⟨rfl, ky, v, hv, rfl⟩ := hy
      rw [tab_len] at hi
      have hTi : Ts[i]? = some Ts[i] := List.getElem?_eq_getElem hi
      generalize Ts[i] = pr at hTi
      obtain ⟨x, o⟩ := pr
      rw [tab_at, hTi] at hv
      cases (show (Sum.inr x, optV o) = (ky, v) from Option.some.inj hv)
      refine ⟨rfl, ?_⟩
      simp only [tYes, if_true]
      refine ⟨_, rfl, Nat.zero_le _, fun l nl => ⟨by show 2 ≤ sizeLine; decide, fun tp ntp => ?_⟩⟩
      have ntp' := free_upd ntp
      have ltp : l ≠ tp := ne_of_none upd_same ntp
      have Dl : D0 ≠ l := ne_of_none p3 nl
      have Dt : D0 ≠ tp := ne_of_none p3 ntp'
      have hl := p4.length
      have hLl : L.length = i := by
        have := congrArg List.length p2
        rw [List.length_map, List.length_map, List.length_take] at this
        omega
      refine ⟨as.map V.ref, by rw [upd_ne Dt, upd_ne Dl]; exact p3, by rw [List.length_map]; exact small1000 (by omega), same_upd' (same_upd' (same_upd' p1 (p1.free nl)) (p1.free ntp')) nD0, as ++ [tp], L ++ [(x, l)], ?_, ?_, ?_, ?_, ?_⟩
      · rw [List.map_append, p2, List.take_add_one, hTi, List.map_append]; rfl
      · rw [upd_same, List.map_append]; rfl
      · refine Paired.snoc (L2.Paired.mapP p4 fun p q h => ⟨?_, h.2⟩) ⟨?_, p1.free ntp'⟩
        · have n1 : p ≠ D0 := fun e => by rw [e, p3] at h; cases h.1
          rw [upd_ne n1, upd_ne (ne_of_none h.1 ntp'), upd_ne (ne_of_none h.1 nl)]; exact h.1
        · rw [upd_ne Dt.symm]; exact upd_same
      · rw [List.map_append, List.nodup_append]
        refine ⟨p5, by simp, fun b hb c hc e => ?_⟩
        have : c = l := by simpa using hc
        subst this; subst e
        obtain ⟨r, hr, e⟩ := List.mem_map.mp hb
        have := (p6 r hr).1
        rw [e, nl] at this; cases this
      · intro r hr
        rcases List.mem_append.mp hr with hr | hr
        · obtain ⟨h1, h2, h3⟩ := p6 r hr
          refine ⟨?_, h2, h3⟩
          rw [upd_ne h3, upd_ne (ne_of_none h1 ntp'), upd_ne (ne_of_none h1 nl)]; exact h1
        · have : r = (x, l) := by simpa using hr
          subst this
          exact ⟨by rw [upd_ne Dl.symm, upd_ne ltp]; exact upd_same, p1.free nl, Dl.symm⟩
    · obtain ⟨p1, as, L, p2, p3, p4, p5, p6⟩ := p
      rw [tab_len, List.take_of_length_le (Nat.le_refl _)] at p2
      refine ⟨p1 _ _ g0, ?_⟩
      have sr : Same H (res H a Hk) := same_res ge p1
      have nd1 : (L.map (·.1)).Nodup := by rw [p2]; exact t.nd
      have ra : ∀ {b : Addr}, G0 b = none → res H a Hk b = Hk b := fun h => res_new g0 h
      refine ⟨D0, as, List.map (fun (q : Str × Addr) => ((Sum.inr q.1 : Key), V.ref q.2)) L, rfl, SqL.of' ((ra nD0).trans p3), Paired.map_right (R := fun p (kv : Key × V) => SqT K (res H a Hk) p [kV kv.1, kv.2]) (f := fun q : Str × Addr => (Sum.inr q.1, V.ref q.2)) (L2.Paired.mapP p4 fun p q h => SqT.of' ((ra h.2).trans h.1)), fun D nD => ?_⟩
      rw [show mergeK [] (L.map fun q => (Sum.inr q.1, V.ref q.2)) = tab V.ref ([] ++ L) from merge_new (l := []) (f := V.ref) (by rw [List.nil_append]; exact nd1)]
      rw [List.nil_append]
      have nDH : H D = none := sr.free nD
      have sD : Same H (upd (res H a Hk) D (.dK (tab V.ref L))) := same_upd' sr nDH
      have fr : ∀ q ∈ L, H q.2 = none := fun q hq => lk_free g0 ge (p6 q hq).2.1
      have lsq : ∀ q ∈ L, (upd (res H a Hk) D (.dK (tab V.ref L))) q.2 = some (.lst []) := fun q hq => by
        have h := (ra (p6 q hq).2.1).trans (p6 q hq).1
        rw [upd_ne (ne_of_none h nD)]; exact h
      have eD : (upd (res H a Hk) D (.dK (tab V.ref L))) D = some (.dK (tab V.ref L)) := upd_same
      generalize upd (res H a Hk) D (.dK (tab V.ref L)) = H1 at sD lsq eD
      have aD : a ≠ D := by
        rcases hA with h | ⟨_, h⟩ <;> exact ne_of_none h nDH
      have aL : ∀ q ∈ L, a ≠ q.2 := fun q hq => by
        rcases hA with h | ⟨_, h⟩ <;> exact ne_of_none h (fr q hq)
      -- the doors
      refine lkS_of a _ (Lk.of_rd (sD.rd hA)) fun od H0 h0 he => ?_
      refine ⟨_, rfl, a, od, rfl, .inl ⟨_, h0, ?_⟩⟩
      refine for_it walk_keys (fun i σ Hk => ∃ v2, σ = [some (.ref a), some (.ref D), v2] ∧ Hk a = some (.frz od (.dK (tab optV Ts))) ∧ Filling H Hk a D Ts L i) ⟨_, rfl, h0, ⟨fun b o nb e => (he b nb).trans (sD _ _ e), (he D aD.symm).trans eD, fun q hq => (he _ (aL q hq).symm).trans (lsq q hq)⟩⟩ (fun i σ Hk _ ⟨_, _, h, _⟩ => h) ?_ ?_
      · rintro i y σ Hk H' hi ⟨v2, rfl, ha, F⟩ hy
        rw [tab_len] at hi
        obtain ⟨rfl, ky, v, hv, rfl⟩ := hy
        have hTi : Ts[i]? = some Ts[i] := List.getElem?_eq_getElem hi
        generalize Ts[i] = pr at hTi
        obtain ⟨h, o⟩ := pr
        rw [tab_at, hTi] at hv
        cases (show (Sum.inr h, optV o) = (ky, v) from Option.some.inj hv)
        have hm := List.mem_of_getElem? hTi
        have hpar := par_of_mem t.nd hm
        have hget : ∀ {Hx : Hp}, Hx a = some (.frz od (.dK (tab optV Ts))) → DGet Hx a (.str h) (some (optV o)) := fun {Hx} e => by
          have := atH_get (T := Ts) (.inr ⟨od, e⟩) t.nd (List.mem_map.mpr ⟨_, hm, rfl⟩ : h ∈ Ts.map (·.1))
          rw [hpar] at this
          exact this
        refine ⟨_, rfl, _, rfl, a, _, rfl, hget ha, _, rfl, ?_⟩
        rw [optV_non]
        cases o with
        | none => exact iteF ⟨_, rfl, ha, F.skip hTi⟩
        | some u =>
          have hne : h ≠ u := fun e => by subst e; have := (t.par_up hpar).2; omega
          have inL : ∀ x, x ∈ Ts.map (·.1) → ∃ l, (x, l) ∈ L := fun x hx => by
            rw [← p2] at hx
            obtain ⟨q, hq, rfl⟩ := List.mem_map.mp hx
            exact ⟨q.2, hq⟩
          obtain ⟨lh, mh⟩ := inL h (List.mem_map.mpr ⟨_, hm, rfl⟩)
          obtain ⟨lu, mu⟩ := inL u (t.up h u hm).1
          obtain ⟨hlu, F2⟩ := F.step nd1 p5 fr hTi hne mh mu
          have gt : ∀ {x l} {Hx : Hp}, (x, l) ∈ L → Hx D = some (.dK (tab V.ref L)) → DGet Hx D (.str x) (some (.ref l)) := fun {x l Hx} m e => by
            have := DGet.k (k := Sum.inr x) e
            rw [val_mem (f := V.ref) nd1 m] at this
            exact this
          have hD1 : (upd H' lh (.lst ((nbrs (Ts.take i) h).map V.str ++ [.str u]))) D = some (.dK (tab V.ref L)) := by
            rw [upd_ne fun e => by have := F.ls _ mh; rw [← e, F.at_] at this; cases this]; exact F.at_
          have ha1 : (upd H' lh (.lst ((nbrs (Ts.take i) h).map V.str ++ [.str u]))) a = some (.frz od (.dK (tab optV Ts))) := by rw [upd_ne (aL _ mh)]; exact ha
          have small : ∀ x, ((nbrs (Ts.take i) x).map V.str).length < sizeLine := fun x => by
            rw [List.length_map]
            have key : ∀ l : Halls, (nbrs l x).length ≤ 2 * l.length := by
              intro l
              induction l with
              | nil => simp [nbrs]
              | cons p l ih =>
                have : (nb1 x p).length ≤ 2 := by
                  obtain ⟨y, o⟩ := p
                  cases o with
                  | none => simp [nb1]
                  | some u => simp only [nb1]; by_cases h1 : y = x <;> by_cases h2 : u = x <;> simp [h1, h2]
                show (nb1 x p ++ nbrs l x).length ≤ _
                rw [List.length_append, List.length_cons]; omega
            have := key (Ts.take i)
            rw [List.length_take] at this
            exact small1000 (by omega)
          refine iteT ?_
          refine ⟨_, rfl, _, rfl, D, _, rfl, gt mh F.at_, .inl ⟨rfl, _, SqL.of' (F.ls _ mh)⟩, _, rfl, _, rfl, a, _, rfl, hget ha, lh, _, _, rfl, rfl, F.ls _ mh, small _, ?_⟩
          refine ⟨_, rfl, _, rfl, _, rfl, a, _, rfl, hget ha1, D, _, rfl, gt mu hD1, .inl ⟨rfl, _, SqL.of' hlu⟩, _, rfl, lu, _, _, rfl, rfl, hlu, small _, ?_⟩
          refine ⟨_, rfl, ?_, F2⟩
          rw [upd_ne (aL _ mu)]; exact ha1
      · rintro σ Hk ⟨v2, rfl, ha, F⟩
        rw [tab_len] at F
        refine ⟨ha, _, rfl, ?_⟩
        have F' : Filling H (res H1 a Hk) a D Ts L Ts.length := ⟨fun b o nb e => by rw [res_ne nb]; exact F.old b o nb e, by rw [res_ne aD.symm]; exact F.at_, fun q hq => by rw [res_ne (aL q hq).symm]; exact F.ls q hq⟩
        refine q _ D (fun b o e => ?_) nDH ⟨L, p2, .inl F'.at_, fun q hq => by rw [F'.ls q hq, List.take_of_length_le (Nat.le_refl _)]⟩
        by_cases hb : b = a
        · subst hb; rw [res_at]; exact sD _ _ e
        · exact F'.old b o hb e
end
end K66
set_option maxHeartbeats 4000000
/-! The law's own search. -/
namespace K66
open PySem PySem.Spec PyProof.Rows L2 PpSet
section
variable {P : Program} {w : World} {K : PySem.W.Frag} {mg : Str → Option Value} {base : Heap}
abbrev ky (F : List (Str × Int)) : List Str := F.map (·.1)
def spLFar : Sp := fun vs H Q _ => ∃ (d : Addr) (x : Str) (L : List (Str × Addr)) (Gr : Str → List Str), vs = [.ref d, .str x, .non] ∧ Rd H d (.dK (tab V.ref L)) ∧ (L.map (·.1)).Nodup ∧ L.length ≤ 40 ∧ (∀ q ∈ L, H q.2 = some (.lst ((Gr q.1).map V.str))) ∧
  (∀ q ∈ L, ∀ y ∈ Gr q.1, y ∈ L.map (·.1)) ∧ x ∈ L.map (·.1) ∧
  ∀ H' p F, Same H H' → H p = none → H' p = some (.dK (tab V.int F)) → (ky F).Nodup → x ∈ ky F → (∀ s ∈ ky F, s ∈ L.map (·.1) ∧ ∀ y ∈ Gr s, y ∈ ky F) → Q (.ref p) H'
abbrev N56 : List Str := ["sides", "first", "shut", "found", "queue", "at", "name"]
theorem sc56 : FnScope N56 ["sides", "first", "shut"] (defScope (top 56)) := ⟨rfl, rfl, rfl, by decide +kernel, rfl, by decide +kernel, by decide +kernel⟩
theorem c_law_far (T : Tx K mg) : Cal P w K mg base 1 "_law_far" spLFar := by
  refine cal_of T.d56 sc56 (fun _ _ _ _ _ _ us hl => match us, hl with | [_, _, _], _ => rfl) (fun vs H Q E h => ?_) (fun f cdv A outer s H vs Q E hr h => ?_)
  · obtain ⟨_, _, _, _, rfl, _⟩ := h; rfl
  · obtain ⟨d, x, L, Gr, rfl, hd, nd, hle, hl, hg, hx, q⟩ := h
    have hu := hu_of hr
    refine ⟨_, pss_cons (ps_set (i := 3) sc56.nd rfl (Or.inl rfl) (pe_disp (pps_cons (pv 1) pe_int pps_nil) (by rfl) (by rfl) (fun z => by cases z) (by decide)))
      (pss_cons (ps_set (i := 4) sc56.nd rfl (Or.inl rfl) (pe_lst (pa_cons (pv 1) pa_nil)))
      (pss_cons (ps_set (i := 5) sc56.nd rfl (Or.inl rfl) pe_int)
      (pss_cons (ps_while PassesOwn.never (pt_cmpR op_lt (pv 5) (pB call_len_seq T (pa_cons (pv 4) pa_nil)) (nomark _))
        (pss_cons (ps_for PassesOwn.never rfl (pi_list (pe_dget hu (pv 0) (pe_ix ix_list (pv 4) (pv 5) (fun _ _ => rfl)) (fun _ _ => rfl))) (pg_name (i := 6) sc56.nd rfl (Or.inl rfl))
          (pss_one (ps_if (PW.pt (pw_and (pt_cmp (pc_dnotin hu (pv 6) (pv 3))) (pw_and1 (pt_cmpR op_ne (pv 6) (pv 2) (nomark _)))))
            (pss_cons (ps_dput hu (pv 3) (pv 6) (pe_op op_add (pe_dget hu (pv 3) (pe_ix ix_list (pv 4) (pv 5) (fun _ _ => rfl)) (fun _ _ => rfl)) pe_int) rfl)
            (pss_one (ps_expr (pe_bm PySem.F.plainAttrs_list PySem.F.slot_list_append PySem.F.type_list_append mt_append (pv 4) (pa_cons (pv 6) pa_nil))))) pss_nil)))
        (pss_one (ps_set (i := 5) sc56.nd rfl (Or.inl rfl) (pe_op op_add (pv 5) pe_int)))))
      (pss_one (ps_ret (pv 3)))))), ?_⟩
    intro fo nfo
    refine ⟨_, rfl, upd_same, [(Sum.inr x, .int 0)], rfl, by show 1 ≤ 15; decide, ?_⟩
    rw [upd_upd]
    refine ⟨_, rfl, by show 1 ≤ sizeLine; decide, fun qa nqa => ?_⟩
    have nqH := free_upd nqa
    have fq : fo ≠ qa := ne_of_none upd_same nqa
    have sub_len : ∀ {F : List (Str × Int)}, (ky F).Nodup → (∀ s ∈ ky F, s ∈ L.map (·.1)) → F.length ≤ L.length := fun {F} h1 h2 => by
      have := List.Nodup.length_le_of_subset h1 (l₂ := L.map (fun p => p.1)) (fun s hs => h2 s hs)
      rwa [List.length_map, List.length_map] at this
    refine ⟨fun m σ Hk => ∃ (k : Nat) (F : List (Str × Int)) (v6 : Option V), m = L.length - k ∧ σ = [some (.ref d), some (.str x), some .non, some (.ref fo), some (.ref qa), some (.int (k : Int)), v6] ∧ Same H Hk ∧ Hk fo = some (.dK (tab V.int F)) ∧ Hk qa = some (.lst ((ky F).map V.str)) ∧
        (ky F).Nodup ∧ (∀ s ∈ ky F, s ∈ L.map (·.1)) ∧ x ∈ ky F ∧ k ≤ F.length ∧ ∀ s ∈ (ky F).take k, ∀ y ∈ Gr s, y ∈ ky F,
      ⟨_, 0, [(x, 0)], _, rfl, rfl, same_upd' (same_upd nfo) nqH, by rw [upd_ne fq]; exact upd_same, upd_same, by simp, fun s hs => ?_, by simp, Nat.zero_le _, fun s hs => by simp at hs⟩, fun m σ Hk hW => ?_⟩
    · have : s = x := by simpa using hs
      subst this; exact hx
    obtain ⟨k, F, v6, rfl, rfl, sk, ef, eq, fnd, fsub, fx, fk, fcl⟩ := hW
    have fl := sub_len fnd fsub
    refine ⟨_, rfl, _, rfl, qa, _, rfl, .inl (SqL.of' eq), _, _, rfl, rfl, _, rfl, ?_⟩
    rw [List.length_map, List.length_map]
    by_cases hk : k < F.length
    · refine iteY (by omega) ?_
      refine ⟨_, fun σ' H' h => h, ?_⟩
      have hs : (ky F)[k]? = some ((ky F)[k]'(by rw [List.length_map]; exact hk)) := List.getElem?_eq_getElem _
      generalize ((ky F)[k]'(by rw [List.length_map]; exact hk)) = s at hs
      have hsm := List.mem_of_getElem? hs
      obtain ⟨r, hr2, hrs⟩ := List.mem_map.mp (fsub s hsm)
      subst hrs
      have gd : ∀ {Hx : Hp}, Same H Hx → DGet Hx d (.str r.1) (some (.ref r.2)) := fun {Hx} sx => by
        have := DGet.rd (k := Sum.inr r.1) (sx.rd hd)
        rw [val_mem (f := V.ref) nd hr2] at this
        exact this
      have hat : ∀ {F' : List (Str × Int)}, (ky F')[k]? = some r.1 → atI ((ky F').map V.str) (k : Int) = some (.str r.1) := fun {F'} h => atI_nat (by rw [List.getElem?_map, h]; rfl)
      refine ⟨_, rfl, _, rfl, _, rfl, qa, _, _, _, rfl, rfl, SqL.of' eq, hat hs, d, _, rfl, gd sk, r.2, rfl, ⟨_, SqL.of' (sk _ _ (hl r hr2))⟩, ?_⟩
      refine for_list (K := K) (a := r.2) (xs := (Gr r.1).map V.str) (fun i σ Hx => ∃ (F' : List (Str × Int)) (v6 : Option V), σ = [some (.ref d), some (.str x), some .non, some (.ref fo), some (.ref qa), some (.int (k : Int)), v6] ∧ Same H Hx ∧ Hx fo = some (.dK (tab V.int F')) ∧ Hx qa = some (.lst ((ky F').map V.str)) ∧
          (ky F').Nodup ∧ (∀ s ∈ ky F', s ∈ L.map (·.1)) ∧ (∃ E, F' = F ++ E) ∧ ∀ y ∈ (Gr r.1).take i, y ∈ ky F')
        ⟨F, _, rfl, sk, ef, eq, fnd, fsub, ⟨[], by simp⟩, fun y hy => by simp at hy⟩ (fun i σ Hx _ ⟨_, _, _, h, _⟩ => SqL.of' (h _ _ (hl r hr2))) ?_ ?_
      · rintro i y σ Hx hi ⟨F', v6, rfl, sx, ef', eq', nd', sub', ⟨E, rfl⟩, cl'⟩
        rw [List.getElem?_map] at hi
        obtain ⟨y, hyi, rfl⟩ := Option.map_eq_some_iff.mp hi
        have hyG := List.mem_of_getElem? hyi
        have fl' := sub_len nd' sub'
        have clx : ∀ {F2 : List (Str × Int)}, (∀ z ∈ ky (F ++ E), z ∈ ky F2) → y ∈ ky F2 → ∀ z ∈ (Gr r.1).take (i + 1), z ∈ ky F2 := fun {F2} h1 h2 z hz => by
          rw [List.take_add_one, hyi] at hz
          rcases List.mem_append.mp hz with hz | hz
          · exact h1 z (cl' z hz)
          · have : z = y := by simpa using hz
            subst this; exact h2
        refine ⟨_, rfl, _, rfl, fo, _, rfl, DGet.rd (k := Sum.inr y) (.inl ef'), ?_⟩
        rw [val_iff]
        refine ⟨_, rfl, ?_⟩
        by_cases hm : y ∈ (F ++ E).map (·.1)
        · rw [decide_eq_true hm]
          exact iteF (iteF ⟨F ++ E, _, rfl, sx, ef', eq', nd', sub', ⟨E, rfl⟩, clx (fun z h => h) hm⟩)
        · rw [decide_eq_false hm]
          refine iteT ⟨_, rfl, _, rfl, rfl, _, rfl, ?_⟩
          refine iteT ?_
          have hs' : (ky (F ++ E))[k]? = some r.1 := by
            show ((F ++ E).map (·.1))[k]? = _
            rw [List.map_append, List.getElem?_append_left (by rw [List.length_map]; exact hk)]
            exact hs
          obtain ⟨⟨r1, w1⟩, hw1, hw2⟩ := List.mem_map.mp (List.mem_of_getElem? hs')
          have gf : DGet Hx fo (.str r.1) (some (.int w1)) := by
            have := DGet.rd (k := Sum.inr r.1) (.inl ef')
            rw [val_mem (f := V.int) (b := w1) nd' (by rw [← hw2]; exact hw1)] at this
            exact this
          refine ⟨_, rfl, _, rfl, _, rfl, qa, _, _, _, rfl, rfl, SqL.of' eq', hat hs', fo, _, rfl, gf, _, _, rfl, rfl, _, rfl, _, rfl, fo, _, rfl, DPut.k (k := Sum.inr y) ef' (by rw [tab_len]; exact small1000 (by omega)), ?_⟩
          rw [put_new (f := V.int) hm]
          have eq2 : (upd Hx fo (.dK (tab V.int (F ++ E ++ [(y, w1 + 1)])))) qa = some (.lst ((ky (F ++ E)).map V.str)) := by rw [upd_ne fq.symm]; exact eq'
          refine ⟨_, rfl, .inl ⟨rfl, _, SqL.of' eq2⟩, _, rfl, qa, _, _, rfl, rfl, eq2, by rw [List.length_map, List.length_map]; exact small1000 (by omega), ?_⟩
          refine ⟨F ++ E ++ [(y, w1 + 1)], _, rfl, same_upd' (same_upd' sx nfo) nqH, by rw [upd_ne fq]; exact upd_same, ?_, ?_, fun z hz => ?_, ⟨E ++ [(y, w1 + 1)], by rw [List.append_assoc]⟩, clx (fun z hz => ?_) ?_⟩
          · rw [upd_same]
            show _ = some (HO.lst (List.map V.str (List.map (·.1) (F ++ E ++ [(y, w1 + 1)]))))
            rw [List.map_append (l₁ := F ++ E), List.map_append]; rfl
          · show (List.map (·.1) (F ++ E ++ [(y, w1 + 1)])).Nodup
            rw [List.map_append, List.nodup_append]
            refine ⟨nd', by simp, fun a ha b hb e => ?_⟩
            have : b = y := by simpa using hb
            subst this; subst e
            exact hm ha
          · have hz : z ∈ List.map (·.1) (F ++ E ++ [(y, w1 + 1)]) := hz
            rw [List.map_append] at hz
            rcases List.mem_append.mp hz with hz | hz
            · exact sub' z hz
            · have : z = y := by simpa using hz
              subst this; exact hg r hr2 _ hyG
          · show z ∈ List.map (·.1) (F ++ E ++ [(y, w1 + 1)])
            rw [List.map_append]; exact List.mem_append.mpr (.inl hz)
          · show y ∈ List.map (·.1) (F ++ E ++ [(y, w1 + 1)])
            rw [List.map_append]; exact List.mem_append.mpr (.inr (by simp))
      · rintro σ Hx ⟨F', v6, rfl, sx, ef', eq', nd', sub', ⟨E, rfl⟩, cl'⟩
        rw [List.length_map, List.take_length] at cl'
        have fl' := sub_len nd' sub'
        refine ⟨_, rfl, _, _, rfl, rfl, ?_⟩
        refine ⟨L.length - (k + 1), by omega, k + 1, F ++ E, _, rfl, rfl, sx, ef', eq', nd', sub', ?_, by rw [List.length_append]; omega, fun s hsx => ?_⟩
        · show x ∈ List.map (·.1) (F ++ E)
          rw [List.map_append]; exact List.mem_append.mpr (.inl fx)
        · have hs2 : s ∈ (List.map (·.1) (F ++ E)).take (k + 1) := hsx
          rw [List.map_append, List.take_append_of_le_length (by rw [List.length_map]; omega), List.take_add_one] at hs2
          rcases List.mem_append.mp hs2 with h | h
          · intro y hy
            show y ∈ List.map (·.1) (F ++ E)
            rw [List.map_append]; exact List.mem_append.mpr (.inl (fcl s h y hy))
          · have : s = r.1 := by
              have e : (List.map (·.1) F)[k]? = some r.1 := hs
              rw [e] at h
              simpa using h
            subst this
            exact cl'
    · refine iteN (by omega) ?_
      refine ⟨_, rfl, q _ fo F sk nfo ef fnd fx fun s hs => ⟨fsub s hs, ?_⟩⟩
      rw [List.take_of_length_le (by rw [List.length_map]; omega)] at fcl
      exact fcl s hs
end
end K66
set_option maxHeartbeats 4000000
/-! Best ones hang together. -/
namespace K66
open PySem PySem.Spec PyProof.Rows L2 PpSet
theorem min_exists {α : Type} (f : α → Int) : ∀ l : List α, l ≠ [] → ∃ x, x ∈ l ∧ ∀ y, y ∈ l → f x ≤ f y
  | [], h => absurd rfl h
  | [x], _ => ⟨x, by simp, fun y hy => by have : y = x := by simpa using hy
                                          subst this; exact Int.le_refl _⟩
  | x :: y :: l, _ => by
    obtain ⟨z, h1, h2⟩ := min_exists f (y :: l) (by simp)
    by_cases h : f x ≤ f z
    · refine ⟨x, List.mem_cons_self .., fun u hu => ?_⟩
      rcases List.mem_cons.mp hu with rfl | hu
      · exact Int.le_refl _
      · exact Int.le_trans h (h2 u hu)
    · refine ⟨z, List.mem_cons_of_mem _ h1, fun u hu => ?_⟩
      rcases List.mem_cons.mp hu with rfl | hu
      · omega
      · exact h2 u hu
theorem BestIs.ne {T : Halls} {rk : Str → Nat} {W : Wts} {bs : List Str} (h : BestIs T rk W bs) (t : Tree T rk) : bs ≠ [] := fun e => by
  obtain ⟨r, hr, _⟩ := t.root
  obtain ⟨x, h1, h2⟩ := min_exists (costOf T rk W) (T.map (·.1)) (fun z => by
    have : r ∈ T.map (·.1) := List.mem_map.mpr ⟨_, hr, rfl⟩
    rw [z] at this; cases this)
  have := (h.mem x).mpr ⟨h1, h2⟩
  rw [e] at this; cases this
theorem BestIs.len {T : Halls} {rk : Str → Nat} {W : Wts} {bs : List Str} (h : BestIs T rk W bs) : bs.length ≤ T.length := by
  have := List.Nodup.length_le_of_subset h.nd (l₂ := T.map (fun p => p.1)) fun s hs => ((h.mem s).mp hs).1
  rwa [List.length_map] at this
theorem together {T : Halls} {rk : Str → Nat} {W : Wts} {bs : List Str} (h : BestIs T rk W bs) (t : Tree T rk) (hW : ∀ p ∈ W, 0 ≤ p.2) {F : List Str} {x0 : Str} (hx : x0 ∈ F) (hb : ∀ s ∈ F, s ∈ bs) (cl : ∀ s ∈ F, ∀ y, adj T s y → y ∈ bs → y ∈ F) :
    ∀ z ∈ bs, z ∈ F := by
  intro z hz
  have hz' := (h.mem z).mp hz
  have key : ∀ (n : Nat) (x : Str), x ∈ F → dd T rk x z = n → z ∈ F := by
    intro n
    induction n with
    | zero =>
      intro x hx e
      have := t.dd_zero e
      subst this; exact hx
    | succ n ih =>
      intro x hx e
      by_cases ne : x = z
      · subst ne; exact hx
      · have hxb := (h.mem x).mp (hb x hx)
        obtain ⟨s, h1, h2, h3⟩ := t.best_next hW hxb.1 hz'.1 hxb.2 hz'.2 ne
        have hs := (h.mem s).mpr ⟨(t.adj_names h1).2, h3⟩
        exact ih s (cl x hx s h1 hs) (by omega)
  exact key _ x0 hx rfl
section
variable {P : Program} {w : World} {K : PySem.W.Frag} {mg : Str → Option Value} {base : Heap}
def spTogether : Sp := fun vs H Q _ => ∃ (a b : Addr) (T : Halls) (rk : Str → Nat) (W : Wts) (bs : List Str), vs = [.ref a, .ref b] ∧ AtH H a T ∧ Good T rk ∧ GoodW T W ∧ BestIs T rk W bs ∧ H b = some (.tup (bs.map V.str)) ∧ ∀ H', Same H H' → Q (.bl true) H'
abbrev N60 : List Str := ["rooms", "best", "sides", "kept", "name", "side"]
theorem sc60 : FnScope N60 ["rooms", "best"] (defScope (top 60)) := ⟨rfl, rfl, rfl, by decide +kernel, rfl, by decide +kernel, by decide +kernel⟩
theorem c_together (T : Tx K mg) : Cal P w K mg base 2 "_law_together" spTogether := by
  refine cal_of T.d60 sc60 (fun _ _ _ _ _ _ us hl => match us, hl with | [_, _], _ => rfl) (fun vs H Q E h => ?_) (fun f cdv A outer s H vs Q E hr h => ?_)
  · obtain ⟨_, _, _, _, _, _, rfl, _⟩ := h; rfl
  · obtain ⟨a, b, Ts, rk, W, bs, rfl, hA, G, GW, B, hB, q⟩ := h
    have hu := hu_of hr
    have t := G.t
    have C1 := c_law_sides (P := P) (w := w) (base := base) T
    have C2 := c_law_far (P := P) (w := w) (base := base) T
    refine ⟨_, pss_cons (ps_set (i := 2) sc60.nd rfl (Or.inl rfl) (pc C1 hr (pa_cons (pv 0) pa_nil)))
      (pss_cons (ps_set (i := 3) sc60.nd rfl (Or.inl rfl) pe_dnewK)
      (pss_cons (ps_for PassesOwn.never rfl (pi_tup (pv 1)) (pg_name (i := 4) sc60.nd rfl (Or.inl rfl))
        (pss_one (ps_dput hu (pv 3) (pv 4) (pe_lc (own := [("side", 5)]) (g := gName 5) (tt := tTest (tOp (rIn K false) (tVar 5) (tVar 1))) (te := tVar 5) rfl sc60.nd (pi_list (pe_dget hu (pv 2) (pv 4) (fun _ _ => rfl))) (blkOk_by (N := N60) (sc := defScope (top 60)) (by decide +kernel)) (fun _ _ _ _ _ => pg_name (i := 5) sc60.nd rfl (Or.inl rfl)) (fun _ _ _ _ _ => pts_one (pt_cmpR op_in_seq (pv 5) (pv 1) rfl)) (fun _ _ _ _ _ => pv 5)) rfl)))
      (pss_one (ps_ret (pe_cmpR (op_eqD hr.units) (pB (cr_srtD rfl) T (pa_cons (pc C2 hr (pa_cons (pv 3) (pa_cons (pe_ix ix_tup (pv 1) pe_int (fun _ _ => rfl)) (pa_cons pe_non pa_nil)))) pa_nil)) (pT call_list_of T (pa_cons (pv 1) pa_nil)) (nomark _)))))), ?_⟩
    have h40 := G.le
    have bl := B.len
    refine ⟨_, rfl, a, Ts, rk, rfl, hA, t, G.le, fun H1 sd s1 nsd SA => ?_⟩
    intro ko nko
    have s2 : Same H1 (upd H1 ko (.dK [])) := same_upd nko
    have e2 : (upd H1 ko (.dK [])) ko = some (.dK []) := upd_same
    generalize upd H1 ko (.dK []) = H2 at s2 e2
    have sb2 := s2 _ _ (s1 _ _ hB)
    let R : Str → List Str := fun s => (nbrs Ts s).filter fun y => decide (y ∈ bs)
    refine ⟨_, rfl, b, rfl, ⟨_, SqT.of' sb2⟩, ?_⟩
    refine for_it (walk_tup (xs := bs.map V.str)) (fun i σ Hk => ∃ (L : List (Str × Addr)) (v4 v5 : Option V), σ = [some (.ref a), some (.ref b), some (.ref sd), some (.ref ko), v4, v5] ∧ Same H1 Hk ∧ Hk ko = some (.dK (tab V.ref L)) ∧ L.map (·.1) = bs.take i ∧ ∀ q ∈ L, Hk q.2 = some (.lst ((R q.1).map V.str)))
      ⟨[], _, _, rfl, s2, e2, by simp, fun _ h => by cases h⟩ (fun i σ Hk _ ⟨_, _, _, _, h, _⟩ => SqT.of' (h _ _ (s1 _ _ hB))) ?_ ?_
    · rintro i y σ Hk H' hi ⟨L, v4, v5, rfl, sk, ek, eL, hL⟩ hy
      rw [List.length_map] at hi
      obtain ⟨rfl, hy⟩ := hy
      rw [List.getElem?_map] at hy
      obtain ⟨x, hxi, rfl⟩ := Option.map_eq_some_iff.mp hy
      have hxb := List.mem_of_getElem? hxi
      have hxn := ((B.mem x).mp hxb).1
      obtain ⟨l, g1, g2⟩ := SA.get2 t.nd hxn
      refine ⟨_, rfl, _, rfl, sd, _, rfl, g2 _ sk, l, rfl, ⟨_, SqL.of' (sk _ _ g1)⟩, fun D nD => ?_⟩
      have hnl : (nbrs Ts x).length ≤ 40 := by
        have := List.Nodup.length_le_of_subset (t.nbrs_nodup x) (l₂ := Ts.map (fun p => p.1)) fun s hs => (t.adj_names (t.mem_nbrs.mp hs)).2
        rw [List.length_map] at this
        omega
      refine lc_src (walk_list (xs := (nbrs Ts x).map V.str)) (nbrs Ts x) (fun y => if y ∈ bs then some (.str y) else none) (by rw [List.length_map]) (by rw [List.length_map]; exact small40 hnl) nD (fun H3 s3 => SqL.of' (s3 _ _ (sk _ _ g1))) (fun j y z H3 H4 Kt Kn hj s3 hy hkk hnn => ?_) (fun H3 s3 e3 => ?_)
      · obtain ⟨rfl, hy⟩ := hy
        rw [List.getElem?_map, hj] at hy
        cases (show V.str y = z from Option.some.inj hy)
        refine ⟨rfl, _, rfl, _, rfl, b, _, rfl, .inr (SqT.of' (s3 _ _ (sk _ _ (s1 _ _ hB)))), rfl, flat_strs _, _, rfl, ?_⟩
        rw [if_neg Bool.false_ne_true, inV_str]
        by_cases hm : y ∈ bs
        · exact iteY hm ⟨_, rfl, hkk _ _ (if_pos hm) (Same.refl _)⟩
        · exact iteN hm (hnn _ (if_neg hm) (Same.refl _))
      · have ef : (nbrs Ts x).filterMap (fun y => if y ∈ bs then some (V.str y) else none) = (R x).map V.str := by
          show _ = ((nbrs Ts x).filter fun y => decide (y ∈ bs)).map V.str
          generalize nbrs Ts x = l
          induction l with
          | nil => rfl
          | cons y l ih =>
            rw [List.filterMap_cons, List.filter_cons, ih]
            by_cases hm : y ∈ bs <;> simp [hm]
        rw [ef] at e3
        have ek3 := s3 _ _ ek
        have Ll : L.length ≤ 40 := by
          have := congrArg List.length eL
          rw [List.length_map, List.length_take] at this
          omega
        have xnew : ¬ x ∈ L.map (·.1) := fun h => by
          rw [eL] at h
          obtain ⟨j, hj⟩ := List.getElem?_of_mem h
          rw [List.getElem?_take] at hj
          split at hj
          · have := nodup_at B.nd hj hxi
            omega
          · cases hj
        refine ⟨_, rfl, _, rfl, ko, _, rfl, DPut.k (k := Sum.inr x) ek3 (by rw [tab_len]; exact small1000 (by omega)), ?_⟩
        rw [put_new (f := V.ref) xnew]
        refine ⟨L ++ [(x, D)], _, _, rfl, same_upd' (sk.trans s3) nko, upd_same, ?_, fun r hr => ?_⟩
        · rw [List.map_append, eL, List.take_add_one, hxi]; rfl
        · have nk : ∀ {p : Addr} {xs : List V}, H3 p = some (.lst xs) → p ≠ ko := fun {p xs} h e => by rw [e, ek3] at h; cases h
          rcases List.mem_append.mp hr with hr | hr
          · have := s3 _ _ (hL r hr)
            rw [upd_ne (nk this)]; exact this
          · have : r = (x, D) := by simpa using hr
            subst this
            rw [upd_ne (nk e3)]; exact e3
    · rintro σ Hk ⟨L, v4, v5, rfl, sk, ek, eL, hL⟩
      rw [List.length_map, List.take_length] at eL
      have hne := B.ne t
      cases hbs : bs with
      | nil => exact absurd hbs hne
      | cons x0 rest =>
        have x0m : x0 ∈ bs := by rw [hbs]; exact List.mem_cons_self ..
        have sk1 := s1.trans sk
        have eb : Hk b = some (.tup (bs.map V.str)) := sk1 _ _ hB
        have Ll : L.length = bs.length := by rw [← eL, List.length_map]
        refine ⟨_, rfl, _, rfl, b, _, 0, .str x0, rfl, rfl, SqT.of' eb, by rw [hbs]; exact atI_zero _ _, ko, x0, L, R, rfl, .inl ek, by rw [eL]; exact B.nd, by omega, hL, ?_, by rw [eL]; exact x0m, ?_⟩
        · intro r hr y hy
          rw [eL]
          have := (List.mem_filter.mp hy).2
          exact of_decide_eq_true this
        · intro H3 p F s3 np e3 fnd fx fcl
          have fb : ∀ s ∈ ky F, s ∈ bs := fun s hs => by have := (fcl s hs).1; rwa [eL] at this
          have all := together B t GW.nn (F := ky F) fx fb fun s hs y hy hyb => (fcl s hs).2 y (List.mem_filter.mpr ⟨t.mem_nbrs.mpr hy, decide_eq_true hyb⟩)
          have pm : (ky F).Perm bs := perm_of fnd B.nd fun s => ⟨fb s, all s⟩
          refine ⟨p, _, ky F, rfl, .inl e3, tab_keys _ _, by rw [pm.length_eq]; omega, fun ys p2 hp srt np2 => ?_⟩
          have eys : ys = bs := sortedS_eq (hp.trans pm) srt B.srt
          subst eys
          have eb3 : (upd H3 p2 (.lst (ys.map V.str))) b = some (.tup (ys.map V.str)) := by rw [upd_ne (ne_of_none (s3 _ _ eb) np2)]; exact s3 _ _ eb
          have s4 : Same H (upd H3 p2 (.lst (ys.map V.str))) := same_upd' (sk1.trans s3) ((sk1.trans s3).free np2)
          have e4 : (upd H3 p2 (.lst (ys.map V.str))) p2 = some (.lst (ys.map V.str)) := upd_same
          generalize upd H3 p2 (.lst (ys.map V.str)) = H4 at eb3 s4 e4
          refine ⟨_, rfl, b, _, rfl, .inr (SqT.of' eb3), fun p3 np3 => ?_⟩
          have ok : StrOk ys := fun y hy => nm_ok (G.nm y ((B.mem y).mp hy).1)
          refine ⟨_, _, dp_strs (SqL.of' (by rw [upd_ne (ne_of_none e4 np3)]; exact e4)), dp_strs (SqL.of' upd_same), shaped_strs _ ok, shaped_strs _ ok, ?_⟩
          rw [eqv_strs, decide_eq_true rfl]
          exact q _ (same_upd' s4 (s4.free np3))
end
end K66
set_option maxHeartbeats 4000000
/-! Best just by halves. -/
namespace K66
open PySem PySem.Spec PyProof.Rows L2 PpSet
section
variable {P : Program} {w : World} {K : PySem.W.Frag} {mg : Str → Option Value} {base : Heap}
theorem total_ints (W : Wts) : (W.map fun p => V.int p.2) = (W.map (·.2)).map V.int := by rw [List.map_map]; rfl
def spHalves : Sp := fun vs H Q _ => ∃ (a b c : Addr) (T : Halls) (rk : Str → Nat) (W : Wts) (ns : List Str), vs = [.ref a, .ref b, .ref c] ∧ H a = some (.dK (tab optV T)) ∧ Good T rk ∧ H b = some (.dK (tab V.int W)) ∧ GoodW T W ∧ H c = some (.lst (ns.map V.str)) ∧
  (∀ x ∈ ns, x ∈ T.map (·.1)) ∧ ∀ H', Same H H' → Q (.bl true) H'
abbrev N57 : List Str := ["rooms", "loads", "names", "best", "total", "name", "paper", "here", "side"]
theorem sc57 : FnScope N57 ["rooms", "loads", "names"] (defScope (top 57)) := ⟨rfl, rfl, rfl, by decide +kernel, rfl, by decide +kernel, by decide +kernel⟩
theorem c_halves (T : Tx K mg) : Cal P w K mg base 7 "_law_halves_right" spHalves := by
  refine cal_of T.d57 sc57 (fun _ _ _ _ _ _ us hl => match us, hl with | [_, _, _], _ => rfl) (fun vs H Q E h => ?_) (fun f cdv A outer s H vs Q E hr h => ?_)
  · obtain ⟨_, _, _, _, _, _, _, rfl, _⟩ := h; rfl
  · obtain ⟨a, b, c, Ts, rk, W, ns, rfl, hA, G, hB, GW, hC, hns, q⟩ := h
    have hu := hu_of hr
    have t := G.t
    have hzW : W.length ≤ sizeLine := small40 (Nat.le_trans GW.len G.le)
    have C1 := c_best (P := P) (w := w) (base := base) T
    have C2 := c_paper (P := P) (w := w) (base := base) T
    have C3 := c_right (P := P) (w := w) (base := base) T
    have C4 := c_cost (P := P) (w := w) (base := base) T
    refine ⟨_, pss_cons (ps_set (i := 3) sc57.nd rfl (Or.inl rfl) (pc C1 hr (pa_cons (pv 0) (pa_cons (pv 1) pa_nil))))
      (pss_cons (ps_set (i := 4) sc57.nd rfl (Or.inl rfl) (pB (cr_sum rfl) T (pa_cons (pe_lk (pe_lc (own := [("name", 5)]) (g := gName 5) (tt := tYes) rfl sc57.nd (pi_keys (pv 1)) (blkOk_by (N := N57) (sc := defScope (top 57)) (by decide +kernel)) (fun _ _ _ _ _ => pg_name (i := 5) sc57.nd rfl (Or.inl rfl)) (fun _ _ _ _ _ => pts_nil) (fun _ _ _ _ _ => pe_dget hu (pv 1) (pv 5) (fun _ _ => rfl)))) pa_nil)))
      (pss_cons (ps_for PassesOwn.never rfl (pi_list (pv 2)) (pg_name (i := 5) sc57.nd rfl (Or.inl rfl))
        (pss_cons (ps_set (i := 6) sc57.nd rfl (Or.inl rfl) (pc C2 hr (pa_cons (pv 0) (pa_cons (pv 1) (pa_cons (pv 5) pa_nil)))))
        (pss_cons (ps_if (pt_cmpR op_ne (pc C3 hr (pa_cons (pv 0) (pa_cons (pv 1) (pa_cons (pv 5) (pa_cons (pv 6) pa_nil))))) (pe_cmpR op_in_seq (pv 5) (pv 3) rfl) (nomark _)) (pss_one (ps_ret pe_bl)) pss_nil)
        (pss_cons (ps_set (i := 7) sc57.nd rfl (Or.inl rfl) (pc C4 hr (pa_cons (pv 0) (pa_cons (pv 1) (pa_cons (pv 5) pa_nil)))))
        (pss_one (ps_lk (ps_for PassesOwn.never rfl (pi_keys (pv 6)) (pg_name (i := 8) sc57.nd rfl (Or.inl rfl))
          (pss_one (ps_if (pt_cmpR op_ne (pc C4 hr (pa_cons (pv 0) (pa_cons (pv 1) (pa_cons (pv 8) pa_nil)))) (pe_op op_sub (pe_op op_add (pv 7) (pv 4)) (pe_op op_mul pe_int (pe_dget hu (pv 6) (pv 8) (fun _ _ => rfl)))) (nomark _)) (pss_one (ps_ret pe_bl)) pss_nil))))))))) 
      (pss_one (ps_ret pe_bl)))), ?_⟩
    refine ⟨_, rfl, _, rfl, a, b, Ts, rk, W, rfl, hA, G, hB, GW, fun H1 bp bs s1 nbp B eb => ?_⟩
    refine lk_keys (fun p => .int p.2) rfl (.inl (s1 _ _ hB)) hzW (fun p H2 Kt hp m hk => ⟨rfl, ?_⟩) (fun D H2 s2 nD e2 => ?_)
    · exact ⟨_, rfl, _, rfl, b, _, rfl, atW_get (m.d _ _ (.inl (s1 _ _ hB))) GW.nd hp, hk _ (Same.refl _)⟩
    refine ⟨D, W.map (·.2), rfl, SqL.of' (by rw [e2, total_ints]), ?_⟩
    have s12 := s1.trans s2
    refine ⟨_, rfl, c, rfl, ⟨_, SqL.of' (s12 _ _ hC)⟩, ?_⟩
    refine for_list (K := K) (a := c) (xs := ns.map V.str) (fun i σ Hk => ∃ v5 v6 v7 v8 : Option V, σ = [some (.ref a), some (.ref b), some (.ref c), some (.ref bp), some (.int (tot W)), v5, v6, v7, v8] ∧ Same H2 Hk)
      ⟨_, _, _, _, rfl, Same.refl _⟩ (fun i σ Hk _ ⟨_, _, _, _, _, h⟩ => SqL.of' (h _ _ (s12 _ _ hC))) ?_ ?_
    · rintro i y σ Hk hi ⟨v5, v6, v7, v8, rfl, sk⟩
      rw [List.getElem?_map] at hi
      obtain ⟨x, hxi, rfl⟩ := Option.map_eq_some_iff.mp hi
      have hx := hns x (List.mem_of_getElem? hxi)
      have sk1 := s12.trans sk
      refine ⟨_, rfl, _, rfl, _, rfl, a, b, x, Ts, rk, W, rfl, sk1 _ _ hA, G, sk1 _ _ hB, GW, hx, fun H3 p R s3 np PR e3 => ?_⟩
      have sk3 := sk1.trans s3
      refine ⟨_, rfl, _, rfl, _, rfl, _, rfl, a, b, p, x, Ts, rk, W, R, rfl, sk3 _ _ hA, G, sk3 _ _ hB, GW, hx, e3, PR, fun H4 k s4 hk => ?_⟩
      have sk4 := sk3.trans s4
      have eb4 : H4 bp = some (.tup (bs.map V.str)) := s4 _ _ (s3 _ _ (sk _ _ (s2 _ _ eb)))
      refine ⟨_, rfl, _, rfl, bp, _, rfl, .inr (SqT.of' eb4), rfl, flat_strs _, ?_⟩
      rw [if_neg Bool.false_ne_true, inV_str]
      have ekk : k = decide (x ∈ bs) := by
        have h1 : k = true ↔ x ∈ bs := by
          rw [hk, B.mem, t.best_iff GW.nn hx]
          exact ⟨fun h => ⟨hx, h⟩, fun h => h.2⟩
        cases k with
        | true => exact (decide_eq_true (h1.mp rfl)).symm
        | false => exact (decide_eq_false fun h => by have := h1.mpr h; cases this).symm
      refine ⟨rfl, _, rfl, ?_⟩
      rw [ekk, decide_eq_true rfl]
      refine iteF ?_
      refine ⟨_, rfl, _, rfl, _, rfl, a, b, x, Ts, rk, W, rfl, sk4 _ _ hA, G, sk4 _ _ hB, GW, hx, fun H5 s5 => ?_⟩
      have sk5 := sk4.trans s5
      have e5 : H5 p = some (.dK (tab V.int R)) := s5 _ _ (s4 _ _ e3)
      have npH : H p = none := (sk1.free np)
      have pa : a ≠ p := ne_of_none hA npH
      have pb : b ≠ p := ne_of_none hB npH
      refine lkS_of p _ (Lk.of_rd (.inl e5)) fun od H6 h6 he => ?_
      refine ⟨_, rfl, p, od, rfl, .inl ⟨_, h6, ?_⟩⟩
      refine for_it walk_keys (fun j σ Hx => ∃ v8 : Option V, σ = [some (.ref a), some (.ref b), some (.ref c), some (.ref bp), some (.int (tot W)), some (.str x), some (.ref p), some (.int (costOf Ts rk W x)), v8] ∧ Same H6 Hx) ⟨_, rfl, Same.refl _⟩ (fun j σ Hx _ ⟨_, _, h⟩ => h _ _ h6) ?_ ?_
      · rintro j y σ Hx H' hj ⟨v8, rfl, sx⟩ hy
        rw [tab_len] at hj
        obtain ⟨rfl, ky', v, hv, rfl⟩ := hy
        have hRj : R[j]? = some R[j] := List.getElem?_eq_getElem hj
        generalize R[j] = pr at hRj
        obtain ⟨u, n⟩ := pr
        rw [tab_at, hRj] at hv
        cases (show (Sum.inr u, V.int n) = (ky', v) from Option.some.inj hv)
        have hm := List.mem_of_getElem? hRj
        obtain ⟨hadj, rfl⟩ := (PR.mem u n).mp hm
        have hA6 : H' a = some (.dK (tab optV Ts)) := sx _ _ ((he a pa).trans (sk5 _ _ hA))
        have hB6 : H' b = some (.dK (tab V.int W)) := sx _ _ ((he b pb).trans (sk5 _ _ hB))
        refine ⟨_, rfl, _, rfl, _, rfl, a, b, u, Ts, rk, W, rfl, hA6, G, hB6, GW, (t.adj_names hadj).2, fun H7 s7 => ?_⟩
        have gp : DGet H7 p (.str u) (some (.int (bw Ts rk W x u))) := by
          have := DGet.rd (k := Sum.inr u) (.inr ⟨od, s7 _ _ (sx _ _ h6)⟩)
          rw [val_mem (f := V.int) PR.nd hm] at this
          exact this
        refine ⟨_, rfl, _, rfl, _, _, rfl, rfl, _, rfl, _, rfl, p, _, rfl, gp, 2, bw Ts rk W x u, rfl, rfl, .inl ⟨by decide, by decide⟩, _, _, rfl, rfl, rfl, _, rfl, ?_⟩
        have ec := t.cost_adj (W := W) hadj
        rw [decide_eq_true (congrArg V.int ec)]
        exact iteF ⟨_, rfl, sx.trans s7⟩
      · rintro σ Hx ⟨v8, rfl, sx⟩
        refine ⟨sx _ _ h6, _, _, _, _, rfl, ?_⟩
        exact (sk.trans (s3.trans (s4.trans s5))).trans (same_res he sx)
    · rintro σ Hk ⟨v5, v6, v7, v8, rfl, sk⟩
      exact q _ (s12.trans sk)
end
end K66
set_option maxHeartbeats 4000000
/-! The walk through heavy doors. -/
namespace K66
open PySem PySem.Spec PyProof.Rows L2 PpSet
/-- how many cost less -/
def cheaper (T : Halls) (rk : Str → Nat) (W : Wts) (x : Str) : Nat := (T.map (·.1)).countP fun y => decide (costOf T rk W y < costOf T rk W x)
theorem cheaper_le (T : Halls) (rk : Str → Nat) (W : Wts) (x : Str) : cheaper T rk W x ≤ T.length := by
  unfold cheaper
  have := List.countP_le_length (p := fun y => decide (costOf T rk W y < costOf T rk W x)) (l := T.map (·.1))
  rwa [List.length_map] at this
theorem countP_lt {α : Type} {p q : α → Bool} : ∀ {l : List α}, (∀ y ∈ l, p y = true → q y = true) → (∃ y ∈ l, q y = true ∧ p y = false) → l.countP p < l.countP q
  | [], _, h => by obtain ⟨y, h, _⟩ := h; cases h
  | a :: l, h1, h2 => by
    have hle : l.countP p ≤ l.countP q := List.countP_mono_left fun y hy => h1 y (List.mem_cons_of_mem _ hy)
    rw [List.countP_cons, List.countP_cons]
    obtain ⟨y, hy, hq, hp⟩ := h2
    rcases List.mem_cons.mp hy with rfl | hy
    · rw [hq, hp]; simp; omega
    · have ih := countP_lt (l := l) (fun z hz => h1 z (List.mem_cons_of_mem _ hz)) ⟨y, hy, hq, hp⟩
      have := h1 a (List.mem_cons_self ..)
      cases ea : p a
      · cases eb : q a <;> simp <;> omega
      · rw [this ea]; simp; omega
theorem cheaper_lt {T : Halls} {rk : Str → Nat} {W : Wts} {x s : Str} (hs : s ∈ T.map (·.1)) (h : costOf T rk W s < costOf T rk W x) : cheaper T rk W s < cheaper T rk W x := by
  refine countP_lt (fun y _ hy => ?_) ⟨s, hs, decide_eq_true h, decide_eq_false (Int.lt_irrefl _)⟩
  have := of_decide_eq_true hy
  exact decide_eq_true (Int.lt_trans this h)
theorem heavy_list {T : Halls} {rk : Str → Nat} {W R : Wts} {x : Str} (t : Tree T rk) (hW : ∀ p ∈ W, 0 ≤ p.2) (PR : PaperIs T rk W x R) : (R.filterMap fun p => if tot W < 2 * p.2 then some (V.str p.1) else none) = ((R.filter fun p => decide (tot W < 2 * p.2)).map (·.1)).map V.str ∧
    ((∀ s, adj T x s → 2 * bw T rk W x s ≤ tot W) ∧ R.filter (fun p => decide (tot W < 2 * p.2)) = [] ∨ ∃ s, adj T x s ∧ tot W < 2 * bw T rk W x s ∧ (R.filter fun p => decide (tot W < 2 * p.2)).map (·.1) = [s]) := by
  constructor
  · generalize R = l
    induction l with
    | nil => rfl
    | cons p l ih =>
      rw [List.filterMap_cons, List.filter_cons, ih]
      by_cases e : tot W < 2 * p.2 <;> simp [e]
  · cases hf : R.filter fun p => decide (tot W < 2 * p.2) with
    | nil =>
      refine .inl ⟨fun s hs => ?_, rfl⟩
      by_cases h : 2 * bw T rk W x s ≤ tot W
      · exact h
      · have hm := (PR.mem s _).mpr ⟨hs, rfl⟩
        have : (s, bw T rk W x s) ∈ R.filter fun p => decide (tot W < 2 * p.2) := List.mem_filter.mpr ⟨hm, decide_eq_true (by show tot W < 2 * bw T rk W x s; omega)⟩
        rw [hf] at this; cases this
    | cons p l =>
      obtain ⟨s, n⟩ := p
      have h0 : ∀ r ∈ (s, n) :: l, adj T x r.1 ∧ tot W < 2 * bw T rk W x r.1 := fun r hr => by
        rw [← hf] at hr
        obtain ⟨h1, h2⟩ := List.mem_filter.mp hr
        obtain ⟨h3, h4⟩ := (PR.mem r.1 r.2).mp h1
        have h2 := of_decide_eq_true h2
        rw [h4] at h2
        exact ⟨h3, h2⟩
      have hs := h0 _ (List.mem_cons_self ..)
      refine .inr ⟨s, hs.1, hs.2, ?_⟩
      cases l with
      | nil => rfl
      | cons r l =>
        exfalso
        have hr := h0 r (List.mem_cons_of_mem _ (List.mem_cons_self ..))
        have e := t.heavy_one hW hs.1 hr.1 hs.2 hr.2
        have nd : ((R.filter fun p => decide (tot W < 2 * p.2)).map (·.1)).Nodup := List.Nodup.sublist ((List.filter_sublist).map _) PR.nd
        rw [hf] at nd
        have : s ≠ r.1 := by
          have := (List.nodup_cons.mp nd).1
          intro z
          exact this (by rw [z]; exact List.mem_cons_self ..)
        exact this e
section
variable {P : Program} {w : World} {K : PySem.W.Frag} {mg : Str → Option Value} {base : Heap}
def spWalk : Sp := fun vs H Q _ => ∃ (a b : Addr) (x : Str) (T : Halls) (rk : Str → Nat) (W : Wts), vs = [.ref a, .ref b, .str x] ∧ H a = some (.dK (tab optV T)) ∧ Good T rk ∧ H b = some (.dK (tab V.int W)) ∧ GoodW T W ∧ x ∈ T.map (·.1) ∧ ∀ H', Same H H' → Q (.bl true) H'
abbrev N58 : List Str := ["rooms", "loads", "name", "total", "here", "step", "paper", "heavy", "side", "one"]
theorem sc58 : FnScope N58 ["rooms", "loads", "name"] (defScope (top 58)) := ⟨rfl, rfl, rfl, by decide +kernel, rfl, by decide +kernel, by decide +kernel⟩
theorem c_walk (T : Tx K mg) : Cal P w K mg base 7 "_law_walk_right" spWalk := by
  refine cal_of T.d58 sc58 (fun _ _ _ _ _ _ us hl => match us, hl with | [_, _, _], _ => rfl) (fun vs H Q E h => ?_) (fun f cdv A outer s H vs Q E hr h => ?_)
  · obtain ⟨_, _, _, _, _, _, rfl, _⟩ := h; rfl
  · obtain ⟨a, b, x0, Ts, rk, W, rfl, hA, G, hB, GW, hx0, q⟩ := h
    have hu := hu_of hr
    have t := G.t
    have hzW : W.length ≤ sizeLine := small40 (Nat.le_trans GW.len G.le)
    have C1 := c_best (P := P) (w := w) (base := base) T
    have C2 := c_paper (P := P) (w := w) (base := base) T
    have C4 := c_cost (P := P) (w := w) (base := base) T
    refine ⟨_, pss_cons (ps_set (i := 3) sc58.nd rfl (Or.inr rfl) (pB (cr_sum rfl) T (pa_cons (pe_lk (pe_lc (own := [("one", 9)]) (g := gName 9) (tt := tYes) rfl sc58.nd (pi_keys (pv 1)) (blkOk_by (N := N58) (sc := defScope (top 58)) (by decide +kernel)) (fun _ _ _ _ _ => pg_name (i := 9) sc58.nd rfl (Or.inl rfl)) (fun _ _ _ _ _ => pts_nil) (fun _ _ _ _ _ => pe_dget hu (pv 1) (pv 9) (fun _ _ => rfl)))) pa_nil)))
      (pss_cons (ps_set (i := 4) sc58.nd rfl (Or.inl rfl) (pv 2))
      (pss_cons (ps_for PassesOwn.never rfl (pi_range1 rfl (T.fr "range" (by decide +kernel)) (pa_cons (pe_op op_add (pB call_lenR T (pa_cons (pv 0) pa_nil)) pe_int) pa_nil)) (pg_name (i := 5) sc58.nd rfl (Or.inl rfl))
        (pss_cons (ps_set (i := 6) sc58.nd rfl (Or.inr rfl) (pc C2 hr (pa_cons (pv 0) (pa_cons (pv 1) (pa_cons (pv 4) pa_nil)))))
        (pss_cons (ps_lk (ps_setLc (i := 7) (own := [("side", 8)]) (g := gName 8) (tt := tTest (tOp (rI0 fun i j => .bl (decide (j < i))) (tOp (rI CMul fun i j => .int (i * j)) (tC (.int 2)) (tDGet (tVar 6) (tVar 8))) (tVar 3))) rfl sc58.nd rfl rfl (sw_true rfl rfl rfl (by decide +kernel)) (pi_keys (pv 6)) (blkOk_by (N := N58) (sc := defScope (top 58)) (by decide +kernel)) (fun _ _ _ _ _ => pg_name (i := 8) sc58.nd rfl (Or.inl rfl))
            (fun _ _ _ _ _ => pts_one (pt_cmpR op_gt (pe_op op_mul pe_int (pe_dget hu (pv 6) (pv 8) (fun _ _ => rfl))) (pv 3) (nomark _))) (fun _ _ _ _ _ => pv 8)))
        (pss_cons (ps_if (pt_cmpR (op_eqD hr.units) (pv 7) (pe_lst pa_nil) (nomark _)) (pss_one (ps_ret (pe_cmpR op_in_seq (pv 4) (pc C1 hr (pa_cons (pv 0) (pa_cons (pv 1) pa_nil))) rfl))) pss_nil)
        (pss_cons (ps_if (PW.pt (pw_or (pt_cmpR op_ne (pB call_len_seq T (pa_cons (pv 7) pa_nil)) pe_int (nomark _)) (pw_or1 (pt_cmpR op_ge (pc C4 hr (pa_cons (pv 0) (pa_cons (pv 1) (pa_cons (pe_ix ix_list (pv 7) pe_int (fun _ _ => rfl)) pa_nil)))) (pc C4 hr (pa_cons (pv 0) (pa_cons (pv 1) (pa_cons (pv 4) pa_nil)))) (nomark _))))) (pss_one (ps_ret pe_bl)) pss_nil)
        (pss_one (ps_set (i := 4) sc58.nd rfl (Or.inl rfl) (pe_ix ix_list (pv 7) pe_int (fun _ _ => rfl)))))))))
      (pss_one (ps_ret pe_bl)))), ?_⟩
    refine lk_keys (fun p => .int p.2) rfl (.inl hB) hzW (fun p H2 Kt hp m hk => ⟨rfl, ?_⟩) (fun D H1 s1 nD e1 => ?_)
    · exact ⟨_, rfl, _, rfl, b, _, rfl, atW_get (m.d _ _ (.inl hB)) GW.nd hp, hk _ (Same.refl _)⟩
    refine ⟨D, W.map (·.2), rfl, SqL.of' (by rw [e1, total_ints]), ?_⟩
    have hl : (tab optV Ts).length = Ts.length := tab_len ..
    have h40 := G.le
    refine ⟨_, rfl, _, rfl, a, _, rfl, .inl (s1 _ _ hA), _, _, rfl, rfl, _, rfl, by rw [hl]; omega, by rw [hl]; omega, ?_⟩
    have en : ((((tab optV Ts).length : Nat) : Int) + 1).toNat = Ts.length + 1 := by rw [hl]; omega
    rw [en]
    refine for_range (n := Ts.length + 1) (fun i σ Hk => ∃ (x : Str) (v5 v6 v7 v8 v9 : Option V), σ = [some (.ref a), some (.ref b), some (.str x0), some (.int (tot W)), some (.str x), v5, v6, v7, v8, v9] ∧ Same H1 Hk ∧ x ∈ Ts.map (·.1) ∧ i + cheaper Ts rk W x ≤ Ts.length)
      ⟨x0, _, _, _, _, _, rfl, Same.refl _, hx0, by rw [Nat.zero_add]; exact cheaper_le ..⟩ ?_ ?_
    · rintro i σ Hk hi ⟨x, v5, v6, v7, v8, v9, rfl, sk, hx, hc⟩
      have sk1 := s1.trans sk
      refine ⟨_, rfl, _, rfl, _, rfl, a, b, x, Ts, rk, W, rfl, sk1 _ _ hA, G, sk1 _ _ hB, GW, hx, fun H3 p R s3 np PR e3 => ?_⟩
      have sk3 := sk1.trans s3
      have hzR : R.length ≤ sizeLine := small40 (Nat.le_trans (PR.len t) G.le)
      refine lkS_asg ?_
      refine lk_keysF (fun r => if tot W < 2 * r.2 then some (.str r.1) else none) rfl (.inl e3) hzR (fun r H4 Kt Kn hr4 m4 hk hn => ⟨rfl, ?_⟩) (fun D4 H4 s4 n4 e4 => ?_)
      · have gp : DGet H4 p (.str r.1) (some (.int r.2)) := atW_get (m4.d _ _ (.inl e3)) PR.nd hr4
        refine ⟨_, rfl, _, rfl, p, _, rfl, gp, 2, r.2, rfl, rfl, .inl ⟨by decide, by decide⟩, _, rfl, _, _, rfl, rfl, _, rfl, ?_⟩
        by_cases hh : tot W < 2 * r.2
        · exact iteY hh ⟨_, rfl, hk _ _ (if_pos hh) (Same.refl _)⟩
        · exact iteN hh (hn _ (if_neg hh) (Same.refl _))
      obtain ⟨eh, hcase⟩ := heavy_list t GW.nn PR
      rw [eh] at e4
      have sk4 := sk3.trans s4
      refine ⟨_, rfl, Nat.zero_le _, fun q1 nq1 => ?_⟩
      have s5 : Same H4 (upd H4 q1 (.lst [])) := same_upd nq1
      have okh : StrOk ((R.filter fun p => decide (tot W < 2 * p.2)).map (·.1)) := fun y hy => by
        obtain ⟨r, hr4, rfl⟩ := List.mem_map.mp hy
        have hr5 := (List.mem_filter.mp hr4).1
        exact nm_ok (G.nm _ (t.adj_names ((PR.mem r.1 r.2).mp hr5).1).2)
      refine ⟨_, _, dp_strs (SqL.of' (s5 _ _ e4)), dp_nil (SqL.of' upd_same), shaped_strs _ okh, shaped_nil, ?_⟩
      rw [eqv_nil]
      have e5 := s5 _ _ e4
      have sk5 := sk4.trans s5
      generalize upd H4 q1 (.lst []) = H5 at s5 e5 sk5
      rcases hcase with ⟨hbest, hnil⟩ | ⟨s, hadj, hheavy, hone⟩
      · rw [hnil]
        refine ⟨_, rfl, iteT ?_⟩
        refine ⟨_, rfl, _, rfl, _, rfl, a, b, Ts, rk, W, rfl, sk5 _ _ hA, G, sk5 _ _ hB, GW, fun H6 bp bs s6 nbp B eb => ?_⟩
        refine ⟨bp, _, rfl, .inr (SqT.of' eb), rfl, flat_strs _, ?_⟩
        rw [if_neg Bool.false_ne_true, inV_str]
        have hb : x ∈ bs := (B.mem x).mpr ⟨hx, (t.best_iff GW.nn hx).mp hbest⟩
        rw [decide_eq_true hb]
        exact q _ (sk5.trans s6)
      · rw [hone] at e5 ⊢
        refine ⟨_, rfl, iteF ?_⟩
        have hsn := (t.adj_names hadj).2
        have hlt := t.heavy_less hadj hheavy
        refine ⟨_, rfl, D4, _, rfl, .inl (SqL.of' e5), rfl, _, rfl, ?_⟩
        refine iteF ?_
        refine ⟨_, rfl, _, rfl, _, rfl, D4, _, 0, .str s, rfl, rfl, SqL.of' e5, atI_zero _ _, a, b, s, Ts, rk, W, rfl, sk5 _ _ hA, G, sk5 _ _ hB, GW, hsn, fun H6 s6 => ?_⟩
        have sk6 := sk5.trans s6
        refine ⟨_, rfl, _, rfl, _, rfl, a, b, x, Ts, rk, W, rfl, sk6 _ _ hA, G, sk6 _ _ hB, GW, hx, fun H7 s7 => ?_⟩
        refine ⟨_, _, rfl, rfl, _, rfl, iteN (by omega) ?_⟩
        refine ⟨_, rfl, D4, _, 0, .str s, rfl, rfl, SqL.of' (s7 _ _ (s6 _ _ e5)), atI_zero _ _, ?_⟩
        refine ⟨s, _, _, _, _, _, rfl, ((((sk.trans s3).trans s4).trans s5).trans s6).trans s7, hsn, ?_⟩
        have := cheaper_lt (rk := rk) (W := W) hsn hlt
        omega
    · rintro σ Hk ⟨x, v5, v6, v7, v8, v9, rfl, sk, hx, hc⟩
      omega
end
end K66
set_option maxHeartbeats 4000000
/-! News up to a root. -/
namespace K66
open PySem PySem.Spec PyProof.Rows L2 PpSet
theorem Good.turn {T : Halls} {rk : Str → Nat} (G : Good T rk) {x : Str} (hx : x ∈ T.map (·.1)) : Good (turnT T rk x) (fun v => dd T rk v x) :=
  ⟨G.t.turn_tree hx, fun y hy => G.nm y (by rw [G.t.turn_names] at hy; exact hy), by rw [G.t.turn_len]; exact G.le⟩
def ld (W : Wts) (x : Str) : Int := ((W.find? fun p => decide (p.1 = x)).map (·.2)).getD 0
theorem ld_val (W : Wts) (x : Str) : (valV (tab V.int W) (Sum.inr x)).getD (.int 0) = .int (ld W x) := by
  rw [val_tab]
  unfold ld
  cases W.find? fun p => decide (p.1 = x) <;> rfl
theorem ld_cons (p : Str × Int) (W : Wts) (x : Str) (h : ¬ p.1 ∈ W.map (·.1)) : ld (p :: W) x = (if p.1 = x then p.2 else 0) + ld W x := by
  unfold ld
  rw [List.find?_cons]
  by_cases e : p.1 = x
  · rw [decide_eq_true e, if_pos e]
    have : W.find? (fun q => decide (q.1 = x)) = none := List.find?_eq_none.mpr fun q hq => by
      have : ¬ q.1 = x := fun z => h (by rw [e, ← z]; exact List.mem_map.mpr ⟨q, hq, rfl⟩)
      simp [this]
    rw [this]
    show p.2 = p.2 + 0
    omega
  · rw [decide_eq_false e, if_neg e, Int.zero_add]
theorem ld_bound {W : Wts} (h : ∀ p ∈ W, 0 ≤ p.2 ∧ p.2 ≤ 1000000000000) (x : Str) : 0 ≤ ld W x ∧ ld W x ≤ 1000000000000 := by
  unfold ld
  cases hf : W.find? fun p => decide (p.1 = x) with
  | none => exact ⟨by decide, by decide⟩
  | some p => exact h p (List.mem_of_find?_eq_some hf)
theorem one_sum {f : Str → Int} {y : Str} {n : Int} : ∀ {l : List Str}, l.Nodup → y ∈ l → (l.map fun x => (if y = x then n else 0) * f x).sum = n * f y
  | [], _, h => by cases h
  | x :: l, nd, h => by
    obtain ⟨n1, n2⟩ := List.nodup_cons.mp nd
    have zero : ∀ l : List Str, ¬ y ∈ l → (l.map fun x => (if y = x then n else 0) * f x).sum = 0 := by
      intro l
      induction l with
      | nil => intro _; rfl
      | cons z l ih =>
        intro h
        rw [List.map_cons, List.sum_cons, ih fun q => h (List.mem_cons_of_mem _ q), if_neg fun e => h (by rw [e]; exact List.mem_cons_self ..)]
        simp
    rw [List.map_cons, List.sum_cons]
    by_cases e : y = x
    · subst e
      rw [zero l n1, if_pos rfl, Int.add_zero]
    · rcases List.mem_cons.mp h with h | h
      · exact absurd h e
      · rw [one_sum n2 h, if_neg e]; simp
theorem ld_sum {f : Str → Int} {N : List Str} (nd : N.Nodup) : ∀ {W : Wts}, (W.map (·.1)).Nodup → (∀ p ∈ W, p.1 ∈ N) → (N.map fun x => ld W x * f x).sum = (W.map fun p => p.2 * f p.1).sum
  | [], _, _ => by
    have : ∀ l : List Str, (l.map fun x => ld [] x * f x).sum = 0 := by
      intro l
      induction l with
      | nil => rfl
      | cons z l ih => rw [List.map_cons, List.sum_cons, ih]; show 0 * f z + 0 = 0; omega
    exact this N
  | p :: W, hd, hm => by
    obtain ⟨n1, n2⟩ := List.nodup_cons.mp (show (p.1 :: W.map (·.1)).Nodup from hd)
    have ih := ld_sum (f := f) nd n2 fun q hq => hm q (List.mem_cons_of_mem _ hq)
    have e : (N.map fun x => ld (p :: W) x * f x).sum = (N.map fun x => (if p.1 = x then p.2 else 0) * f x + ld W x * f x).sum := by
      congr 1
      refine List.map_congr_left fun x _ => ?_
      rw [ld_cons p W x n1, Int.add_mul]
    rw [e, sum_add, one_sum nd (hm p (List.mem_cons_self ..)), ih, List.map_cons, List.sum_cons]
section
variable {P : Program} {w : World} {K : PySem.W.Frag} {mg : Str → Option Value} {base : Heap}
def spNews : Sp := fun vs H Q _ => ∃ (a b : Addr) (x : Str) (T : Halls) (rk : Str → Nat) (W : Wts), vs = [.ref a, .ref b, .str x] ∧ H a = some (.dK (tab optV T)) ∧ Good T rk ∧ H b = some (.dK (tab V.int W)) ∧ GoodW T W ∧ x ∈ T.map (·.1) ∧ ∀ H', Same H H' → Q (.bl true) H'
abbrev N59 : List Str := ["rooms", "loads", "room", "about", "found", "name"]
theorem sc59 : FnScope N59 ["rooms", "loads", "room"] (defScope (top 59)) := ⟨rfl, rfl, rfl, by decide +kernel, rfl, by decide +kernel, by decide +kernel⟩
theorem c_news (T : Tx K mg) : Cal P w K mg base 9 "_law_news_right" spNews := by
  refine cal_of T.d59 sc59 (fun _ _ _ _ _ _ us hl => match us, hl with | [_, _, _], _ => rfl) (fun vs H Q E h => ?_) (fun f cdv A outer s H vs Q E hr h => ?_)
  · obtain ⟨_, _, _, _, _, _, rfl, _⟩ := h; rfl
  · obtain ⟨a, b, x, Ts, rk, W, rfl, hA, G, hB, GW, hx, q⟩ := h
    have hu := hu_of hr
    have t := G.t
    have C1 := c_turned (P := P) (w := w) (base := base) T
    obtain ⟨fs, fds, FS, hms, kps, kbs⟩ := c_steps (P := P) (w := w) (base := base) T
    have C4 := c_cost (P := P) (w := w) (base := base) T
    refine ⟨_, pss_cons (ps_set (i := 3) sc59.nd rfl (Or.inl rfl) (pc C1 hr (pa_cons (pv 0) (pa_cons (pv 2) pa_nil))))
      (pss_cons (ps_set (i := 4) sc59.nd rfl (Or.inl rfl) pe_int)
      (pss_cons (ps_lk (ps_for PassesOwn.never rfl (pi_keys (pv 0)) (pg_name (i := 5) sc59.nd rfl (Or.inl rfl))
        (pss_one (ps_set (i := 4) sc59.nd rfl (Or.inl rfl) (pe_op op_add (pv 4) (pe_op op_mul (pe_dget2 hu (pv 1) (pv 5) pe_int ⟨rfl, rfl, rfl, rfl⟩)
          (pB call_len_seq T (pa_cons (pe_callN FS (hr.mono (by decide)) rfl hms kps kbs pass0 (pa_cons (pv 3) (pa_cons pe_dnewK (pa_cons pe_str pa_nil))) (pk_cons (pv 5) pk_nil)) pa_nil))))))))
      (pss_one (ps_ret (pe_cmpR op_eq (pv 4) (pc C4 hr (pa_cons (pv 0) (pa_cons (pv 1) (pa_cons (pv 2) pa_nil)))) (nomark _)))))), ?_⟩
    refine ⟨_, rfl, _, rfl, a, x, Ts, rk, rfl, hA, G, hx, fun H1 ab s1 nab eab => ?_⟩
    have GT := G.turn hx
    have a1 := s1 _ _ hA
    have ne : ab ≠ a := (ne_of_none hA nab).symm
    refine lkS_of a _ (Lk.of_rd (.inl a1)) fun od H0 h0 he => ?_
    refine ⟨_, rfl, a, od, rfl, .inl ⟨_, h0, ?_⟩⟩
    have e0 : H0 ab = some (.dK (tab optV (turnT Ts rk x))) := (he _ ne).trans eab
    have b0 : Rd H0 b (.dK (tab V.int W)) := (lk_rdm (.inl a1) h0 he).d _ _ (.inl (s1 _ _ hB))
    have names_eq : (turnT Ts rk x).map (·.1) = Ts.map (·.1) := t.turn_names x
    refine for_it walk_keys (fun i σ Hk => ∃ (fd : Int) (v5 : Option V), σ = [some (.ref a), some (.ref b), some (.str x), some (.ref ab), some (.int fd), v5] ∧ Same H0 Hk ∧ fd = (((Ts.map (·.1)).take i).map fun y => ld W y * (dd Ts rk x y : Int)).sum)
      ⟨0, _, rfl, Same.refl _, by simp⟩ (fun i σ Hk _ ⟨_, _, _, h, _⟩ => h _ _ h0) ?_ ?_
    · rintro i y σ Hk H' hi ⟨fd, v5, rfl, sk, efd⟩ hy
      rw [tab_len] at hi
      obtain ⟨rfl, ky', v, hv, rfl⟩ := hy
      have hTi : Ts[i]? = some Ts[i] := List.getElem?_eq_getElem hi
      generalize Ts[i] = pr at hTi
      obtain ⟨y, o⟩ := pr
      rw [tab_at, hTi] at hv
      cases (show (Sum.inr y, optV o) = (ky', v) from Option.some.inj hv)
      have hyn : y ∈ Ts.map (·.1) := List.mem_map.mpr ⟨_, List.mem_of_getElem? hTi, rfl⟩
      have bk := sk.rd b0
      refine ⟨_, rfl, _, rfl, b, rfl, .inl ⟨_, bk⟩, _, rfl, _, DGet.rd (k := Sum.inr y) bk, ?_⟩
      rw [ld_val]
      refine ⟨_, rfl, fun wd nwd => ?_⟩
      have sw : Same H' (upd H' wd (.dK [])) := same_upd nwd
      have ew : (upd H' wd (.dK [])) wd = some (.dK []) := upd_same
      generalize upd H' wd (.dK []) = H2 at sw ew
      refine ⟨_, rfl, rfl, rfl, ab, wd, _, y, turnT Ts rk x, _, rfl, sw _ _ (sk _ _ e0), GT, ew, by rw [names_eq]; exact hyn, fun H3 p xs s3 np e3 el => ?_⟩
      have hway := t.turn_way hx hyn
      rw [hway] at el
      have lb := ld_bound (W := W) (fun p hp => ⟨GW.nn p hp, GW.le p hp⟩) y
      refine ⟨p, xs, rfl, .inr (SqT.of' e3), _, _, rfl, rfl, .inl ⟨by omega, by omega⟩, _, _, rfl, rfl, ?_⟩
      refine ⟨_, _, rfl, (sk.trans sw).trans s3, ?_⟩
      have exl : xs.length = dd Ts rk x y := by omega
      have xi : (Ts.map (·.1))[i]? = some y := by rw [List.getElem?_map, hTi]; rfl
      rw [List.take_add_one, xi, List.map_append, List.sum_append, ← efd, exl]
      simp
    · rintro σ Hk ⟨fd, v5, rfl, sk, efd⟩
      rw [tab_len, List.take_of_length_le (by rw [List.length_map]; omega), ld_sum t.nd GW.nd GW.mem] at efd
      refine ⟨sk _ _ h0, ?_⟩
      have sr : Same H1 (res H1 a Hk) := same_res he sk
      have s1r := s1.trans sr
      refine ⟨_, rfl, _, rfl, _, rfl, _, rfl, a, b, x, Ts, rk, W, rfl, s1r _ _ hA, G, s1r _ _ hB, GW, hx, fun H4 s4 => ⟨rfl, ?_⟩⟩
      have : fd = costOf Ts rk W x := efd
      rw [decide_eq_true (congrArg V.int this)]
      exact q _ (s1r.trans s4)
end
end K66
set_option maxHeartbeats 4000000
/-! The law. -/
namespace K66
open PySem PySem.Spec PyProof.Rows L2 PpSet
theorem if_2 {b : Bool} {σ : L2.St} {H : Hp} {Q : VK} (h : ∀ m : Nat, (m = 40 ∨ m = 11) → Q (.int (m : Int)) H) : if b = true then tC (.int 40) σ H Q else tC (.int 11) σ H Q := by
  cases b with
  | true => exact iteT (h 40 (.inl rfl))
  | false => exact iteF (h 11 (.inr rfl))
theorem sl_2 {K : PySem.W.Frag} {t : Addr} {bs : List Str} {H : Hp} {Q : VK} (hb : SqT K H t (bs.map V.str)) (h : ∀ t' H', Same H H' → SqT K H' t' ((bs.take 2).map V.str) → Q (.ref t') H') : rSlA K (.ref t) none (some 2) H Q := by
  have e2 : HT.sIx (bs.map V.str).length (bs.map V.str).length (some 2) = min 2 bs.length := by
    have := HT.sIx_nat (bs.map V.str).length (bs.map V.str).length 2
    rw [List.length_map] at this ⊢
    exact this
  refine ⟨t, _, rfl, hb, fun hw => ?_, fun hw p np => ?_⟩
  · have : bs.take 2 = bs := List.take_of_length_le (by
      have := hw.2
      rw [e2, List.length_map] at this
      omega)
    refine h t H (Same.refl _) ?_
    rw [this]; exact hb
  · have ec : cutV (bs.map V.str) none (some 2) = (bs.take 2).map V.str := by
      unfold cutV
      rw [e2, HT.sIx_none]
      show List.take (min 2 bs.length - 0) (bs.map V.str) = _
      rw [Nat.sub_zero, List.map_take]
      by_cases h2 : 2 ≤ bs.length
      · rw [Nat.min_eq_left h2]
      · rw [List.take_of_length_le (by rw [List.length_map]; omega), List.take_of_length_le (by rw [List.length_map]; omega)]
    rw [ec]
    exact h p _ (same_upd np) (SqT.of' upd_same)
section
variable {P : Program} {w : World} {K : PySem.W.Frag} {mg : Str → Option Value} {base : Heap}
def spLaw (K : PySem.W.Frag) : Sp := fun vs H Q _ => ∃ (a : Addr) (ns : List Int), vs = [.ref a] ∧ SqL K H a (ns.map V.int) ∧ ns.length ≤ 63 ∧ ∀ H', Q (.bl true) H'
abbrev N61 : List Str := ["script", "store", "turn", "rooms", "loads", "some", "names", "about", "name", "k"]
theorem sc61 : FnScope N61 ["script"] (defScope (top 61)) := ⟨rfl, rfl, rfl, by decide +kernel, rfl, by decide +kernel, by decide +kernel⟩
theorem fn_ok_of {x : Str} {i : Nat} {N ps : List Str} {k : Nat} {sp : Sp} {f : Addr} {fd : FuncData} (F : FunD K x x (defArgs (top i)) (defBody (top i)) (defScope (top i)) [] [] f fd) (S : FnScope N ps (defScope (top i)))
    (len : ∀ vs H Q E, sp vs H Q E → vs.length = ps.length)
    (hbody : ∀ (f : Addr) (cdv : Value) (A : Around) (outer : List Env) (s : Shared) (H : Hp) (vs : List V) (Q : VK) (E : XK), Room k (A.deeper (envOfC x (defScope (top i)) s.heap.objs.size f cdv)) → sp vs H Q E →
      ∃ t, PSs (cxOf CX0 P w K mg base N x (defScope (top i)) f cdv A outer s H E).nox (defBody (top i)) t ∧ t { nx := fun _ H' => Q .non H', rt := Q } (start N vs) H) : FnOk P w K mg base CX0 (k + 1) f fd ps sp :=
  F.ok S len fun cdv A outer s H vs Q E hr hsp => by
    obtain ⟨t, h, q⟩ := hbody f cdv A outer s H vs Q E hr hsp
    exact ⟨t, h.nox, q⟩
theorem ok_law (T : Tx K mg) {f : Addr} {fd : FuncData} (F : FunD K "law" "law" (defArgs (top 61)) (defBody (top 61)) (defScope (top 61)) [] [] f fd) : FnOk P w K mg base CX0 10 f fd ["script"] (spLaw K) := by
  refine fn_ok_of F sc61 (fun vs H Q E h => ?_) (fun f cdv A outer s H vs Q E hr h => ?_)
  · obtain ⟨_, _, rfl, _⟩ := h; rfl
  · obtain ⟨sa, zs, rfl, hSc, hlen, q⟩ := h
    have hu := hu_of hr
    have CS := c_store (P := P) (w := w) (base := base) T
    have CH := c_halls (P := P) (w := w) (base := base) T
    have CW := c_weights (P := P) (w := w) (base := base) T
    have CD := c_draw (P := P) (w := w) (base := base) T
    have CB := c_best (P := P) (w := w) (base := base) T
    have C57 := c_halves (P := P) (w := w) (base := base) T
    have C58 := c_walk (P := P) (w := w) (base := base) T
    have C60 := c_together (P := P) (w := w) (base := base) T
    have C59 := c_news (P := P) (w := w) (base := base) T
    have C41 := c_turned (P := P) (w := w) (base := base) T
    have C35 := c_cost (P := P) (w := w) (base := base) T
    refine ⟨_, pss_cons (ps_set (i := 1) sc61.nd rfl (Or.inr rfl) (pc CS hr (pa_cons (pv 0) pa_nil)))
      (pss_cons (ps_for PassesOwn.never rfl (pi_range1 rfl (T.fr "range" (by decide +kernel)) (pa_cons (pe_op op_add pe_int (pB (call_min2 rfl) T (pa_cons pe_int (pa_cons (pB call_len_seq T (pa_cons (pv 0) pa_nil)) pa_nil)))) pa_nil)) (pg_name (i := 2) sc61.nd rfl (Or.inl rfl))
        (pss_cons (ps_set (i := 3) sc61.nd rfl (Or.inl rfl) (pc CH hr (pa_cons (pv 1) (pa_cons (pe_ifExp (pt_cmpR op_eq (pv 2) pe_int (nomark _)) pe_int pe_int) pa_nil))))
        (pss_cons (ps_set (i := 4) sc61.nd rfl (Or.inl rfl) (pc CW hr (pa_cons (pv 1) (pa_cons (pv 3) pa_nil))))
        (pss_cons (ps_set (i := 5) sc61.nd rfl (Or.inr rfl) (pB (cr_srtD rfl) T (pa_cons (pv 3) pa_nil)))
        (pss_cons (ps_set (i := 6) sc61.nd rfl (Or.inl rfl) (pe_op op_cat (pe_lc (own := [("k", 9)]) (g := gName 9) (tt := tYes) (te := tOp (rIxL K) (tVar 5) (tCall (spDraw True 3) [] E0 (tCons (tVar 1) (tCons (tCB (fun xs H Q => ∃ p ys, xs = [V.ref p] ∧ (SqL K H p ys ∨ SqT K H p ys) ∧ Q (V.int ↑ys.length) H) (tCons (tVar 5) tNil)) tNil)))) rfl sc61.nd (pi_range1 rfl (T.fr "range" (by decide +kernel)) (pa_cons pe_int pa_nil)) (blkOk_by (N := N61) (sc := defScope (top 61)) (by decide +kernel)) (fun _ _ _ _ _ => pg_name (i := 9) sc61.nd rfl (Or.inl rfl)) (fun _ _ _ _ _ => pts_nil)
              (fun _ _ _ _ _ => pe_ix ix_list (pv 5) (pc CD hr (pa_cons (pv 1) (pa_cons (pB (id := "len") (r := fun xs H Q => ∃ p ys, xs = [V.ref p] ∧ (SqL K H p ys ∨ SqT K H p ys) ∧ Q (V.int ↑ys.length) H) call_len_seq T (pa_cons (pv 5) pa_nil)) pa_nil))) (fun _ _ => rfl)))
            (pT call_list_of T (pa_cons (pe_slice sl_tupA (pc CB hr (pa_cons (pv 3) (pa_cons (pv 4) pa_nil))) po_none (po_some pe_int)) pa_nil))))
        (pss_cons (ps_if (PW.pt (pw_or (pt_not (pt_val (pc C57 hr (pa_cons (pv 3) (pa_cons (pv 4) (pa_cons (pv 6) pa_nil)))))) (pw_or1 (pt_not (pt_val (pc C58 hr (pa_cons (pv 3) (pa_cons (pv 4) (pa_cons (pe_ix ix_list (pv 6) pe_int (fun _ _ => rfl)) pa_nil))))))))) (pss_one (ps_ret pe_bl)) pss_nil)
        (pss_cons (ps_if (pt_not (pt_val (pc C60 hr (pa_cons (pv 3) (pa_cons (pc CB hr (pa_cons (pv 3) (pa_cons (pv 4) pa_nil))) pa_nil))))) (pss_one (ps_ret pe_bl)) pss_nil)
        (pss_cons (ps_if (PW.pt (pw_or (pt_not (pt_val (pc C59 hr (pa_cons (pv 3) (pa_cons (pv 4) (pa_cons (pe_ix ix_list (pv 6) pe_int (fun _ _ => rfl)) pa_nil)))))) (pw_or1 (pt_not (pt_val (pc C59 hr (pa_cons (pv 3) (pa_cons (pv 4) (pa_cons (pe_ix ix_list (pv 6) pe_int (fun _ _ => rfl)) pa_nil))))))))) (pss_one (ps_ret pe_bl)) pss_nil)
        (pss_cons (ps_set (i := 7) sc61.nd rfl (Or.inl rfl) (pc C41 hr (pa_cons (pv 3) (pa_cons (pe_ix ix_list (pv 6) pe_int (fun _ _ => rfl)) pa_nil))))
        (pss_cons (ps_if (PW.pt (pw_or (pt_cmpR (op_neD hr.units) (pc CB hr (pa_cons (pv 7) (pa_cons (pv 4) pa_nil))) (pc CB hr (pa_cons (pv 3) (pa_cons (pv 4) pa_nil))) (nomark _)) (pw_or1 (pt_not (pt_val (pc C58 hr (pa_cons (pv 7) (pa_cons (pv 4) (pa_cons (pe_ix ix_list (pv 6) pe_int (fun _ _ => rfl)) pa_nil))))))))) (pss_one (ps_ret pe_bl)) pss_nil)
        (pss_one (ps_for PassesOwn.never rfl (pi_list (pe_slice sl_list (pv 6) po_none (po_some pe_int))) (pg_name (i := 8) sc61.nd rfl (Or.inl rfl))
          (pss_one (ps_if (pt_cmpR op_ne (pc C35 hr (pa_cons (pv 7) (pa_cons (pv 4) (pa_cons (pv 8) pa_nil)))) (pc C35 hr (pa_cons (pv 3) (pa_cons (pv 4) (pa_cons (pv 8) pa_nil)))) (nomark _)) (pss_one (ps_ret pe_bl)) pss_nil))))))))))))))
      (pss_one (ps_ret pe_bl))), ?_⟩
    have hzl : (zs.map V.int).length ≤ 63 := by rw [List.length_map]; exact hlen
    refine ⟨_, rfl, sa, zs, rfl, hSc, hlen, fun H1 S g sm s1 nS1 ng1 st1 => ?_⟩
    refine ⟨_, rfl, sa, _, rfl, .inl (s1.seq hSc), 9, _, rfl, 3, _, rfl, rfl, _, rfl, by split <;> omega, by split <;> omega, ?_⟩
    obtain ⟨N, hNe, hN⟩ : ∃ N : Nat, (3 + (if (((zs.map V.int).length : Nat) : Int) < 9 then (((zs.map V.int).length : Nat) : Int) else 9)).toNat = N ∧ N ≤ 12 := ⟨_, rfl, by split <;> omega⟩
    rw [hNe]
    refine for_range (n := N) (fun i σ Hk => ∃ v2 v3 v4 v5 v6 v7 v8 v9 : Option V, σ = [some (.ref sa), some (.ref S), v2, v3, v4, v5, v6, v7, v8, v9] ∧ StoreAt Hk S g sm (1000000 - 2000 * i)) ⟨_, _, _, _, _, _, _, _, rfl, st1⟩ ?_ ?_
    · rintro i σ Hk hi ⟨v2, v3, v4, v5, v6, v7, v8, v9, rfl, st⟩
      have b1 : 1000000 - 2000 * i = 1000000 - 2000 * (i + 1) + 2000 := by omega
      rw [b1] at st
      generalize 1000000 - 2000 * (i + 1) = nn at st
      -- the halls
      refine ⟨_, rfl, _, rfl, rfl, _, rfl, ?_⟩
      refine if_2 fun m hm => ?_
      refine ⟨S, g, sm, m, nn + 1400, rfl, st, by omega, by omega, fun H2 a Ts rk dr2 na st2 ea G => ?_⟩
      have t := G.t
      have h40 := G.le
      have aS := st.newS na
      have aG := st.newG na
      -- the weights
      refine ⟨_, rfl, _, rfl, S, g, sm, a, Ts, nn + 570, rfl, st2, ea, t.nd, G.le, fun H3 b W dr3 nb st3 eb GW => ?_⟩
      have bS := st2.newS nb
      have bG := st2.newG nb
      have ea3 := dr3.keep _ _ aS aG ea
      -- the names in order
      refine ⟨_, rfl, a, _, Ts.map (·.1), rfl, .inl ea3, tab_keys _ _, by rw [List.length_map]; omega, fun ys p hp srt np => ?_⟩
      have s4 : Same H3 (upd H3 p (.lst (ys.map V.str))) := same_upd np
      have ep4 : (upd H3 p (.lst (ys.map V.str))) p = some (.lst (ys.map V.str)) := upd_same
      have pS := st3.newS np
      have pG := st3.newG np
      have st4 := st3.same s4
      generalize upd H3 p (.lst (ys.map V.str)) = H4 at s4 ep4 st4
      have ea4 := s4 _ _ ea3
      have eb4 := s4 _ _ eb
      have yl : ys.length = Ts.length := by rw [hp.length_eq, List.length_map]
      have hT1 : 1 ≤ Ts.length := by
        obtain ⟨r, hr', _⟩ := t.root
        exact List.length_pos_of_mem hr'
      -- four of them
      refine ⟨4, rfl, by decide, by decide, fun D nD => ?_⟩
      have nDS := st4.newS nD
      have nDG := st4.newG nD
      have nDM := st4.newM nD
      refine lc_it (walk_range (lo := 0) (n := 4)) (fun j Hx => Drew S g H4 Hx ∧ StoreAt Hx S g sm (nn + 3 * (4 - j)) ∧ ∃ cs : List Str, cs.length = j ∧ (∀ c ∈ cs, c ∈ Ts.map (·.1)) ∧ Hx D = some (.lst (cs.map V.str)))
        ⟨.of (same_upd nD), (st4.less (by omega)).same (same_upd nD), [], rfl, fun _ h => (by cases h), upd_same⟩ (fun _ _ _ _ => True.intro) (fun j y Hx Hy hj p' hy => ?_) (fun H5 p' => ?_)
      · obtain ⟨p1, p2, cs, p3, p4, p5⟩ := p'
        obtain ⟨rfl, rfl⟩ := hy
        refine ⟨rfl, ?_⟩
        simp only [tYes, if_true]
        have b2 : nn + 3 * (4 - j) = nn + 3 * (4 - (j + 1)) + 3 := by omega
        rw [b2] at p2
        have epx := p1.keep _ _ pS pG ep4
        refine ⟨_, rfl, _, rfl, _, rfl, p, _, rfl, .inl (SqL.of' epx), S, g, sm, _, _, rfl, p2, ⟨by rw [List.length_map]; omega, .inl (by rw [List.length_map]; omega)⟩, fun H6 d dr6 st6 d0 d1 => ?_⟩
        obtain ⟨v, hv, hvm⟩ := atI_in (xs := ys.map V.str) (i := d) d0 d1
        obtain ⟨c, hc, rfl⟩ := List.mem_map.mp hvm
        refine ⟨p, _, d, .str c, rfl, rfl, SqL.of' (dr6.keep _ _ pS pG epx), hv, ?_⟩
        refine ⟨_, dr6.keep _ _ nDS nDG p5, by rw [List.length_map]; exact small1000 (by omega), (p1.trans dr6).putNew nD, st6.put nDS nDG nDM, cs ++ [c], by rw [List.length_append, p3]; rfl, fun z hz => ?_, ?_⟩
        · rcases List.mem_append.mp hz with hz | hz
          · exact p4 z hz
          · have : z = c := by simpa using hz
            subst this
            exact (hp.mem_iff).mp hc
        · rw [upd_same, List.map_append]; rfl
      · obtain ⟨p1, p2, cs, p3, p4, p5⟩ := p'
        have ea5 := p1.keep _ _ aS aG ea4
        have eb5 := p1.keep _ _ bS bG eb4
        have st5 := p2.less (m := nn) (by omega)
        -- and the best ones
        refine ⟨_, rfl, _, rfl, a, b, Ts, rk, W, rfl, ea5, G, eb5, GW, fun H6 bp bs s6 nbp B ebp => ?_⟩
        refine ⟨2, rfl, ?_⟩
        refine sl_2 (SqT.of' ebp) fun t' H7 s7 sq7 => ?_
        refine ⟨t', _, rfl, .inr sq7, fun l nl => ?_⟩
        have s67 := s6.trans s7
        have eD7 := s67 _ _ p5
        have s8 : Same H7 (upd H7 l (.lst ((bs.take 2).map V.str))) := same_upd nl
        have el : (upd H7 l (.lst ((bs.take 2).map V.str))) l = some (.lst ((bs.take 2).map V.str)) := upd_same
        generalize upd H7 l (.lst ((bs.take 2).map V.str)) = H8 at s8 el
        have b2l : (bs.take 2).length ≤ 2 := by rw [List.length_take]; omega
        refine ⟨D, l, _, _, rfl, rfl, s8 _ _ eD7, el, by rw [List.length_map, List.length_map]; exact Nat.le_of_lt (small1000 (by omega)), fun na9 nna9 => ?_⟩
        rw [← List.map_append]
        have s9 : Same H8 (upd H8 na9 (.lst ((cs ++ bs.take 2).map V.str))) := same_upd nna9
        have e9 : (upd H8 na9 (.lst ((cs ++ bs.take 2).map V.str))) na9 = some (.lst ((cs ++ bs.take 2).map V.str)) := upd_same
        generalize upd H8 na9 (.lst ((cs ++ bs.take 2).map V.str)) = H9 at s9 e9
        have hbl : 1 ≤ (bs.take 2).length := by
          have := List.length_pos_iff.mpr (B.ne t)
          rw [List.length_take]; omega
        have hnl : (cs ++ bs.take 2).length = 4 + (bs.take 2).length := by rw [List.length_append, p3]
        have hns : ∀ x ∈ cs ++ bs.take 2, x ∈ Ts.map (·.1) := fun x hx => by
          rcases List.mem_append.mp hx with hx | hx
          · exact p4 x hx
          · exact ((B.mem x).mp (List.mem_of_mem_take hx)).1
        generalize cs ++ bs.take 2 = ns at e9 hnl hns
        have pick : ∀ j : Nat, j < 5 → ∃ x : Str, atI (ns.map V.str) (j : Int) = some (.str x) ∧ x ∈ Ts.map (·.1) := fun j hj => by
          have h : ns[j]? = some (ns[j]'(by omega)) := List.getElem?_eq_getElem (by omega)
          exact ⟨_, atI_nat (by rw [List.getElem?_map, h]; rfl), hns _ (List.mem_of_getElem? h)⟩
        obtain ⟨x0, at0, hx0⟩ := pick 0 (by decide)
        obtain ⟨x1, at1, hx1⟩ := pick 1 (by decide)
        obtain ⟨x2, at2, hx2⟩ := pick 2 (by decide)
        obtain ⟨x4, at4, hx4⟩ := pick 4 (by decide)
        have s59 : Same H5 H9 := (s67.trans s8).trans s9
        have ea9 := s59 _ _ ea5
        have eb9 := s59 _ _ eb5
        have st9 := st5.same s59
        clear p1 p2 p3 p4 p5
        -- by halves, and the walk
        refine ⟨_, rfl, _, rfl, _, rfl, a, b, na9, Ts, rk, W, ns, rfl, ea9, G, eb9, GW, e9, hns, fun Ha sa' => ⟨_, rfl, iteF ?_⟩⟩
        refine ⟨_, rfl, _, rfl, _, rfl, na9, _, 0, .str x0, rfl, rfl, SqL.of' (sa' _ _ e9), at0, a, b, x0, Ts, rk, W, rfl, sa' _ _ ea9, G, sa' _ _ eb9, GW, hx0, fun Hb sb => ⟨_, rfl, iteF ?_⟩⟩
        have tb := sa'.trans sb
        -- together
        refine ⟨_, rfl, _, rfl, _, rfl, a, b, Ts, rk, W, rfl, tb _ _ ea9, G, tb _ _ eb9, GW, fun Hc bp2 bs2 sc nbp2 B2 ebp2 => ?_⟩
        have tc := tb.trans sc
        refine ⟨a, bp2, Ts, rk, W, bs2, rfl, .inl (tc _ _ ea9), G, GW, B2, ebp2, fun Hd sd => ⟨_, rfl, iteF ?_⟩⟩
        have td := tc.trans sd
        -- the news
        refine ⟨_, rfl, _, rfl, _, rfl, na9, _, 1, .str x1, rfl, rfl, SqL.of' (td _ _ e9), at1, a, b, x1, Ts, rk, W, rfl, td _ _ ea9, G, td _ _ eb9, GW, hx1, fun He se => ⟨_, rfl, iteF ?_⟩⟩
        have te := td.trans se
        refine ⟨_, rfl, _, rfl, _, rfl, na9, _, 4, .str x4, rfl, rfl, SqL.of' (te _ _ e9), at4, a, b, x4, Ts, rk, W, rfl, te _ _ ea9, G, te _ _ eb9, GW, hx4, fun Hf sf => ⟨_, rfl, iteF ?_⟩⟩
        have tf := te.trans sf
        -- turned
        refine ⟨_, rfl, _, rfl, na9, _, 1, .str x1, rfl, rfl, SqL.of' (tf _ _ e9), at1, a, x1, Ts, rk, rfl, tf _ _ ea9, G, hx1, fun Hg ab sg nab eab => ?_⟩
        have tg := tf.trans sg
        have GT := G.turn hx1
        have names_eq : (turnT Ts rk x1).map (·.1) = Ts.map (·.1) := t.turn_names x1
        have GWT : GoodW (turnT Ts rk x1) W := ⟨GW.nd, fun p hp => by rw [names_eq]; exact GW.mem p hp, GW.nn, GW.le⟩
        have ecost : ∀ s, s ∈ Ts.map (·.1) → costOf (turnT Ts rk x1) (fun v => dd Ts rk v x1) W s = costOf Ts rk W s := fun s hs => t.turn_cost hx1 hs GW.mem
        refine ⟨_, rfl, _, rfl, ab, b, turnT Ts rk x1, _, W, rfl, eab, GT, tg _ _ eb9, GWT, fun Hh bp3 bs3 sh nbp3 B3 ebp3 => ?_⟩
        have th := tg.trans sh
        refine ⟨_, rfl, _, rfl, a, b, Ts, rk, W, rfl, th _ _ ea9, G, th _ _ eb9, GW, fun Hi bp4 bs4 si nbp4 B4 ebp4 => ?_⟩
        have ti := th.trans si
        have ebs : bs4 = bs3 := B4.uniq B3 (fun s => by rw [names_eq]) ecost
        have ok3 : StrOk bs3 := fun y hy => nm_ok (GT.nm y ((B3.mem y).mp hy).1)
        subst ebs
        refine ⟨_, _, dp_strsT (SqT.of' (si _ _ ebp3)), dp_strsT (SqT.of' ebp4), shaped_strsT _ ok3, shaped_strsT _ ok3, ?_⟩
        rw [eqv_strsT, decide_eq_true rfl]
        refine ⟨_, rfl, iteF ?_⟩
        have eab_i := si _ _ (sh _ _ eab)
        refine ⟨_, rfl, _, rfl, _, rfl, na9, _, 2, .str x2, rfl, rfl, SqL.of' (ti _ _ e9), at2, ab, b, x2, turnT Ts rk x1, _, W, rfl, eab_i, GT, ti _ _ eb9, GWT, by rw [names_eq]; exact hx2, fun Hj sj => ⟨_, rfl, iteF ?_⟩⟩
        have tj := ti.trans sj
        have eab_j := sj _ _ eab_i
        -- the costs
        refine ⟨_, rfl, 3, rfl, na9, _, rfl, SqL.of' (tj _ _ e9), fun l3 nl3 => ?_⟩
        obtain ⟨us, eus, hus⟩ : ∃ us : List Str, cutV (ns.map V.str) none (some 3) = us.map V.str ∧ ∀ x ∈ us, x ∈ ns := by
          refine ⟨(ns.drop (HT.sIx (ns.map V.str).length 0 none)).take (HT.sIx (ns.map V.str).length (ns.map V.str).length (some 3) - HT.sIx (ns.map V.str).length 0 none), ?_, fun x hx => List.mem_of_mem_drop (List.mem_of_mem_take hx)⟩
          unfold cutV; rw [List.map_take, List.map_drop]
        rw [eus]
        have sk : Same Hj (upd Hj l3 (.lst (us.map V.str))) := same_upd nl3
        have ek : (upd Hj l3 (.lst (us.map V.str))) l3 = some (.lst (us.map V.str)) := upd_same
        generalize upd Hj l3 (.lst (us.map V.str)) = Hl at sk ek
        have tk := tj.trans sk
        have eab_k := sk _ _ eab_j
        refine ⟨l3, rfl, ⟨_, SqL.of' ek⟩, ?_⟩
        refine for_list (K := K) (a := l3) (xs := us.map V.str) (fun _ σ Hx => ∃ v8 : Option V, σ = [some (.ref sa), some (.ref S), some (.int (0 + (i : Int))), some (.ref a), some (.ref b), some (.ref p), some (.ref na9), some (.ref ab), v8, v9] ∧ Same Hl Hx) ⟨_, rfl, Same.refl _⟩ (fun _ σ Hx _ ⟨_, _, h⟩ => SqL.of' (h _ _ ek)) ?_ ?_
        · rintro j y σ Hx hj ⟨v8', rfl, sx⟩
          rw [List.getElem?_map] at hj
          obtain ⟨x, hxj, rfl⟩ := Option.map_eq_some_iff.mp hj
          have hx := hns x (hus x (List.mem_of_getElem? hxj))
          have tx := tk.trans sx
          refine ⟨_, rfl, _, rfl, _, rfl, ab, b, x, turnT Ts rk x1, _, W, rfl, sx _ _ eab_k, GT, tx _ _ eb9, GWT, by rw [names_eq]; exact hx, fun Hy sy => ?_⟩
          have ty := tx.trans sy
          refine ⟨_, rfl, _, rfl, _, rfl, a, b, x, Ts, rk, W, rfl, ty _ _ ea9, G, ty _ _ eb9, GW, hx, fun Hz sz => ⟨rfl, _, rfl, ?_⟩⟩
          rw [decide_eq_true (congrArg V.int (ecost x hx))]
          exact iteF ⟨_, rfl, (sx.trans sy).trans sz⟩
        · rintro σ Hx ⟨v8', rfl, sx⟩
          exact ⟨_, _, _, _, _, _, _, _, rfl, st9.same (tk.trans sx)⟩
    · rintro σ Hk ⟨v2, v3, v4, v5, v6, v7, v8, v9, rfl, st⟩
      exact q _
end
end K66
set_option maxHeartbeats 0
/-! What the top has made. -/
namespace K66
open PySem PySem.Spec PyProof.Rows L2
def dGlo (x : Str) (i : Nat) : He.DefD := ⟨(x, none), x, x, defArgs (top i), defBody (top i), defScope (top i), [], []⟩
def dMet (m q : Str) (i : Nat) (dfl : List He.Dv) (kwd : List (Str × He.Dv)) : He.DefD := ⟨("Want", some m), m, q, defArgs (inClass (top 13) i), defBody (inClass (top 13) i), defScope (inClass (top 13) i), dfl, kwd⟩
def dflW : PySem.W.Frag → Addr := He.dflAt ("Want", some "__init__") 0
def fn : List He.DefD := [dGlo "is_whole" 10, dGlo "is_name" 11, dGlo "are_unlike_names" 12, dGlo "nobody" 15, dGlo "comes_up" 20, dGlo "are_halls" 21, dGlo "need_halls" 22, dGlo "need_hall" 23, dGlo "ways_of" 25, dGlo "is_weight" 28, dGlo "are_weights" 29, dGlo "need_weights" 30, dGlo "need_hall_weights" 31, dGlo "sides_of" 32, dGlo "doors_between" 33, dGlo "cost_from" 34, dGlo "cost" 35, dGlo "best_halls" 36, dGlo "weight_below" 37, dGlo "paper_from" 38, dGlo "paper_of_root" 39, dGlo "root_right" 40, dGlo "turned" 41, dGlo "need_wanted" 43, dGlo "doors_of" 44, dGlo "begin_of" 45, dGlo "steps_from_hall" 46, dGlo "_law_store" 49, dGlo "_law_draw" 50, dGlo "_law_names" 51, dGlo "_law_hall_names" 52, dGlo "_law_halls" 53, dGlo "_law_weights" 54, dGlo "_law_sides" 55, dGlo "_law_far" 56, dGlo "_law_halves_right" 57, dGlo "_law_walk_right" 58, dGlo "_law_news_right" 59, dGlo "_law_together" 60, dGlo "law" 61, ⟨("steps", none), "steps", "steps", defArgs (top 47), defBody (top 47), defScope (top 47), [], [("start", .non)]⟩, dMet "__init__" "Want.__init__" 0 [.adr dflW] [("all_but", .bl false)], dMet "set_names" "Want.set_names" 1 [] [], dMet "has" "Want.has" 2 [] []]
def fa1 : List He.Fa := [.glo "is_whole", .glo "is_name", .glo "are_unlike_names", .glo "nobody", .glo "comes_up", .glo "are_halls", .glo "need_halls", .glo "need_hall", .glo "ways_of", .glo "is_weight", .glo "are_weights", .glo "need_weights", .glo "need_hall_weights", .glo "sides_of", .glo "doors_between", .glo "cost_from", .glo "cost", .glo "best_halls", .glo "weight_below", .glo "paper_from", .glo "paper_of_root", .glo "root_right", .glo "turned", .glo "need_wanted", .glo "doors_of", .glo "begin_of", .glo "steps_from_hall", .glo "_law_store", .glo "_law_draw", .glo "_law_names", .glo "_law_hall_names", .glo "_law_halls", .glo "_law_weights", .glo "_law_sides", .glo "_law_far"]
def fa2 : List He.Fa := [.glo "_law_halves_right", .glo "_law_walk_right", .glo "_law_news_right", .glo "_law_together", .glo "law", .glo "steps", .glo "Want", .free "isinstance", .free "len", .free "all", .free "range", .free "sum", .free "sorted", .free "tuple", .free "min", .free "dict", .free "zip", .free "enumerate", .free "abs", .free "str", .free "max", .free "list", .free "int", .free "bool", .str "LETTERS" "abcdefghijklmnopqrstuvwxyz", .int "MOST_LETTERS" 8, .int "MOST_NAMES" 60, .int "MOST_HALLS" 40, .int "MOST_WEIGHT" 1000000000000, .cls "Want", .noat "Want" "names", .noat "Want" "all_but", .mkr "Want", .meth "Want" "set_names", .meth "Want" "has"]
def fa : List He.Fa := fa1 ++ fa2
def names1 : List PySem.Str := ["NewsError", "NoWant", "NoHalls", "NoWeight", "NoHall", "LETTERS", "MOST_LETTERS", "MOST_NAMES", "is_whole", "is_name", "are_unlike_names", "Want", "want_of", "nobody", "mingled", "either", "MOST_HALLS", "comes_up", "are_halls", "need_halls", "need_hall", "top_of", "ways_of", "MOST_WEIGHT", "is_weight", "are_weights", "need_weights", "need_hall_weights", "sides_of", "doors_between"]
def names2 : List PySem.Str := ["cost_from", "cost", "best_halls", "weight_below", "paper_from", "paper_of_root", "root_right", "turned", "need_wanted", "doors_of", "begin_of", "steps_from_hall", "steps", "_law_store", "_law_draw", "_law_names", "_law_hall_names", "_law_halls", "_law_weights", "_law_sides", "_law_far", "_law_halves_right", "_law_walk_right", "_law_news_right", "_law_together"]
def names : List PySem.Str := names1 ++ names2
/-- the default of Want's names is an empty tuple -/
def xB (K : PySem.W.Frag) : Bool := match K.lookup (dflW K) with
  | some ⟨.type c, _, .seq its _, _⟩ => decide (c = "tuple") && Nat.beq its.size 0
  | _ => false
theorem xB_ok {K : PySem.W.Frag} (h : xB K = true) (H : Hp) : SqT K H (dflW K) [] := by
  unfold xB at h
  cases q : K.lookup (dflW K) with
  | none => rw [q] at h; cases h
  | some o =>
    obtain ⟨oc, od, dt, osl⟩ := o
    rw [q] at h
    cases oc with
    | type c =>
      cases dt with
      | seq its n =>
        obtain ⟨h1, h2⟩ := He.ba (show (decide (c = "tuple") && Nat.beq its.size 0) = true from h)
        have e : its = #[] := Array.eq_empty_of_size_eq_zero (Nat.eq_of_beq_eq_true h2)
        subst e
        exact .inr ⟨_, #[], n, q, congrArg Value.type (of_decide_eq_true h1), rfl, by decide, .nil⟩
      | _ => cases h
    | _ => cases dt <;> cases h
abbrev AlX : Type := Bool × He.AlD
def obsX (n : Nat) (g : Addr → Option Obj) : AlX := (xB (He.frG g (He.asD g n)), He.obsDG n fa fn g)
def hkX (n : Nat) : PySem.W.Hook where
  α := AlX
  obs := fun s => obsX n s.heap.get?
  val := fun _ => (true, He.valD fn)
  says := fun _ h => ∃ K : PySem.W.Frag, K.In h ∧ He.SaysD fa fn K ∧ xB K = true
  of := fun _ _ e => ⟨_, He.frG_in, congrArg (fun z : AlX => z.2) e, congrArg (fun z : AlX => z.1) e⟩
  keeps := fun _ _ _ ⟨K, hK, c⟩ k => ⟨K, PySem.W.Frag.In.keeps hK k, c⟩
theorem obsX_eq {n : Nat} {g : Addr → Option Obj} {s : Shared} (h : ∀ a, g a = s.heap.get? a) : obsX n g = (hkX n).obs s := by
  have e : g = s.heap.get? := funext h
  rw [e] <;> rfl
abbrev R : PySem.W.OpenRow := PySem.W.OpenLaw.row PySem.Challenge.rw_newsdoors_k66_whole_best_just_by_halves
def ob (s : PySem.W.SharedT) : AlX := obsX 6 (HandSHeadRun.getT s)
theorem ob_eq (s : PySem.W.SharedT) : ob s = (hkX 6).obs s.abs := obsX_eq (HandSHeadRun.getT_eq s)
theorem run (w : World) : HandSHeadRun.RunEq R (PySem.W.view R.prog [61]) (hkX 6) ob 3000 names w := by
  intro os
  kernel_rfl
end K66
set_option maxHeartbeats 4000000
/-! The facts of the top, joined to the walk. -/
namespace K66
open PySem PySem.Spec PyProof.Rows L2
theorem dfn_of {K : PySem.W.Frag} {h : Heap} {mg : Str → Option Value} (X : K.In h) (G : h.Ns mainGlobals mg) (c : He.SaysD fa fn K) {x : Str} {i : Nat} (j : Nat) (hj : fn[j]? = some (dGlo x i)) (hk : fa[j]? = some (.glo x)) : Dfn K mg x i := by
  obtain ⟨fd, F⟩ := c.def_ j hj
  exact ⟨_, fd, F, He.glo_ok X G (c.fact j hk)⟩
theorem tx_of {K : PySem.W.Frag} {h : Heap} {mg : Str → Option Value} (X : K.In h) (G : h.Ns mainGlobals mg) (c : He.SaysD fa fn K) (hx : xB K = true) : Tx K mg := by
  obtain ⟨fdS, FS⟩ := c.def_ 40 rfl
  obtain ⟨fdI, FI⟩ := c.def_ 41 rfl
  obtain ⟨fdN, FN⟩ := c.def_ 42 rfl
  obtain ⟨fdH, FH⟩ := c.def_ 43 rfl
  have W : WantTx K mg (He.ga K "Want") := {
    cl := He.cls_ok (c.fact 64 (f := .cls "Want") rfl)
    nN := He.noat_ok (c.fact 65 (f := .noat "Want" "names") rfl)
    nA := He.noat_ok (c.fact 66 (f := .noat "Want" "all_but") rfl)
    mgC := He.glo_ok X G (c.fact 41 (f := .glo "Want") rfl)
    ini := ⟨_, fdI, dflW K, He.mkr_ok (c.fact 67 (f := .mkr "Want") rfl), FI, xB_ok hx⟩
    setn := ⟨_, fdN, He.meth_ok (c.fact 68 (f := .meth "Want" "set_names") rfl), FN⟩
    has := ⟨_, fdH, He.meth_ok (c.fact 69 (f := .meth "Want" "has") rfl), FH⟩ }
  exact {
    fr := fun x hx => by
      simp only [frees, List.mem_cons, List.not_mem_nil, or_false] at hx
      rcases hx with rfl | rfl | rfl | rfl | rfl | rfl | rfl | rfl | rfl | rfl | rfl | rfl | rfl | rfl | rfl | rfl | rfl
      · exact He.free_ok X G (c.fact 42 (f := .free "isinstance") rfl)
      · exact He.free_ok X G (c.fact 43 (f := .free "len") rfl)
      · exact He.free_ok X G (c.fact 44 (f := .free "all") rfl)
      · exact He.free_ok X G (c.fact 45 (f := .free "range") rfl)
      · exact He.free_ok X G (c.fact 46 (f := .free "sum") rfl)
      · exact He.free_ok X G (c.fact 47 (f := .free "sorted") rfl)
      · exact He.free_ok X G (c.fact 48 (f := .free "tuple") rfl)
      · exact He.free_ok X G (c.fact 49 (f := .free "min") rfl)
      · exact He.free_ok X G (c.fact 50 (f := .free "dict") rfl)
      · exact He.free_ok X G (c.fact 51 (f := .free "zip") rfl)
      · exact He.free_ok X G (c.fact 52 (f := .free "enumerate") rfl)
      · exact He.free_ok X G (c.fact 53 (f := .free "abs") rfl)
      · exact He.free_ok X G (c.fact 54 (f := .free "str") rfl)
      · exact He.free_ok X G (c.fact 55 (f := .free "max") rfl)
      · exact He.free_ok X G (c.fact 56 (f := .free "list") rfl)
      · exact He.free_ok X G (c.fact 57 (f := .free "int") rfl)
      · exact He.free_ok X G (c.fact 58 (f := .free "bool") rfl)
    letters := He.str_ok X G (c.fact 59 (f := .str "LETTERS" "abcdefghijklmnopqrstuvwxyz") rfl)
    mostL := He.int_ok X G (c.fact 60 (f := .int "MOST_LETTERS" 8) rfl)
    mostN := He.int_ok X G (c.fact 61 (f := .int "MOST_NAMES" 60) rfl)
    mostH := He.int_ok X G (c.fact 62 (f := .int "MOST_HALLS" 40) rfl)
    mostW := He.int_ok X G (c.fact 63 (f := .int "MOST_WEIGHT" 1000000000000) rfl)
    want := ⟨_, W⟩
    d47 := ⟨_, fdS, FS, He.glo_ok X G (c.fact 40 (f := .glo "steps") rfl)⟩
    d10 := dfn_of X G c 0 rfl rfl
    d11 := dfn_of X G c 1 rfl rfl
    d12 := dfn_of X G c 2 rfl rfl
    d15 := dfn_of X G c 3 rfl rfl
    d20 := dfn_of X G c 4 rfl rfl
    d21 := dfn_of X G c 5 rfl rfl
    d22 := dfn_of X G c 6 rfl rfl
    d23 := dfn_of X G c 7 rfl rfl
    d25 := dfn_of X G c 8 rfl rfl
    d28 := dfn_of X G c 9 rfl rfl
    d29 := dfn_of X G c 10 rfl rfl
    d30 := dfn_of X G c 11 rfl rfl
    d31 := dfn_of X G c 12 rfl rfl
    d32 := dfn_of X G c 13 rfl rfl
    d33 := dfn_of X G c 14 rfl rfl
    d34 := dfn_of X G c 15 rfl rfl
    d35 := dfn_of X G c 16 rfl rfl
    d36 := dfn_of X G c 17 rfl rfl
    d37 := dfn_of X G c 18 rfl rfl
    d38 := dfn_of X G c 19 rfl rfl
    d39 := dfn_of X G c 20 rfl rfl
    d40 := dfn_of X G c 21 rfl rfl
    d41 := dfn_of X G c 22 rfl rfl
    d43 := dfn_of X G c 23 rfl rfl
    d44 := dfn_of X G c 24 rfl rfl
    d45 := dfn_of X G c 25 rfl rfl
    d46 := dfn_of X G c 26 rfl rfl
    d49 := dfn_of X G c 27 rfl rfl
    d50 := dfn_of X G c 28 rfl rfl
    d51 := dfn_of X G c 29 rfl rfl
    d52 := dfn_of X G c 30 rfl rfl
    d53 := dfn_of X G c 31 rfl rfl
    d54 := dfn_of X G c 32 rfl rfl
    d55 := dfn_of X G c 33 rfl rfl
    d56 := dfn_of X G c 34 rfl rfl
    d57 := dfn_of X G c 35 rfl rfl
    d58 := dfn_of X G c 36 rfl rfl
    d59 := dfn_of X G c 37 rfl rfl
    d60 := dfn_of X G c 38 rfl rfl
    d61 := dfn_of X G c 39 rfl rfl }
theorem facts {P : Program} {w : World} {K : PySem.W.Frag} {h : Heap} {mg : Str → Option Value} {f : Addr} (X : K.In h) (G : h.Ns mainGlobals mg) (hfa : mg ("law" : Str) = some (.ref f)) (c : He.SaysD fa fn K) (hx : xB K = true) :
    ∃ fd : FuncData, (∀ (s : Shared) (v : Value), BindsTo s fd ⟨[v], []⟩ [("script", v)]) ∧ ∀ base : Heap, K.In base → base.Ns mainGlobals mg → FnOk P w K mg base CX0 10 f fd ["script"] (spLaw K) := by
  have T := tx_of X G c hx
  obtain ⟨f2, fd, F, hm⟩ := T.d61
  have e := hfa.symm.trans hm
  cases e
  have b := FunD.bindsA (ps := ["script"]) F fun _ _ _ _ _ _ us hl => match us, hl with | [_], _ => rfl
  exact ⟨fd, fun s v => b s [v] rfl, fun base _ _ => ok_law T F⟩
end K66
open PySem PySem.W PySem.Calls PyProof.Rows
theorem PySem.Challenge.cw_newsdoors_k66_whole_best_just_by_halves_holds : PySem.Challenge.rw_newsdoors_k66_whole_best_just_by_halves.Holds := by
  w_on; o_law
  refine HandSHeadRun.head_any (r := OpenLaw.row PySem.Challenge.rw_newsdoors_k66_whole_best_just_by_halves) (q := view (OpenLaw.row PySem.Challenge.rw_newsdoors_k66_whole_best_just_by_halves).prog [61]) (H := K66.hkX 6) (ob := K66.ob) (M := 3000) (loose := K66.names) (d := HandSHeadRun.topDef (OpenLaw.row PySem.Challenge.rw_newsdoors_k66_whole_best_just_by_halves).prog 61) (kwd := []) K66.ob_eq
    (by kernel_rfl) (fun s => by kernel_rfl) K66.run (by kernel_rfl) (by kernel_rfl) (by kernel_rfl) (by rfl) (by first | assumption | decide +kernel) (by decide +kernel) ⟨rfl, rfl, rfl, rfl, rfl, by decide +kernel⟩ ?hw ?hc
  case hw => w_witness2
  case hc =>
    refine L2.walk_ofE (l := PySem.Challenge.rw_newsdoors_k66_whole_best_just_by_halves) (n := 63) (k := 10) (x := "script") (CX := L2.CX0) rfl (by decide) (by kernel_rfl) ⟨rfl, by decide, by decide⟩ ?F (fun _ _ _ _ z => z)
    intro w mg fa h Y G hmg0
    obtain ⟨K, KX, c, hx⟩ := Y
    have hmg : mg ("law" : PySem.Str) = some (.ref fa) := by
      have e : (HandSHeadRun.topDef (OpenLaw.row PySem.Challenge.rw_newsdoors_k66_whole_best_just_by_halves).prog 61).name = ("law" : PySem.Str) := by kernel_rfl
      rw [← e]
      exact hmg0
    obtain ⟨fd, hb, hF⟩ := K66.facts (P := (PySem.Challenge.rw_newsdoors_k66_whole_best_just_by_halves).prog) (w := w) KX G hmg c hx
    exact ⟨K, fd, K66.spLaw K, KX, hb, fun H a ns hl _ hS => ⟨a, ns, rfl, hS, hl, fun _ => rfl⟩, hF⟩
