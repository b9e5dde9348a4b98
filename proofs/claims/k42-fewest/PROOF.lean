import PyProof.Rows.All
import Wide.All
import OpenK.AllK
import Wide.FinOn
import HandS.ForMost
import HandS.IsInst
import HandS.Deep
import HandS.Style
import HandS.NoneIn
import HandS.SetFor
import HandS.Strs
import HandS.SetBool
import HandS.TupAny
import HandS.SortInts
import HandS.SortKw
import HandS.RaiseMore
import HandS.EndTab
import KE.SortData
import KE.SortKeyHeap
import KE.GoesSet
import PyProof.ReprReads
import HandS.Head0
import HandS.Head1
import HandS.Head2
import HandS.HeadHook1
import HandS.HeadHook2
import HandS.HeadHook3
import HandS.HeadHook4
import HandS.Defaults
import PySem.Challenge.RW_countveil_k42_whole_fewest_hidden
set_option autoImplicit false
/-! Countveil, plain mathematics 1: sums, worlds of a sheet, what is reached, moves along a way, the cut. -/
namespace Cv

/-! ### sums -/
def S : Nat → (Nat → Int) → Int
  | 0, _ => 0
  | n + 1, f => S n f + f n
theorem S_congr {f g : Nat → Int} : ∀ {n : Nat}, (∀ i, i < n → f i = g i) → S n f = S n g
  | 0, _ => rfl
  | n + 1, h => by
    show S n f + f n = S n g + g n
    rw [S_congr (n := n) fun i hi => h i (by omega), h n (by omega)]
theorem S_add (f g : Nat → Int) : ∀ n, S n (fun i => f i + g i) = S n f + S n g
  | 0 => rfl
  | n + 1 => by
    show S n (fun i => f i + g i) + (f n + g n) = S n f + f n + (S n g + g n)
    rw [S_add f g n]; omega
theorem S_sub (f g : Nat → Int) : ∀ n, S n (fun i => f i - g i) = S n f - S n g
  | 0 => rfl
  | n + 1 => by
    show S n (fun i => f i - g i) + (f n - g n) = S n f + f n - (S n g + g n)
    rw [S_sub f g n]; omega
theorem S_smul (c : Int) (f : Nat → Int) : ∀ n, S n (fun i => c * f i) = c * S n f
  | 0 => (Int.mul_zero c).symm
  | n + 1 => by
    show S n (fun i => c * f i) + c * f n = c * (S n f + f n)
    rw [S_smul c f n, Int.mul_add]
theorem S_zero : ∀ n, S n (fun _ => 0) = 0
  | 0 => rfl
  | n + 1 => by
    show S n (fun _ => 0) + 0 = 0
    rw [S_zero n]; rfl
theorem S_swap (f : Nat → Nat → Int) (m : Nat) : ∀ n, S n (fun i => S m (f i)) = S m (fun k => S n (fun i => f i k))
  | 0 => (S_zero m).symm
  | n + 1 => by
    show S n (fun i => S m (f i)) + S m (f n) = S m (fun k => S n (fun i => f i k) + f n k)
    rw [S_add, S_swap f m n]
theorem S_nonneg {f : Nat → Int} : ∀ {n : Nat}, (∀ i, i < n → 0 ≤ f i) → 0 ≤ S n f
  | 0, _ => Int.le_refl _
  | n + 1, h => by
    show 0 ≤ S n f + f n
    have h1 := S_nonneg (n := n) fun i hi => h i (by omega)
    have h2 := h n (by omega)
    omega
theorem S_ge {f : Nat → Int} : ∀ {n p : Nat}, p < n → (∀ i, i < n → i ≠ p → 0 ≤ f i) → f p ≤ S n f
  | 0, _, hp, _ => absurd hp (Nat.not_lt_zero _)
  | n + 1, p, hp, h => by
    show f p ≤ S n f + f n
    by_cases e : p = n
    · subst e
      have := S_nonneg (n := p) fun i hi => h i (by omega) (by omega)
      omega
    · have h1 := S_ge (n := n) (p := p) (by omega) fun i hi hne => h i (by omega) hne
      have h2 := h n (by omega) (fun z => e z.symm)
      omega
theorem S_one {f : Nat → Int} : ∀ {n p : Nat}, p < n → (∀ i, i < n → i ≠ p → f i = 0) → S n f = f p
  | 0, _, hp, _ => absurd hp (Nat.not_lt_zero _)
  | n + 1, p, hp, h => by
    show S n f + f n = f p
    by_cases e : p = n
    · subst e
      have : S p f = S p (fun _ => 0) := S_congr fun i hi => h i (by omega) (by omega)
      rw [this, S_zero]; omega
    · have h1 := S_one (n := n) (p := p) (by omega) fun i hi hne => h i (by omega) hne
      have h2 := h n (by omega) (fun z => e z.symm)
      omega

/-! ### worlds -/
abbrev Mat := Nat → Nat → Int
abbrev Pl := Nat × Nat
structure Wld (r c : Nat) (g : Mat) (hid : List Pl) (w : Mat) : Prop where
  nn : ∀ i k, i < r → k < c → 0 ≤ w i k
  told : ∀ i k, i < r → k < c → (i, k) ∉ hid → w i k = g i k
  row : ∀ i, i < r → S c (w i) = S c (g i)
  col : ∀ k, k < c → S r (fun i => w i k) = S r (fun i => g i k)

theorem Wld.self {r c : Nat} {g : Mat} {hid : List Pl} (h : ∀ i k, i < r → k < c → 0 ≤ g i k) : Wld r c g hid g :=
  ⟨h, fun _ _ _ _ _ => rfl, fun _ _ => rfl, fun _ _ => rfl⟩

/-- what moves none of the sums, weighed by rows less columns, comes to nothing -/
theorem weigh {r c : Nat} {D : Mat} {a b : Nat → Int} (hr : ∀ i, i < r → S c (D i) = 0) (hc : ∀ k, k < c → S r (fun i => D i k) = 0) :
    S r (fun i => S c (fun k => D i k * (a i - b k))) = 0 := by
  have e1 : S r (fun i => S c (fun k => D i k * (a i - b k))) = S r (fun i => S c (fun k => a i * D i k) - S c (fun k => b k * D i k)) := by
    refine S_congr fun i _ => ?_
    rw [← S_sub]
    refine S_congr fun k _ => ?_
    rw [Int.mul_sub, Int.mul_comm, Int.mul_comm (D i k)]
  rw [e1, S_sub]
  have e2 : S r (fun i => S c (fun k => a i * D i k)) = S r (fun _ => 0) := S_congr fun i hi => by
    rw [S_smul, hr i hi, Int.mul_zero]
  have e3 : S r (fun i => S c (fun k => b k * D i k)) = S c (fun _ => 0) := by
    rw [S_swap (fun i k => b k * D i k)]
    refine S_congr fun k hk => ?_
    rw [S_smul, hc k hk, Int.mul_zero]
  rw [e2, e3, S_zero, S_zero]; rfl
theorem S2_ge {r c pi pk : Nat} {T : Mat} (hi : pi < r) (hk : pk < c) (h : ∀ i k, i < r → k < c → (i, k) ≠ (pi, pk) → 0 ≤ T i k) : T pi pk ≤ S r (fun i => S c (T i)) := by
  have h1 : T pi pk ≤ S c (T pi) := S_ge hk fun k hk' hne => h pi k hi hk' fun z => hne (Prod.mk.inj z).2
  have h2 : S c (T pi) ≤ S r (fun i => S c (T i)) := S_ge (f := fun i => S c (T i)) hi fun i hi' hne => S_nonneg fun k hk' => h i k hi' hk' fun z => hne (Prod.mk.inj z).1
  omega

/-! ### what is reached -/
def fupd {α : Type} (f : Nat → α) (a : Nat) (v : α) : Nat → α := fun b => if b = a then v else f b
theorem fupd_same {α : Type} {f : Nat → α} {a : Nat} {v : α} : fupd f a v a = v := by unfold fupd; rw [if_pos rfl]
theorem fupd_ne {α : Type} {f : Nat → α} {a b : Nat} {v : α} (h : b ≠ a) : fupd f a v b = f b := by unfold fupd; rw [if_neg h]

structure Tree (up : Bool) (oth : List Pl) (u : Mat) (pi : Nat) (rp : Nat → Option (Option Nat)) (cp : Nat → Option Nat) (ro ka : Nat → Nat) (n : Nat) : Prop where
  root : rp pi = some none
  root1 : ∀ i, rp i = some none → i = pi
  rowv : ∀ i k, rp i = some (some k) → (i, k) ∈ oth ∧ cp k ≠ none ∧ ka k < ro i ∧ (up = false → 0 < u i k)
  colv : ∀ k i, cp k = some i → (i, k) ∈ oth ∧ rp i ≠ none ∧ ro i < ka k ∧ (up = true → 0 < u i k)
  rn : ∀ i, rp i ≠ none → ro i < n
  cn : ∀ k, cp k ≠ none → ka k < n

theorem Tree.start (up : Bool) (oth : List Pl) (u : Mat) (pi : Nat) : Tree up oth u pi (fupd (fun _ => none) pi (some none)) (fun _ => none) (fun _ => 0) (fun _ => 0) 1 where
  root := fupd_same
  root1 := fun i h => by
    by_cases e : i = pi
    · exact e
    · rw [fupd_ne e] at h; cases h
  rowv := fun i k h => by
    by_cases e : i = pi
    · subst e; rw [fupd_same] at h; cases h
    · rw [fupd_ne e] at h; cases h
  colv := fun k i h => by cases h
  rn := fun _ _ => Nat.zero_lt_one
  cn := fun _ _ => Nat.zero_lt_one
section
variable {up : Bool} {oth : List Pl} {u : Mat} {pi : Nat} {rp : Nat → Option (Option Nat)} {cp : Nat → Option Nat} {ro ka : Nat → Nat} {n i k : Nat}
theorem Tree.addCol (T : Tree up oth u pi rp cp ro ka n) (hi : rp i ≠ none) (hk : cp k = none) (ho : (i, k) ∈ oth) (hu : up = true → 0 < u i k) :
    Tree up oth u pi rp (fupd cp k (some i)) ro (fupd ka k n) (n + 1) where
  root := T.root
  root1 := T.root1
  rowv := fun i' k' h => by
    obtain ⟨h1, h2, h3, h4⟩ := T.rowv i' k' h
    have hne : k' ≠ k := fun z => h2 (z ▸ hk)
    exact ⟨h1, by rw [fupd_ne hne]; exact h2, by rw [fupd_ne hne]; exact h3, h4⟩
  colv := fun k' i' h => by
    by_cases e : k' = k
    · subst e
      rw [fupd_same] at h; cases h
      exact ⟨ho, hi, by rw [fupd_same]; exact T.rn _ hi, hu⟩
    · rw [fupd_ne e] at h
      obtain ⟨h1, h2, h3, h4⟩ := T.colv k' i' h
      exact ⟨h1, h2, by rw [fupd_ne e]; exact h3, h4⟩
  rn := fun i' h => Nat.lt_succ_of_lt (T.rn i' h)
  cn := fun k' h => by
    by_cases e : k' = k
    · subst e; rw [fupd_same]; exact Nat.lt_succ_self _
    · rw [fupd_ne e] at h; rw [fupd_ne e]; exact Nat.lt_succ_of_lt (T.cn k' h)
theorem Tree.addRow (T : Tree up oth u pi rp cp ro ka n) (hk : cp k ≠ none) (hi : rp i = none) (ho : (i, k) ∈ oth) (hu : up = false → 0 < u i k) :
    Tree up oth u pi (fupd rp i (some (some k))) cp (fupd ro i n) ka (n + 1) where
  root := by
    have hne : pi ≠ i := fun z => by rw [← z, T.root] at hi; cases hi
    rw [fupd_ne hne]; exact T.root
  root1 := fun i' h => by
    by_cases e : i' = i
    · subst e; rw [fupd_same] at h; cases h
    · rw [fupd_ne e] at h; exact T.root1 i' h
  rowv := fun i' k' h => by
    by_cases e : i' = i
    · subst e
      rw [fupd_same] at h; cases h
      exact ⟨ho, hk, by rw [fupd_same]; exact T.cn _ hk, hu⟩
    · rw [fupd_ne e] at h
      obtain ⟨h1, h2, h3, h4⟩ := T.rowv i' k' h
      exact ⟨h1, h2, by rw [fupd_ne e]; exact h3, h4⟩
  colv := fun k' i' h => by
    obtain ⟨h1, h2, h3, h4⟩ := T.colv k' i' h
    have hne : i' ≠ i := fun z => h2 (z ▸ hi)
    exact ⟨h1, by rw [fupd_ne hne]; exact h2, by rw [fupd_ne hne]; exact h3, h4⟩
  rn := fun i' h => by
    by_cases e : i' = i
    · subst e; rw [fupd_same]; exact Nat.lt_succ_self _
    · rw [fupd_ne e] at h; rw [fupd_ne e]; exact Nat.lt_succ_of_lt (T.rn i' h)
  cn := fun k' h => Nat.lt_succ_of_lt (T.cn k' h)
end
/-- nothing more is reached -/
def Closed (up : Bool) (oth : List Pl) (u : Mat) (rp : Nat → Option (Option Nat)) (cp : Nat → Option Nat) : Prop :=
  ∀ i k, (i, k) ∈ oth → (rp i ≠ none → cp k = none → ¬ (up = false ∨ 0 < u i k)) ∧ (cp k ≠ none → rp i = none → ¬ (up = true ∨ 0 < u i k))

/-- how many are not reached -/
def un {α : Type} : Nat → (Nat → Option α) → Nat
  | 0, _ => 0
  | n + 1, f => un n f + if (f n).isNone then 1 else 0
theorem un_congr {α : Type} {f g : Nat → Option α} : ∀ {n : Nat}, (∀ i, i < n → (f i).isNone = (g i).isNone) → un n f = un n g
  | 0, _ => rfl
  | n + 1, h => by
    show un n f + _ = un n g + _
    rw [un_congr (n := n) fun i hi => h i (by omega), h n (by omega)]
theorem un_upd {α : Type} {f : Nat → Option α} {a : Nat} {v : α} : ∀ {n : Nat}, a < n → f a = none → un n (fupd f a (some v)) + 1 = un n f
  | 0, h, _ => absurd h (Nat.not_lt_zero _)
  | n + 1, h, hf => by
    show un n (fupd f a (some v)) + (if (fupd f a (some v) n).isNone then 1 else 0) + 1 = un n f + if (f n).isNone then 1 else 0
    by_cases e : a = n
    · subst e
      have : un a (fupd f a (some v)) = un a f := un_congr fun i hi => by rw [fupd_ne (by omega)]
      rw [this, fupd_same, hf]
      simp
    · have := un_upd (v := v) (n := n) (by omega) hf
      rw [fupd_ne (fun z => e z.symm)]
      omega

theorem tree_closed {r c : Nat} {up : Bool} {oth : List Pl} {u : Mat} {pi : Nat} (hv : ∀ i k, (i, k) ∈ oth → i < r ∧ k < c) : ∀ (m : Nat) (rp : Nat → Option (Option Nat)) (cp : Nat → Option Nat) (ro ka : Nat → Nat) (n : Nat),
    Tree up oth u pi rp cp ro ka n → un r rp + un c cp ≤ m → ∃ rp cp ro ka n, Tree up oth u pi rp cp ro ka n ∧ Closed up oth u rp cp := by
  intro m
  induction m with
  | zero =>
    intro rp cp ro ka n T hm
    refine ⟨rp, cp, ro, ka, n, T, fun i k ho => ⟨fun _ hk => ?_, fun _ hi => ?_⟩⟩
    · have := un_upd (v := i) (hv i k ho).2 hk; omega
    · have := un_upd (v := some k) (hv i k ho).1 hi; omega
  | succ m ih =>
    intro rp cp ro ka n T hm
    by_cases hc : ∃ i k, (i, k) ∈ oth ∧ rp i ≠ none ∧ cp k = none ∧ (up = false ∨ 0 < u i k)
    · obtain ⟨i, k, ho, hi, hk, hu⟩ := hc
      refine ih _ _ _ _ _ (T.addCol hi hk ho fun z => ?_) ?_
      · rcases hu with hu | hu
        · rw [hu] at z; cases z
        · exact hu
      · have := un_upd (v := i) (hv i k ho).2 hk; omega
    · by_cases hd : ∃ i k, (i, k) ∈ oth ∧ cp k ≠ none ∧ rp i = none ∧ (up = true ∨ 0 < u i k)
      · obtain ⟨i, k, ho, hk, hi, hu⟩ := hd
        refine ih _ _ _ _ _ (T.addRow hk hi ho fun z => ?_) ?_
        · rcases hu with hu | hu
          · rw [hu] at z; cases z
          · exact hu
        · have := un_upd (v := some k) (hv i k ho).1 hi; omega
      · exact ⟨rp, cp, ro, ka, n, T, fun i k ho => ⟨fun hi hk hu => hc ⟨i, k, ho, hi, hk, hu⟩, fun hk hi hu => hd ⟨i, k, ho, hk, hi, hu⟩⟩⟩

/-! ### the way back -/
inductive Way (rp : Nat → Option (Option Nat)) (cp : Nat → Option Nat) : Nat → List (Pl × Bool) → Prop
  | last {k i : Nat} : cp k = some i → rp i = some none → Way rp cp k [((i, k), true)]
  | step {k i k' : Nat} {l : List (Pl × Bool)} : cp k = some i → rp i = some (some k') → Way rp cp k' l → Way rp cp k (((i, k), true) :: ((i, k'), false) :: l)

section
variable {up : Bool} {oth : List Pl} {u : Mat} {pi : Nat} {rp : Nat → Option (Option Nat)} {cp : Nat → Option Nat} {ro ka : Nat → Nat} {n : Nat}
theorem Tree.way (T : Tree up oth u pi rp cp ro ka n) : ∀ (m k : Nat), ka k ≤ m → cp k ≠ none → ∃ l, Way rp cp k l := by
  intro m
  induction m with
  | zero =>
    intro k hm hk
    cases e : cp k with
    | none => exact absurd e hk
    | some i =>
      have := (T.colv k i e).2.2.1
      omega
  | succ m ih =>
    intro k hm hk
    cases e : cp k with
    | none => exact absurd e hk
    | some i =>
      obtain ⟨h1, h2, h3, h4⟩ := T.colv k i e
      cases e2 : rp i with
      | none => exact absurd e2 h2
      | some o =>
        cases o with
        | none => exact ⟨_, .last e e2⟩
        | some k' =>
          obtain ⟨g1, g2, g3, g4⟩ := T.rowv i k' e2
          obtain ⟨l, w⟩ := ih k' (by omega) g2
          exact ⟨_, .step e e2 w⟩
/-- all its cells are others; those of the one kind hold something -/
theorem Way.cells (T : Tree up oth u pi rp cp ro ka n) {k : Nat} {l : List (Pl × Bool)} (W : Way rp cp k l) : ∀ q b, (q, b) ∈ l → q ∈ oth ∧ (b = up → 0 < u q.1 q.2) := by
  induction W with
  | @last k i h1 h2 =>
    intro q b hm
    rw [List.mem_singleton] at hm
    cases hm
    obtain ⟨g1, _, _, g4⟩ := T.colv _ _ h1
    exact ⟨g1, fun e => g4 e.symm⟩
  | @step k i k' l h1 h2 _ ih =>
    intro q b hm
    rcases List.mem_cons.mp hm with e | hm
    · cases e
      obtain ⟨g1, _, _, g4⟩ := T.colv _ _ h1
      exact ⟨g1, fun e => g4 e.symm⟩
    · rcases List.mem_cons.mp hm with e | hm
      · cases e
        obtain ⟨g1, _, _, g4⟩ := T.rowv _ _ h2
        exact ⟨g1, fun e => g4 e.symm⟩
      · exact ih q b hm
/-- ranks fall along the way -/
theorem Way.ranks (T : Tree up oth u pi rp cp ro ka n) {k : Nat} {l : List (Pl × Bool)} (W : Way rp cp k l) : ∀ q b, (q, b) ∈ l → ro q.1 < ka k ∧ (b = true → ka q.2 ≤ ka k) := by
  induction W with
  | @last k i h1 h2 =>
    intro q b hm
    rw [List.mem_singleton] at hm
    cases hm
    obtain ⟨_, _, g3, _⟩ := T.colv _ _ h1
    exact ⟨g3, fun _ => Nat.le_refl _⟩
  | @step k i k' l h1 h2 _ ih =>
    intro q b hm
    obtain ⟨_, _, g3, _⟩ := T.colv _ _ h1
    obtain ⟨_, _, f3, _⟩ := T.rowv _ _ h2
    rcases List.mem_cons.mp hm with e | hm
    · cases e
      exact ⟨g3, fun _ => Nat.le_refl _⟩
    · rcases List.mem_cons.mp hm with e | hm
      · cases e
        exact ⟨g3, fun z => by cases z⟩
      · obtain ⟨i1, i2⟩ := ih q b hm
        exact ⟨by omega, fun z => by have := i2 z; omega⟩
/-- none of its cells comes twice the same way -/
theorem Way.nodup (T : Tree up oth u pi rp cp ro ka n) {k : Nat} {l : List (Pl × Bool)} (W : Way rp cp k l) : l.Nodup := by
  induction W with
  | @last k i h1 h2 => simp
  | @step k i k' l h1 h2 W ih =>
    obtain ⟨_, _, g3, _⟩ := T.colv _ _ h1
    obtain ⟨_, _, f3, _⟩ := T.rowv _ _ h2
    have R := W.ranks T
    refine List.nodup_cons.mpr ⟨fun hm => ?_, List.nodup_cons.mpr ⟨fun hm => ?_, ih⟩⟩
    · rcases List.mem_cons.mp hm with e | hm
      · cases e
      · have := (R _ _ hm).2 rfl
        have : ka k ≤ ka k' := this
        omega
    · have := (R _ _ hm).1
      have : ro i < ka k' := this
      omega
end

/-! ### what a move does -/
def cell (p : Pl) : Mat := fun i k => if i = p.1 ∧ k = p.2 then 1 else 0
def sg (up b : Bool) : Int := if b = up then -1 else 1
/-- less at the cells of the one kind, more at the others -/
def G (up : Bool) : List (Pl × Bool) → Mat
  | [] => fun _ _ => 0
  | x :: l => fun i k => sg up x.2 * cell x.1 i k + G up l i k
theorem sg_two (up : Bool) : sg up true + sg up false = 0 := by cases up <;> rfl
theorem cell_same (p : Pl) : cell p p.1 p.2 = 1 := if_pos ⟨rfl, rfl⟩
theorem cell_ne {p : Pl} {i k : Nat} (h : (i, k) ≠ p) : cell p i k = 0 := if_neg fun z => h (by rw [z.1, z.2])
theorem cell_in {p : Pl} {i k : Nat} (h1 : i = p.1) (h2 : k = p.2) : cell p i k = 1 := if_pos ⟨h1, h2⟩
theorem cell_row {c a b : Nat} (h : b < c) (i : Nat) : S c (cell (a, b) i) = if i = a then 1 else 0 := by
  by_cases e : i = a
  · rw [if_pos e, S_one h fun k _ hne => cell_ne fun z => hne (Prod.mk.inj z).2]
    exact cell_in e rfl
  · rw [if_neg e]
    have : S c (cell (a, b) i) = S c (fun _ => 0) := S_congr fun k _ => cell_ne fun z => e (Prod.mk.inj z).1
    rw [this, S_zero]
theorem cell_col {r a b : Nat} (h : a < r) (k : Nat) : S r (fun i => cell (a, b) i k) = if k = b then 1 else 0 := by
  by_cases e : k = b
  · rw [if_pos e, S_one (f := fun i => cell (a, b) i k) h fun i _ hne => cell_ne fun z => hne (Prod.mk.inj z).1]
    exact cell_in rfl e
  · rw [if_neg e]
    have : S r (fun i => cell (a, b) i k) = S r (fun _ => 0) := S_congr fun i _ => cell_ne fun z => e (Prod.mk.inj z).2
    rw [this, S_zero]
theorem G_off {up : Bool} {i k : Nat} : ∀ {l : List (Pl × Bool)}, (∀ b, ((i, k), b) ∉ l) → G up l i k = 0
  | [], _ => rfl
  | (p, b) :: l, h => by
    show sg up b * cell p i k + G up l i k = 0
    have h1 : (i, k) ≠ p := fun z => h b (by rw [z]; exact List.mem_cons_self ..)
    rw [cell_ne h1, G_off fun b' hm => h b' (List.mem_cons_of_mem _ hm)]
    omega
theorem G_low {up : Bool} {i k : Nat} : ∀ {l : List (Pl × Bool)}, l.Nodup → (((i, k), up) ∉ l → 0 ≤ G up l i k) ∧ -1 ≤ G up l i k
  | [], _ => ⟨fun _ => Int.le_refl _, by show (-1 : Int) ≤ 0; omega⟩
  | (p, b) :: l, h => by
    obtain ⟨h1, h2⟩ := List.nodup_cons.mp h
    obtain ⟨i1, i2⟩ := G_low (up := up) (i := i) (k := k) h2
    show (((i, k), up) ∉ (p, b) :: l → 0 ≤ sg up b * cell p i k + G up l i k) ∧ -1 ≤ sg up b * cell p i k + G up l i k
    by_cases e : (i, k) = p
    · subst e
      rw [show cell (i, k) i k = 1 from cell_same (i, k)]
      by_cases eb : b = up
      · subst eb
        refine ⟨fun z => absurd (List.mem_cons_self ..) z, ?_⟩
        have := i1 h1
        have e2 : sg b b = -1 := if_pos rfl
        rw [e2]; omega
      · have e2 : sg up b = 1 := if_neg eb
        rw [e2]
        refine ⟨fun z => ?_, by omega⟩
        have := i1 fun hm => z (List.mem_cons_of_mem _ hm)
        omega
    · rw [cell_ne e]
      refine ⟨fun z => ?_, by omega⟩
      have := i1 fun hm => z (List.mem_cons_of_mem _ hm)
      omega
section
variable {r c : Nat} {up : Bool} {oth : List Pl} {u : Mat} {pi : Nat} {rp : Nat → Option (Option Nat)} {cp : Nat → Option Nat} {ro ka : Nat → Nat} {n : Nat}
theorem Way.rowSum (T : Tree up oth u pi rp cp ro ka n) (hv : ∀ i k, (i, k) ∈ oth → i < r ∧ k < c) {k : Nat} {l : List (Pl × Bool)} (W : Way rp cp k l) (i : Nat) : S c (G up l i) = sg up true * (if i = pi then 1 else 0) := by
  induction W with
  | @last k j h1 h2 =>
    obtain ⟨g1, _, _, _⟩ := T.colv _ _ h1
    have e : S c (G up [((j, k), true)] i) = S c (fun k' => sg up true * cell (j, k) i k' + (fun _ => 0) k') := rfl
    rw [e, S_add, S_smul, S_zero, cell_row (hv _ _ g1).2, T.root1 _ h2]
    omega
  | @step k j k' l h1 h2 W ih =>
    obtain ⟨g1, _, _, _⟩ := T.colv _ _ h1
    obtain ⟨f1, _, _, _⟩ := T.rowv _ _ h2
    have e : S c (G up (((j, k), true) :: ((j, k'), false) :: l) i) = S c (fun z => sg up true * cell (j, k) i z + (fun z => sg up false * cell (j, k') i z + G up l i z) z) := rfl
    rw [e, S_add, S_smul, S_add (fun z => sg up false * cell (j, k') i z), S_smul, cell_row (hv _ _ g1).2, cell_row (hv _ _ f1).2, ih]
    have h0 := sg_two up
    by_cases e : i = j
    · rw [if_pos e]; omega
    · rw [if_neg e]; omega
theorem Way.colSum (T : Tree up oth u pi rp cp ro ka n) (hv : ∀ i k, (i, k) ∈ oth → i < r ∧ k < c) {k : Nat} {l : List (Pl × Bool)} (W : Way rp cp k l) (z : Nat) : S r (fun i => G up l i z) = sg up true * (if z = k then 1 else 0) := by
  induction W with
  | @last k j h1 h2 =>
    obtain ⟨g1, _, _, _⟩ := T.colv _ _ h1
    have e : S r (fun i => G up [((j, k), true)] i z) = S r (fun i => (fun i => sg up true * cell (j, k) i z) i + (fun _ => 0) i) := rfl
    rw [e, S_add, S_smul _ (fun i => cell (j, k) i z), S_zero, cell_col (hv _ _ g1).1]
    omega
  | @step k j k' l h1 h2 W ih =>
    obtain ⟨g1, _, _, _⟩ := T.colv _ _ h1
    obtain ⟨f1, _, _, _⟩ := T.rowv _ _ h2
    have e : S r (fun i => G up (((j, k), true) :: ((j, k'), false) :: l) i z) = S r (fun i => (fun i => sg up true * cell (j, k) i z) i + (fun i => (fun i => sg up false * cell (j, k') i z) i + (fun i => G up l i z) i) i) := rfl
    rw [e, S_add, S_smul _ (fun i => cell (j, k) i z), S_add (fun i => sg up false * cell (j, k') i z), S_smul _ (fun i => cell (j, k') i z), cell_col (hv _ _ g1).1, cell_col (hv _ _ f1).1, ih]
    have h0 := sg_two up
    show sg up true * (if z = k then 1 else 0) + (sg up false * (if z = k' then 1 else 0) + sg up true * (if z = k' then 1 else 0)) = _
    by_cases e : z = k'
    · rw [if_pos e]; omega
    · rw [if_neg e]; omega
end
/-- a move along a way -/
def moved (up : Bool) (l : List (Pl × Bool)) (p : Pl) (m : Int) (u : Mat) : Mat := fun i k => u i k + m * G up l i k - m * (sg up true * cell p i k)
theorem Wld.moved {r c : Nat} {g : Mat} {hid oth : List Pl} {u : Mat} {up : Bool} {pi pk : Nat} {rp : Nat → Option (Option Nat)} {cp : Nat → Option Nat} {ro ka : Nat → Nat} {n : Nat} {l : List (Pl × Bool)} {m : Int}
    (V : Wld r c g hid u) (T : Tree up oth u pi rp cp ro ka n) (hv : ∀ i k, (i, k) ∈ oth → i < r ∧ k < c) (W : Way rp cp pk l) (hp : (pi, pk) ∈ hid) (hi : pi < r) (hk : pk < c) (ho : ∀ q, q ∈ oth → q ∈ hid ∧ q ≠ (pi, pk))
    (h0 : 0 ≤ m) (hl : ∀ q, (q, up) ∈ l → m ≤ u q.1 q.2) (hs : up = false → m ≤ u pi pk) : Wld r c g hid (Cv.moved up l (pi, pk) m u) where
  nn := fun i k hi' hk' => by
    show 0 ≤ u i k + m * G up l i k - m * (sg up true * cell (pi, pk) i k)
    have C := W.cells T
    have h1 := V.nn i k hi' hk'
    by_cases e : (i, k) = (pi, pk)
    · cases e
      rw [G_off (fun b hm => (ho _ (C _ _ hm).1).2 rfl), show cell (pi, pk) pi pk = 1 from cell_same _, Int.mul_zero]
      cases up with
      | true => show 0 ≤ u pi pk + 0 - m * (-1 * 1); omega
      | false =>
        have := hs rfl
        show 0 ≤ u pi pk + 0 - m * (1 * 1); omega
    · rw [cell_ne e, Int.mul_zero, Int.mul_zero]
      obtain ⟨g1, g2⟩ := G_low (up := up) (i := i) (k := k) (W.nodup T)
      by_cases hm : ((i, k), up) ∈ l
      · have h2 : m ≤ u i k := hl _ hm
        have h3 : m * (-1) ≤ m * G up l i k := Int.mul_le_mul_of_nonneg_left g2 h0
        omega
      · have h3 : 0 ≤ m * G up l i k := Int.mul_nonneg h0 (g1 hm)
        omega
  told := fun i k hi' hk' hn => by
    show u i k + m * G up l i k - m * (sg up true * cell (pi, pk) i k) = g i k
    rw [G_off (fun b hm => hn (ho _ ((W.cells T) _ _ hm).1).1), cell_ne (fun z => hn (z ▸ hp)), Int.mul_zero, Int.mul_zero, Int.mul_zero, V.told i k hi' hk' hn]
    omega
  row := fun i hi' => by
    have e : S c (Cv.moved up l (pi, pk) m u i) = S c (fun k => (fun k => u i k + m * G up l i k) k - (fun k => m * (sg up true * cell (pi, pk) i k)) k) := rfl
    rw [e, S_sub, S_add (u i) (fun k => m * G up l i k), S_smul, S_smul, S_smul, W.rowSum T hv, cell_row hk, V.row i hi']
    omega
  col := fun k hk' => by
    have e : S r (fun i => Cv.moved up l (pi, pk) m u i k) = S r (fun i => (fun i => (fun i => u i k) i + (fun i => m * G up l i k) i) i - (fun i => m * (sg up true * cell (pi, pk) i k)) i) := rfl
    rw [e, S_sub, S_add (fun i => u i k) (fun i => m * G up l i k), S_smul m (fun i => G up l i k), S_smul m (fun i => sg up true * cell (pi, pk) i k), S_smul (sg up true) (fun i => cell (pi, pk) i k), W.colSum T hv, cell_col hi, V.col k hk']
    omega
theorem moved_at {up : Bool} {oth : List Pl} {u : Mat} {pi pk : Nat} {rp : Nat → Option (Option Nat)} {cp : Nat → Option Nat} {ro ka : Nat → Nat} {n : Nat} {l : List (Pl × Bool)} {m : Int}
    (T : Tree up oth u pi rp cp ro ka n) (W : Way rp cp pk l) (ho : ∀ q, q ∈ oth → q ≠ (pi, pk)) : moved up l (pi, pk) m u pi pk = u pi pk - m * sg up true := by
  show u pi pk + m * G up l pi pk - m * (sg up true * cell (pi, pk) pi pk) = _
  rw [G_off (fun b hm => ho _ ((W.cells T) _ _ hm).1 rfl), show cell (pi, pk) pi pk = 1 from cell_same _, Int.mul_zero, Int.mul_one]
  omega

/-! ### nothing beyond -/
section
variable {r c : Nat} {g : Mat} {hid oth : List Pl} {u : Mat} {pi pk : Nat} {rp : Nat → Option (Option Nat)} {cp : Nat → Option Nat}
theorem bound_up (V : Wld r c g hid u) (C : Closed true oth u rp cp) (hR : rp pi ≠ none) (hC : cp pk = none) (hi : pi < r) (hk : pk < c) (ho : ∀ q, q ∈ hid → q ≠ (pi, pk) → q ∈ oth)
    {n : Int} {w : Mat} (X : Wld r c (fun i k => n * g i k) hid w) : w pi pk ≤ n * u pi pk := by
  have z := weigh (r := r) (c := c) (D := fun i k => w i k - n * u i k) (a := fun i => if rp i = none then 0 else 1) (b := fun k => if cp k = none then 0 else 1)
    (fun i hi' => by rw [S_sub (w i), S_smul, X.row i hi', V.row i hi', S_smul]; omega)
    (fun k hk' => by rw [S_sub (fun i => w i k), S_smul n (fun i => u i k), X.col k hk', V.col k hk', S_smul]; omega)
  have q := S2_ge (r := r) (c := c) (T := fun i k => (w i k - n * u i k) * ((if rp i = none then 0 else 1) - (if cp k = none then 0 else 1))) hi hk fun i k hi' hk' hne => ?_
  · rw [z, if_neg hR, if_pos hC] at q
    omega
  · show 0 ≤ (w i k - n * u i k) * ((if rp i = none then 0 else 1) - (if cp k = none then 0 else 1))
    by_cases hh : (i, k) ∈ hid
    · obtain ⟨c1, c2⟩ := C i k (ho _ hh hne)
      by_cases h1 : rp i = none
      · by_cases h2 : cp k = none
        · rw [if_pos h1, if_pos h2]; simp
        · exact absurd (.inl rfl) (c2 h2 h1)
      · by_cases h2 : cp k = none
        · have h3 := c1 h1 h2
          have h4 := V.nn i k hi' hk'
          have h5 : u i k = 0 := by
            have : ¬ 0 < u i k := fun z => h3 (.inr z)
            omega
          have h6 := X.nn i k hi' hk'
          rw [if_neg h1, if_pos h2, h5]
          omega
        · rw [if_neg h1, if_neg h2]; simp
    · rw [X.told i k hi' hk' hh, V.told i k hi' hk' hh]
      simp
theorem bound_down (V : Wld r c g hid u) (C : Closed false oth u rp cp) (hR : rp pi ≠ none) (hC : cp pk = none) (hi : pi < r) (hk : pk < c) (ho : ∀ q, q ∈ hid → q ≠ (pi, pk) → q ∈ oth)
    {n : Int} {w : Mat} (X : Wld r c (fun i k => n * g i k) hid w) : n * u pi pk ≤ w pi pk := by
  have z := weigh (r := r) (c := c) (D := fun i k => n * u i k - w i k) (a := fun i => if rp i = none then 0 else 1) (b := fun k => if cp k = none then 0 else 1)
    (fun i hi' => by rw [S_sub _ (w i), S_smul, X.row i hi', V.row i hi', S_smul]; omega)
    (fun k hk' => by rw [S_sub _ (fun i => w i k), S_smul n (fun i => u i k), X.col k hk', V.col k hk', S_smul]; omega)
  have q := S2_ge (r := r) (c := c) (T := fun i k => (n * u i k - w i k) * ((if rp i = none then 0 else 1) - (if cp k = none then 0 else 1))) hi hk fun i k hi' hk' hne => ?_
  · rw [z, if_neg hR, if_pos hC] at q
    omega
  · show 0 ≤ (n * u i k - w i k) * ((if rp i = none then 0 else 1) - (if cp k = none then 0 else 1))
    by_cases hh : (i, k) ∈ hid
    · obtain ⟨c1, c2⟩ := C i k (ho _ hh hne)
      by_cases h1 : rp i = none
      · by_cases h2 : cp k = none
        · rw [if_pos h1, if_pos h2]; simp
        · have h3 := c2 h2 h1
          have h4 := V.nn i k hi' hk'
          have h5 : u i k = 0 := by
            have : ¬ 0 < u i k := fun z => h3 (.inr z)
            omega
          have h6 := X.nn i k hi' hk'
          rw [if_pos h1, if_neg h2, h5]
          omega
      · by_cases h2 : cp k = none
        · exact absurd (.inl rfl) (c1 h1 h2)
        · rw [if_neg h1, if_neg h2]; simp
    · rw [X.told i k hi' hk' hh, V.told i k hi' hk' hh]
      simp
end

/-! ### both ends are there, and scale -/
def IsHigh (r c : Nat) (g : Mat) (hid : List Pl) (p : Pl) (x : Int) : Prop :=
  (∃ w, Wld r c g hid w ∧ w p.1 p.2 = x) ∧ ∀ (n : Int) (w : Mat), Wld r c (fun i k => n * g i k) hid w → w p.1 p.2 ≤ n * x
def IsLow (r c : Nat) (g : Mat) (hid : List Pl) (p : Pl) (x : Int) : Prop :=
  (∃ w, Wld r c g hid w ∧ w p.1 p.2 = x) ∧ ∀ (n : Int) (w : Mat), 0 ≤ n → Wld r c (fun i k => n * g i k) hid w → n * x ≤ w p.1 p.2

section
variable {r c : Nat} {g : Mat} {hid : List Pl} {p : Pl}
/-- the other hidden places -/
def others (hid : List Pl) (p : Pl) : List Pl := hid.filter fun q => decide (q ≠ p)
theorem mem_others {q : Pl} : q ∈ others hid p ↔ q ∈ hid ∧ q ≠ p := by
  unfold others
  rw [List.mem_filter, decide_eq_true_iff]
theorem high_ex (hg : ∀ i k, i < r → k < c → 0 ≤ g i k) (hv : ∀ i k, (i, k) ∈ hid → i < r ∧ k < c) (hp : p ∈ hid) : ∃ x, IsHigh r c g hid p x := by
  obtain ⟨pi, pk⟩ := p
  obtain ⟨hi, hk⟩ := hv pi pk hp
  have main : ∀ (m : Nat) (u : Mat), Wld r c g hid u → S c (g pi) - u pi pk ≤ m → ∃ x, IsHigh r c g hid (pi, pk) x := by
    intro m
    induction m with
    | zero =>
      intro u V hm
      refine ⟨u pi pk, ⟨u, V, rfl⟩, ?_⟩
      intro n w X
      have h1 : w pi pk ≤ S c (w pi) := S_ge hk fun k hk' _ => X.nn pi k hi hk'
      rw [X.row pi hi, S_smul] at h1
      have h2 : u pi pk ≤ S c (u pi) := S_ge hk fun k hk' _ => V.nn pi k hi hk'
      rw [V.row pi hi] at h2
      have e : u pi pk = S c (g pi) := by omega
      show w pi pk ≤ n * u pi pk
      rw [e]; exact h1
    | succ m ih =>
      intro u V hm
      have hv' : ∀ i k, (i, k) ∈ others hid (pi, pk) → i < r ∧ k < c := fun i k h => hv i k (mem_others.mp h).1
      obtain ⟨rp, cp, ro, ka, n, T, C⟩ := tree_closed (u := u) (pi := pi) (up := true) hv' _ _ _ _ _ _ (Tree.start true _ _ pi) (Nat.le_refl _)
      have hR : rp pi ≠ none := by rw [T.root]; exact fun z => nomatch z
      by_cases hC : cp pk = none
      · exact ⟨u pi pk, ⟨u, V, rfl⟩, fun n w X => bound_up V C hR hC hi hk (fun q h1 h2 => mem_others.mpr ⟨h1, h2⟩) X⟩
      · obtain ⟨l, W⟩ := T.way _ pk (Nat.le_refl _) hC
        refine ih (moved true l (pi, pk) 1 u) (V.moved T hv' W hp hi hk (fun q h => mem_others.mp h) (by omega) (fun q h => ?_) fun z => nomatch z) ?_
        · have := ((W.cells T) q true h).2 rfl
          omega
        · rw [moved_at T W fun q h => (mem_others.mp h).2]
          have : sg true true = -1 := rfl
          rw [this]; omega
  exact main (S c (g pi) - g pi pk).toNat g (Wld.self hg) (by omega)
theorem low_ex (hg : ∀ i k, i < r → k < c → 0 ≤ g i k) (hv : ∀ i k, (i, k) ∈ hid → i < r ∧ k < c) (hp : p ∈ hid) : ∃ x, IsLow r c g hid p x := by
  obtain ⟨pi, pk⟩ := p
  obtain ⟨hi, hk⟩ := hv pi pk hp
  have main : ∀ (m : Nat) (u : Mat), Wld r c g hid u → u pi pk ≤ m → ∃ x, IsLow r c g hid (pi, pk) x := by
    intro m
    induction m with
    | zero =>
      intro u V hm
      refine ⟨u pi pk, ⟨u, V, rfl⟩, ?_⟩
      intro n w _ X
      have h1 := X.nn pi pk hi hk
      have h2 := V.nn pi pk hi hk
      have e : u pi pk = 0 := by omega
      show n * u pi pk ≤ w pi pk
      rw [e]; omega
    | succ m ih =>
      intro u V hm
      by_cases hz : u pi pk = 0
      · exact ih u V (by omega)
      have hv' : ∀ i k, (i, k) ∈ others hid (pi, pk) → i < r ∧ k < c := fun i k h => hv i k (mem_others.mp h).1
      obtain ⟨rp, cp, ro, ka, n, T, C⟩ := tree_closed (u := u) (pi := pi) (up := false) hv' _ _ _ _ _ _ (Tree.start false _ _ pi) (Nat.le_refl _)
      have hR : rp pi ≠ none := by rw [T.root]; exact fun z => nomatch z
      by_cases hC : cp pk = none
      · exact ⟨u pi pk, ⟨u, V, rfl⟩, fun n w _ X => bound_down V C hR hC hi hk (fun q h1 h2 => mem_others.mpr ⟨h1, h2⟩) X⟩
      · obtain ⟨l, W⟩ := T.way _ pk (Nat.le_refl _) hC
        have h1 := V.nn pi pk hi hk
        refine ih (moved false l (pi, pk) 1 u) (V.moved T hv' W hp hi hk (fun q h => mem_others.mp h) (by omega) (fun q h => ?_) fun _ => by omega) ?_
        · have := ((W.cells T) q false h).2 rfl
          omega
        · rw [moved_at T W fun q h => (mem_others.mp h).2]
          have : sg false true = 1 := rfl
          rw [this]; omega
  exact main (g pi pk).toNat g (Wld.self hg) (by have := hg pi pk hi hk; omega)
end
end Cv

/-! Countveil, plain mathematics 2: safe lists, lone places, the first safe list, turned and times a number. -/
namespace Cv

/-! ### safe -/
/-- a guard: row, column, below, above -/
abbrev Gd := Nat × Nat × Int × Int
def SafeAt (r c : Nat) (g : Mat) (hid : List Pl) (q : Gd) : Prop :=
  (q.1, q.2.1) ∈ hid ∧ (∃ w, Wld r c g hid w ∧ w q.1 q.2.1 ≤ g q.1 q.2.1 - q.2.2.1) ∧ ∃ w, Wld r c g hid w ∧ g q.1 q.2.1 + q.2.2.2 ≤ w q.1 q.2.1
def Safe (r c : Nat) (g : Mat) (hid : List Pl) (gs : List Gd) : Prop := ∀ q, q ∈ gs → SafeAt r c g hid q

section
variable {r c : Nat} {g g' : Mat} {hid hid' : List Pl} {gs gs' : List Gd} {w : Mat}
theorem Wld.mono (h : ∀ q, q ∈ hid → q ∈ hid') (V : Wld r c g hid w) : Wld r c g hid' w :=
  ⟨V.nn, fun i k hi hk hn => V.told i k hi hk fun z => hn (h _ z), V.row, V.col⟩
theorem Wld.congr (h : ∀ i k, i < r → k < c → g i k = g' i k) (V : Wld r c g hid w) : Wld r c g' hid w :=
  ⟨V.nn, fun i k hi hk hn => (V.told i k hi hk hn).trans (h i k hi hk), fun i hi => (V.row i hi).trans (S_congr fun k hk => h i k hi hk), fun k hk => (V.col k hk).trans (S_congr fun i hi => h i k hi hk)⟩
theorem Safe.mono (h : ∀ q, q ∈ hid → q ∈ hid') (s : Safe r c g hid gs) : Safe r c g hid' gs := fun q hq =>
  let ⟨a, ⟨w, V, e⟩, ⟨w', V', e'⟩⟩ := s q hq
  ⟨h _ a, ⟨w, V.mono h, e⟩, ⟨w', V'.mono h, e'⟩⟩
theorem Safe.guards (h : ∀ q, q ∈ gs' → q ∈ gs) (s : Safe r c g hid gs) : Safe r c g hid gs' := fun q hq => s q (h q hq)
theorem Safe.congr (h : ∀ i k, i < r → k < c → g i k = g' i k) (hv : ∀ q, q ∈ gs → q.1 < r ∧ q.2.1 < c) (s : Safe r c g hid gs) : Safe r c g' hid gs := fun q hq => by
  obtain ⟨a, ⟨w, V, e⟩, ⟨w', V', e'⟩⟩ := s q hq
  have z := h q.1 q.2.1 (hv q hq).1 (hv q hq).2
  exact ⟨a, ⟨w, V.congr h, by omega⟩, ⟨w', V'.congr h, by omega⟩⟩

/-! ### turned -/
def swp (p : Pl) : Pl := (p.2, p.1)
def tr (g : Mat) : Mat := fun k i => g i k
def gdT (q : Gd) : Gd := (q.2.1, q.1, q.2.2.1, q.2.2.2)
theorem Wld.turn (V : Wld r c g hid w) (h : ∀ i k, (i, k) ∈ hid → i < r → k < c → (k, i) ∈ hid') : Wld c r (tr g) hid' (tr w) :=
  ⟨fun k i hk hi => V.nn i k hi hk, fun k i hk hi hn => V.told i k hi hk fun z => hn (h i k z hi hk), fun k hk => V.col k hk, fun i hi => V.row i hi⟩
theorem Safe.turn (s : Safe r c g hid gs) (h : ∀ i k, (i, k) ∈ hid → i < r → k < c → (k, i) ∈ hid') (hv : ∀ q, q ∈ gs → q.1 < r ∧ q.2.1 < c) (hg : ∀ q, q ∈ gs' → gdT q ∈ gs) : Safe c r (tr g) hid' gs' := fun q hq => by
  obtain ⟨a, ⟨w, V, e⟩, ⟨w', V', e'⟩⟩ := s (gdT q) (hg q hq)
  have b := hv _ (hg q hq)
  exact ⟨h _ _ a b.1 b.2, ⟨tr w, V.turn h, e⟩, ⟨tr w', V'.turn h, e'⟩⟩

/-! ### times a number -/
def gdX (b : Int) (q : Gd) : Gd := (q.1, q.2.1, b * q.2.2.1, b * q.2.2.2)
theorem Wld.times {b : Int} (hb : 0 ≤ b) (V : Wld r c g hid w) : Wld r c (fun i k => b * g i k) hid (fun i k => b * w i k) :=
  ⟨fun i k hi hk => Int.mul_nonneg hb (V.nn i k hi hk), fun i k hi hk hn => by rw [V.told i k hi hk hn], fun i hi => by rw [S_smul, S_smul, V.row i hi], fun k hk => by rw [S_smul b (fun i => w i k), S_smul b (fun i => g i k), V.col k hk]⟩
theorem Safe.times {b : Int} (hb : 0 ≤ b) (s : Safe r c g hid gs) : Safe r c (fun i k => b * g i k) hid (gs.map (gdX b)) := fun q hq => by
  obtain ⟨q0, h0, rfl⟩ := List.mem_map.mp hq
  obtain ⟨a, ⟨w, V, e⟩, ⟨w', V', e'⟩⟩ := s q0 h0
  refine ⟨a, ⟨_, V.times hb, ?_⟩, ⟨_, V'.times hb, ?_⟩⟩
  · have z := Int.mul_le_mul_of_nonneg_left e hb
    rw [Int.mul_sub] at z
    exact z
  · have z := Int.mul_le_mul_of_nonneg_left e' hb
    rw [Int.mul_add] at z
    exact z
theorem Safe.untimes {b : Int} (hb : 0 < b) (hg : ∀ i k, i < r → k < c → 0 ≤ g i k) (hv : ∀ i k, (i, k) ∈ hid → i < r ∧ k < c) (s : Safe r c (fun i k => b * g i k) hid (gs.map (gdX b))) : Safe r c g hid gs := fun q hq => by
  obtain ⟨a, ⟨w, V, e⟩, ⟨w', V', e'⟩⟩ := s (gdX b q) (List.mem_map.mpr ⟨q, hq, rfl⟩)
  obtain ⟨x, ⟨lw, LV, le⟩, lb⟩ := low_ex hg hv a
  obtain ⟨y, ⟨hw, HV, he⟩, hb'⟩ := high_ex hg hv a
  refine ⟨a, ⟨lw, LV, ?_⟩, ⟨hw, HV, ?_⟩⟩
  · have z := lb b w (Int.le_of_lt hb) V
    have e2 : b * x ≤ b * (g q.1 q.2.1 - q.2.2.1) := by
      rw [Int.mul_sub]
      exact Int.le_trans z e
    have := Int.le_of_mul_le_mul_left e2 hb
    exact Int.le_trans (Int.le_of_eq le) this
  · have z := hb' b w' V'
    have e2 : b * (g q.1 q.2.1 + q.2.2.2) ≤ b * y := by
      rw [Int.mul_add]
      exact Int.le_trans e' z
    have := Int.le_of_mul_le_mul_left e2 hb
    exact Int.le_trans this (Int.le_of_eq he.symm)

/-! ### a lone place -/
def Lone (h : List Pl) : Prop := ∃ q, q ∈ h ∧ ((h.map Prod.fst).count q.1 = 1 ∨ (h.map Prod.snd).count q.2 = 1)
theorem count_zero_of {α : Type} {f : α → Nat} {b : Nat} : ∀ {l : List α}, (l.map f).count b = 0 → ∀ x, x ∈ l → f x ≠ b
  | [], _, _, hx => absurd hx (by simp)
  | a :: l, h, x, hx => by
    rw [List.map_cons, List.count_cons] at h
    rcases List.mem_cons.mp hx with rfl | hx
    · intro e
      rw [e] at h
      simp at h
    · exact count_zero_of (l := l) (by omega) x hx
theorem count_one {α : Type} {f : α → Nat} {b : Nat} : ∀ {l : List α}, (l.map f).count b = 1 → ∀ x y, x ∈ l → y ∈ l → f x = b → f y = b → x = y
  | [], h, _, _, _, _, _, _ => by simp at h
  | a :: l, h, x, y, hx, hy, ex, ey => by
    rw [List.map_cons, List.count_cons] at h
    by_cases e : f a = b
    · have h0 : (l.map f).count b = 0 := by
        rw [if_pos (by rw [e]; exact beq_self_eq_true b)] at h
        omega
      have z := count_zero_of h0
      rcases List.mem_cons.mp hx with rfl | hx
      · rcases List.mem_cons.mp hy with rfl | hy
        · rfl
        · exact absurd ey (z y hy)
      · exact absurd ex (z x hx)
    · rw [if_neg (by rw [beq_iff_eq]; exact e)] at h
      rcases List.mem_cons.mp hx with rfl | hx
      · exact absurd ex e
      · rcases List.mem_cons.mp hy with rfl | hy
        · exact absurd ey e
        · exact count_one (l := l) (by omega) x y hx hy ex ey
theorem Wld.lone {q : Pl} (V : Wld r c g hid w) (hi : q.1 < r) (hk : q.2 < c) (hq : q ∈ hid) (hl : (hid.map Prod.fst).count q.1 = 1 ∨ (hid.map Prod.snd).count q.2 = 1) : w q.1 q.2 = g q.1 q.2 := by
  rcases hl with hl | hl
  · have z : S c (fun k => w q.1 k - g q.1 k) = 0 := by
      rw [S_sub (w q.1) (g q.1), V.row _ hi]; omega
    rw [S_one (f := fun k => w q.1 k - g q.1 k) hk fun k hk' hne => ?_] at z
    · have z' : w q.1 q.2 - g q.1 q.2 = 0 := z
      omega
    · rw [V.told q.1 k hi hk' fun hm => hne (congrArg Prod.snd (count_one hl _ _ hm hq rfl rfl))]
      omega
  · have z : S r (fun i => w i q.2 - g i q.2) = 0 := by
      rw [S_sub (fun i => w i q.2) (fun i => g i q.2), V.col _ hk]; omega
    rw [S_one (f := fun i => w i q.2 - g i q.2) hi fun i hi' hne => ?_] at z
    · have z' : w q.1 q.2 - g q.1 q.2 = 0 := z
      omega
    · rw [V.told i q.2 hi' hk fun hm => hne (congrArg Prod.fst (count_one hl _ _ hm hq rfl rfl))]
      omega
theorem Wld.drop {q : Pl} (V : Wld r c g hid w) (e : w q.1 q.2 = g q.1 q.2) : Wld r c g (others hid q) w :=
  ⟨V.nn, fun i k hi hk hn => by
    by_cases z : (i, k) = q
    · rw [← z] at e; exact e
    · exact V.told i k hi hk fun hm => hn (mem_others.mpr ⟨hm, z⟩), V.row, V.col⟩
theorem Safe.drop {q : Pl} (s : Safe r c g hid gs) (hi : q.1 < r) (hk : q.2 < c) (hq : q ∈ hid) (hl : (hid.map Prod.fst).count q.1 = 1 ∨ (hid.map Prod.snd).count q.2 = 1) (hp : ∀ x, x ∈ gs → 0 < x.2.2.1 + x.2.2.2) :
    Safe r c g (others hid q) gs := fun x hx => by
  obtain ⟨a, ⟨w, V, e⟩, ⟨w', V', e'⟩⟩ := s x hx
  have h1 := V.lone hi hk hq hl
  have h2 := V'.lone hi hk hq hl
  have hne : (x.1, x.2.1) ≠ q := fun z => by
    have h3 := hp x hx
    subst z
    have h1' : w x.1 x.2.1 = g x.1 x.2.1 := h1
    have h2' : w' x.1 x.2.1 = g x.1 x.2.1 := h2
    omega
  exact ⟨mem_others.mpr ⟨a, hne⟩, ⟨w, V.drop h1, e⟩, ⟨w', V'.drop h2, e'⟩⟩
theorem others_lt {q : Pl} (h : q ∈ hid) : (others hid q).length < hid.length := by
  unfold others
  refine Nat.lt_of_le_of_ne (List.length_filter_le _ _) fun e => ?_
  have := List.length_filter_eq_length_iff.mp e q h
  simp at this
end

/-! ### all places, all lists of some -/
def places (r c : Nat) : List Pl := (List.range r).flatMap fun i => (List.range c).map fun k => (i, k)
theorem mem_places {r c : Nat} {p : Pl} : p ∈ places r c ↔ p.1 < r ∧ p.2 < c := by
  unfold places
  constructor
  · intro h
    obtain ⟨i, hi, h⟩ := List.mem_flatMap.mp h
    obtain ⟨k, hk, rfl⟩ := List.mem_map.mp h
    exact ⟨List.mem_range.mp hi, List.mem_range.mp hk⟩
  · intro h
    exact List.mem_flatMap.mpr ⟨p.1, List.mem_range.mpr h.1, List.mem_map.mpr ⟨p.2, List.mem_range.mpr h.2, rfl⟩⟩
theorem places_succ (r c : Nat) : places (r + 1) c = places r c ++ (List.range c).map fun k => (r, k) := by
  unfold places
  rw [List.range_succ, List.flatMap_append]
  simp
theorem places_len (c : Nat) : ∀ r, (places r c).length = r * c
  | 0 => by simp [places]
  | r + 1 => by
    rw [places_succ, List.length_append, places_len c r, List.length_map, List.length_range, Nat.succ_mul]
theorem nodup_range_map {α : Type} {f : Nat → α} (hf : ∀ a b, f a = f b → a = b) : ∀ n, ((List.range n).map f).Nodup
  | 0 => by simp
  | n + 1 => by
    rw [List.range_succ, List.map_append, List.nodup_append]
    refine ⟨nodup_range_map hf n, by simp, fun a ha b hb e => ?_⟩
    obtain ⟨i, hi, rfl⟩ := List.mem_map.mp ha
    rw [List.map_singleton, List.mem_singleton] at hb
    have := hf _ _ (e.trans hb)
    have := List.mem_range.mp hi
    omega
theorem places_nodup (c : Nat) : ∀ r, (places r c).Nodup
  | 0 => by simp [places]
  | r + 1 => by
    rw [places_succ, List.nodup_append]
    refine ⟨places_nodup c r, nodup_range_map (fun a b e => (Prod.mk.inj e).2) c, fun a ha b hb e => ?_⟩
    obtain ⟨k, hk, rfl⟩ := List.mem_map.mp hb
    have := (mem_places.mp ha).1
    rw [e] at this
    exact Nat.lt_irrefl _ this
/-- as the law writes them -/
theorem places_div (c : Nat) (hc : 0 < c) : ∀ r, (List.range (r * c)).map (fun p => (p / c, p % c)) = places r c
  | 0 => by simp [places]
  | r + 1 => by
    rw [places_succ, ← places_div c hc r, Nat.succ_mul, List.range_add, List.map_append, List.map_map]
    congr 1
    refine List.map_congr_left fun k hk => ?_
    have hk' := List.mem_range.mp hk
    show ((r * c + k) / c, (r * c + k) % c) = (r, k)
    rw [Nat.mul_comm r c, Nat.mul_add_div hc, Nat.mul_add_mod, Nat.div_eq_of_lt hk', Nat.mod_eq_of_lt hk', Nat.add_zero]
def subsFrom (f : List (List Pl)) (ps : List Pl) : List (List Pl) := ps.foldl (fun f p => f ++ f.map (· ++ [p])) f
def subs (ps : List Pl) : List (List Pl) := subsFrom [[]] ps
theorem mem_subsFrom {x : List Pl} : ∀ {ps : List Pl} {f : List (List Pl)}, x ∈ subsFrom f ps ↔ ∃ y, y ∈ f ∧ ∃ z, z.Sublist ps ∧ x = y ++ z
  | [], f => by
    constructor
    · intro h
      exact ⟨x, h, [], List.Sublist.slnil, by simp⟩
    · rintro ⟨y, hy, z, hz, rfl⟩
      rw [List.sublist_nil.mp hz, List.append_nil]
      exact hy
  | p :: ps, f => by
    have ih := mem_subsFrom (x := x) (ps := ps) (f := f ++ f.map (· ++ [p]))
    constructor
    · intro h
      obtain ⟨y, hy, z, hz, e⟩ := ih.mp h
      rcases List.mem_append.mp hy with hy | hy
      · exact ⟨y, hy, z, hz.cons p, e⟩
      · obtain ⟨y0, h0, rfl⟩ := List.mem_map.mp hy
        exact ⟨y0, h0, p :: z, hz.cons_cons p, by rw [e]; simp⟩
    · rintro ⟨y, hy, z, hz, rfl⟩
      refine ih.mpr ?_
      cases hz with
      | cons _ hz => exact ⟨y, List.mem_append_left _ hy, _, hz, rfl⟩
      | cons_cons _ hz => exact ⟨y ++ [p], List.mem_append_right _ (List.mem_map.mpr ⟨y, hy, rfl⟩), _, hz, by simp⟩
theorem mem_subs {x ps : List Pl} : x ∈ subs ps ↔ x.Sublist ps := by
  unfold subs
  rw [mem_subsFrom]
  constructor
  · rintro ⟨y, hy, z, hz, rfl⟩
    rw [List.mem_singleton.mp hy]
    exact hz
  · intro h
    exact ⟨[], List.mem_singleton.mpr rfl, x, h, rfl⟩
theorem subsFrom_len : ∀ (ps : List Pl) (f : List (List Pl)), (subsFrom f ps).length = f.length * 2 ^ ps.length
  | [], f => by simp [subsFrom]
  | p :: ps, f => by
    have ih := subsFrom_len ps (f ++ f.map (· ++ [p]))
    show (subsFrom (f ++ f.map (· ++ [p])) ps).length = _
    rw [ih, List.length_append, List.length_map, List.length_cons, Nat.pow_succ, ← Nat.two_mul, Nat.mul_assoc, Nat.mul_comm 2, Nat.mul_assoc, Nat.mul_comm (2 ^ _) 2]
theorem subs_len (ps : List Pl) : (subs ps).length = 2 ^ ps.length := by
  unfold subs
  rw [subsFrom_len]
  simp

/-! ### the first -/
def First (L : List (List Pl)) (P : List Pl → Prop) : Option (List Pl) → Prop
  | none => ∀ h, h ∈ L → ¬ P h
  | some h => ∃ i : Nat, L[i]? = some h ∧ P h ∧ ∀ j : Nat, j < i → ∀ h' : List Pl, L[j]? = some h' → ¬ P h'
theorem First.unique {L : List (List Pl)} {P : List Pl → Prop} : ∀ {o o' : Option (List Pl)}, First L P o → First L P o' → o = o'
  | none, none, _, _ => rfl
  | none, some h, a, ⟨i, e, p, _⟩ => absurd p (a h (List.mem_of_getElem? e))
  | some h, none, ⟨i, e, p, _⟩, a => absurd p (a h (List.mem_of_getElem? e))
  | some h, some h', ⟨i, e, p, f⟩, ⟨i', e', p', f'⟩ => by
    rcases Nat.lt_trichotomy i i' with l | l | l
    · exact absurd p (f' i l h e)
    · subst l
      rw [e] at e'
      exact e'
    · exact absurd p' (f i' l h' e')
theorem First.congr {L : List (List Pl)} {P P' : List Pl → Prop} (hP : ∀ h, h ∈ L → (P h ↔ P' h)) : ∀ {o : Option (List Pl)}, First L P o → First L P' o
  | none, a => fun h hm q => a h hm ((hP h hm).mpr q)
  | some h, ⟨i, e, p, f⟩ => ⟨i, e, (hP h (List.mem_of_getElem? e)).mp p, fun j hj h' e' q => f j hj h' e' ((hP h' (List.mem_of_getElem? e')).mpr q)⟩
/-- in order of length -/
def ByLen (L : List (List Pl)) : Prop := ∀ (i j : Nat) (h h' : List Pl), i ≤ j → L[i]? = some h → L[j]? = some h' → h.length ≤ h'.length
theorem First.least {L : List (List Pl)} {P : List Pl → Prop} {h : List Pl} (B : ByLen L) (F : First L P (some h)) : h ∈ L ∧ P h ∧ ∀ h', h' ∈ L → P h' → h.length ≤ h'.length := by
  obtain ⟨i, e, p, f⟩ := F
  refine ⟨List.mem_of_getElem? e, p, fun h' hm q => ?_⟩
  obtain ⟨j, ej⟩ := List.getElem?_of_mem hm
  by_cases hj : j < i
  · exact absurd q (f j hj h' ej)
  · exact B i j h h' (by omega) e ej
section
variable {r c : Nat} {g : Mat} {gs : List Gd} {L : List (List Pl)}
/-- the first safe list has no lone place -/
theorem First.notLone (B : ByLen L) (hL : ∀ h, h ∈ L ↔ h.Sublist (places r c)) (hp : ∀ x, x ∈ gs → 0 < x.2.2.1 + x.2.2.2) {h : List Pl} (F : First L (fun h => Safe r c g h gs) (some h)) : ¬ Lone h := by
  rintro ⟨q, hq, hl⟩
  obtain ⟨hm, hs, hmin⟩ := F.least B
  have hsub := (hL h).mp hm
  have hv := mem_places.mp (hsub.subset hq)
  have hs' : Safe r c g (others h q) gs := hs.drop hv.1 hv.2 hq hl hp
  have := hmin (others h q) ((hL _).mpr (List.filter_sublist.trans hsub)) hs'
  have := others_lt hq
  omega
theorem First.lone (B : ByLen L) (hL : ∀ h, h ∈ L ↔ h.Sublist (places r c)) (hp : ∀ x, x ∈ gs → 0 < x.2.2.1 + x.2.2.2) : ∀ {o : Option (List Pl)}, First L (fun h => Safe r c g h gs) o → First L (fun h => Safe r c g h gs ∧ ¬ Lone h) o
  | none, F => fun h hm q => F h hm q.1
  | some h, F => by
    have hn := F.notLone B hL hp
    obtain ⟨i, e, p, f⟩ := F
    exact ⟨i, e, ⟨p, hn⟩, fun j hj h' e' q => f j hj h' e' q.1⟩
theorem First.all (hL : ∀ h, h ∈ L ↔ h.Sublist (places r c)) {o : Option (List Pl)} (F : First L (fun h => Safe r c g h gs) o) : o = none ↔ ¬ Safe r c g (places r c) gs := by
  constructor
  · rintro rfl hs
    exact F _ ((hL _).mpr (List.Sublist.refl _)) hs
  · intro hn
    cases o with
    | none => rfl
    | some h =>
      obtain ⟨i, e, p, f⟩ := F
      exact absurd (p.mono ((hL h).mp (List.mem_of_getElem? e)).subset) hn
end
/-- two programs' firsts are as long where their lists answer each other -/
theorem First.sameLen {L L' : List (List Pl)} {P P' : List Pl → Prop} (B : ByLen L) (B' : ByLen L') (h1 : ∀ h, h ∈ L → P h → ∃ h', h' ∈ L' ∧ P' h' ∧ h'.length = h.length) (h2 : ∀ h, h ∈ L' → P' h → ∃ h', h' ∈ L ∧ P h' ∧ h'.length = h.length) :
    ∀ {o o' : Option (List Pl)}, First L P o → First L' P' o' → o.map List.length = o'.map List.length
  | none, none, _, _ => rfl
  | none, some h, a, F => by
    obtain ⟨hm, p, _⟩ := F.least B'
    obtain ⟨h', hm', p', _⟩ := h2 h hm p
    exact absurd p' (a h' hm')
  | some h, none, F, a => by
    obtain ⟨hm, p, _⟩ := F.least B
    obtain ⟨h', hm', p', _⟩ := h1 h hm p
    exact absurd p' (a h' hm')
  | some h, some h', F, F' => by
    obtain ⟨hm, p, l⟩ := F.least B
    obtain ⟨hm', p', l'⟩ := F'.least B'
    obtain ⟨a, am, ap, ae⟩ := h1 h hm p
    obtain ⟨b, bm, bp, be⟩ := h2 h' hm' p'
    have := l b bm bp
    have := l' a am ap
    show some h.length = some h'.length
    rw [show h.length = h'.length by omega]

/-! ### lists turned -/
theorem nodup_le {α : Type} [DecidableEq α] : ∀ {l m : List α}, l.Nodup → (∀ x, x ∈ l → x ∈ m) → l.length ≤ m.length
  | [], _, _, _ => Nat.zero_le _
  | a :: l, m, hn, hs => by
    obtain ⟨h1, h2⟩ := List.nodup_cons.mp hn
    have ha := hs a (List.mem_cons_self ..)
    have ih := nodup_le (l := l) (m := m.erase a) h2 fun x hx => by
      have hne : x ≠ a := fun e => h1 (e ▸ hx)
      exact (List.mem_erase_of_ne hne).mpr (hs x (List.mem_cons_of_mem _ hx))
    have e := List.length_erase_of_mem ha
    have : 0 < m.length := List.length_pos_of_mem ha
    rw [List.length_cons]
    omega
/-- the same places, turned, in order -/
def turnL (r c : Nat) (h : List Pl) : List Pl := (places c r).filter fun q => decide (swp q ∈ h)
theorem mem_turnL {r c : Nat} {h : List Pl} {q : Pl} : q ∈ turnL r c h ↔ q ∈ places c r ∧ swp q ∈ h := by
  unfold turnL
  rw [List.mem_filter, decide_eq_true_iff]
theorem turnL_len {r c : Nat} {h : List Pl} (hs : h.Sublist (places r c)) : (turnL r c h).length = h.length := by
  have hn : h.Nodup := (places_nodup c r).sublist hs
  have hn' : (turnL r c h).Nodup := (places_nodup r c).sublist List.filter_sublist
  have a := nodup_le (l := (turnL r c h).map swp) (m := h) (by
    rw [List.nodup_iff_pairwise_ne, List.pairwise_map]
    refine hn'.imp fun hne e => hne ?_
    have := congrArg swp e
    exact this) fun x hx => by
      obtain ⟨y, hy, rfl⟩ := List.mem_map.mp hx
      exact (mem_turnL.mp hy).2
  have b := nodup_le (l := h.map swp) (m := turnL r c h) (by
    rw [List.nodup_iff_pairwise_ne, List.pairwise_map]
    refine hn.imp fun hne e => hne ?_
    have := congrArg swp e
    exact this) fun x hx => by
      obtain ⟨y, hy, rfl⟩ := List.mem_map.mp hx
      have := mem_places.mp (hs.subset hy)
      exact mem_turnL.mpr ⟨mem_places.mpr ⟨this.2, this.1⟩, hy⟩
  rw [List.length_map] at a b
  omega

section
variable {r c : Nat} {g : Mat} {gs gs' : List Gd} {L L' : List (List Pl)}
/-- turned it takes as many -/
theorem turned_len (B : ByLen L) (B' : ByLen L') (hL : ∀ h, h ∈ L ↔ h.Sublist (places r c)) (hL' : ∀ h, h ∈ L' ↔ h.Sublist (places c r)) (hv : ∀ q, q ∈ gs → q.1 < r ∧ q.2.1 < c)
    (hg : ∀ q, q ∈ gs' ↔ gdT q ∈ gs) {o o' : Option (List Pl)} (F : First L (fun h => Safe r c g h gs) o) (F' : First L' (fun h => Safe c r (tr g) h gs') o') : o.map List.length = o'.map List.length := by
  refine First.sameLen B B' (fun h hm hs => ?_) (fun h hm hs => ?_) F F'
  · refine ⟨turnL r c h, (hL' _).mpr List.filter_sublist, hs.turn (fun i k hh hi hk => ?_) hv fun q hq => (hg q).mp hq, turnL_len ((hL h).mp hm)⟩
    exact mem_turnL.mpr ⟨mem_places.mpr ⟨hk, hi⟩, hh⟩
  · refine ⟨turnL c r h, (hL _).mpr List.filter_sublist, ?_, turnL_len ((hL' h).mp hm)⟩
    have hv' : ∀ q, q ∈ gs' → q.1 < c ∧ q.2.1 < r := fun q hq => by
      have := hv _ ((hg q).mp hq)
      exact ⟨this.2, this.1⟩
    exact hs.turn (hid' := turnL c r h) (gs' := gs) (fun i k hh hi hk => mem_turnL.mpr ⟨mem_places.mpr ⟨hk, hi⟩, hh⟩) hv' fun q hq => (hg (gdT q)).mpr hq
/-- times a number it takes as many -/
theorem times_len {b : Int} (hb : 0 < b) (B : ByLen L) (hL : ∀ h, h ∈ L ↔ h.Sublist (places r c)) (h0 : ∀ i k, i < r → k < c → 0 ≤ g i k)
    {o o' : Option (List Pl)} (F : First L (fun h => Safe r c g h gs) o) (F' : First L (fun h => Safe r c (fun i k => b * g i k) h (gs.map (gdX b))) o') : o = o' := by
  refine First.unique F (F'.congr fun h hm => ?_)
  exact ⟨fun s => s.untimes hb h0 fun i k hh => mem_places.mp (((hL h).mp hm).subset hh), fun s => s.times (Int.le_of_lt hb)⟩
end
end Cv

set_option Elab.async false
set_option linter.all false
set_option maxRecDepth 100000
set_option maxHeartbeats 4000000
/-! Countveil, the layer's own rules: tracked data, comprehensions that give data, sets of ints, augmented places, sorted data, repr. -/
namespace Cv
open PySem PySem.Spec PyProof.Rows L2

/-! ### tracked data -/
mutual
inductive DT (H : Hp) : V → PyData → Prop
  | non : DT H .non .none
  | bl (b : Bool) : DT H (.bl b) (.bool b)
  | int (i : Int) : DT H (.int i) (.int i)
  | lst {a : Addr} {xs : List V} {ds : List PyData} : H a = some (.lst xs) → DTs H xs ds → DT H (.ref a) (.list ds)
  | tup {a : Addr} {xs : List V} {ds : List PyData} : H a = some (.tup xs) → DTs H xs ds → DT H (.ref a) (.tuple ds)
inductive DTs (H : Hp) : List V → List PyData → Prop
  | nil : DTs H [] []
  | cons {v : V} {vs : List V} {d : PyData} {ds : List PyData} : DT H v d → DTs H vs ds → DTs H (v :: vs) (d :: ds)
end
/-- what lists and tuples there are stay -/
def Ext (H H' : Hp) : Prop := ∀ b o, H b = some o → (∀ ps, o ≠ .tbl ps) → H' b = some o
theorem Ext.of {H H' : Hp} (s : Same H H') : Ext H H' := fun b o e _ => s b o e
theorem Ext.refl (H : Hp) : Ext H H := fun _ _ h _ => h
theorem Ext.trans {H H1 H2 : Hp} (a : Ext H H1) (b : Ext H1 H2) : Ext H H2 := fun c o h n => b c o (a c o h n) n
mutual
theorem DT.ext {H H' : Hp} (s : Ext H H') : ∀ {v : V} {d : PyData}, DT H v d → DT H' v d
  | _, _, .non => .non
  | _, _, .bl b => .bl b
  | _, _, .int i => .int i
  | _, _, .lst h t => .lst (s _ _ h fun ps z => by cases z) (DTs.ext s t)
  | _, _, .tup h t => .tup (s _ _ h fun ps z => by cases z) (DTs.ext s t)
theorem DTs.ext {H H' : Hp} (s : Ext H H') : ∀ {vs : List V} {ds : List PyData}, DTs H vs ds → DTs H' vs ds
  | _, _, .nil => .nil
  | _, _, .cons h t => .cons (DT.ext s h) (DTs.ext s t)
end
theorem DT.same {H H' : Hp} (s : Same H H') {v : V} {d : PyData} (h : DT H v d) : DT H' v d := h.ext (.of s)
theorem DTs.same {H H' : Hp} (s : Same H H') {vs : List V} {ds : List PyData} (h : DTs H vs ds) : DTs H' vs ds := h.ext (.of s)
mutual
theorem DT.dp {K : PySem.W.Frag} {H : Hp} : ∀ {v : V} {d : PyData}, DT H v d → Dp K H v d
  | _, _, .non => .non
  | _, _, .bl b => .bl b
  | _, _, .int i => .int i
  | _, _, .lst h t => .lst (SqL.of h) (DTs.dp t)
  | _, _, .tup h t => .tup (SqT.of h) (DTs.dp t)
theorem DTs.dp {K : PySem.W.Frag} {H : Hp} : ∀ {vs : List V} {ds : List PyData}, DTs H vs ds → DpAll K H vs ds
  | _, _, .nil => .nil
  | _, _, .cons h t => .cons (DT.dp h) (DTs.dp t)
end
theorem DTs.length {H : Hp} : ∀ {vs : List V} {ds : List PyData}, DTs H vs ds → vs.length = ds.length
  | _, _, .nil => rfl
  | _, _, .cons _ t => congrArg Nat.succ t.length
theorem DTs.get {H : Hp} : ∀ {vs : List V} {ds : List PyData} {i : Nat} {d : PyData}, DTs H vs ds → ds[i]? = some d → ∃ v, vs[i]? = some v ∧ DT H v d
  | _, _, _, _, .nil, h => by simp at h
  | _, _, 0, _, .cons h t, e => by
    simp at e
    subst e
    exact ⟨_, rfl, h⟩
  | _, _, i + 1, _, .cons h t, e => t.get (i := i) (by simpa using e)
theorem DTs.at_ {H : Hp} : ∀ {vs : List V} {ds : List PyData} {i : Nat} {v : V}, DTs H vs ds → vs[i]? = some v → ∃ d, ds[i]? = some d ∧ DT H v d
  | _, _, _, _, .nil, h => by simp at h
  | _, _, 0, _, .cons h t, e => by
    simp at e
    subst e
    exact ⟨_, rfl, h⟩
  | _, _, i + 1, _, .cons h t, e => t.at_ (i := i) (by simpa using e)
theorem DTs.append {H : Hp} : ∀ {vs ws : List V} {ds es : List PyData}, DTs H vs ds → DTs H ws es → DTs H (vs ++ ws) (ds ++ es)
  | _, _, _, _, .nil, s => s
  | _, _, _, _, .cons h t, s => .cons h (t.append s)
theorem DTs.ints {H : Hp} : ∀ ns : List Int, DTs H (ns.map V.int) (ns.map PyData.int)
  | [] => .nil
  | n :: ns => .cons (.int n) (DTs.ints ns)
theorem DTs.toInts {H : Hp} : ∀ {ns : List Int} {vs : List V}, DTs H vs (ns.map PyData.int) → vs = ns.map V.int
  | [], _, .nil => rfl
  | n :: ns, _, .cons h t => by
    cases h
    rw [DTs.toInts t]
    rfl
theorem DTs.bls {H : Hp} : ∀ bs : List Bool, DTs H (bs.map V.bl) (bs.map PyData.bool)
  | [] => .nil
  | b :: bs => .cons (.bl b) (DTs.bls bs)
theorem DTs.toBls {H : Hp} : ∀ {bs : List Bool} {vs : List V}, DTs H vs (bs.map PyData.bool) → vs = bs.map V.bl
  | [], _, .nil => rfl
  | b :: bs, _, .cons h t => by
    cases h
    rw [DTs.toBls t]
    rfl
theorem DT.inList {H : Hp} {v : V} {ds : List PyData} (h : DT H v (.list ds)) : ∃ a xs, v = .ref a ∧ H a = some (.lst xs) ∧ DTs H xs ds := by
  cases h with
  | lst e t => exact ⟨_, _, rfl, e, t⟩
theorem DT.inTup {H : Hp} {v : V} {ds : List PyData} (h : DT H v (.tuple ds)) : ∃ a xs, v = .ref a ∧ H a = some (.tup xs) ∧ DTs H xs ds := by
  cases h with
  | tup e t => exact ⟨_, _, rfl, e, t⟩
theorem DT.inInt {H : Hp} {v : V} {i : Int} (h : DT H v (.int i)) : v = .int i := by
  cases h
  rfl
theorem DT.inBool {H : Hp} {v : V} {b : Bool} (h : DT H v (.bool b)) : v = .bl b := by
  cases h
  rfl
theorem DT.inNone {H : Hp} {v : V} (h : DT H v .none) : v = .non := by
  cases h
  rfl
theorem same_new {H : Hp} {p : Addr} {o : HO} (h : H p = none) : Same H (upd H p o) := fun b x e => by
  rw [upd_ne (ne_of_none e h)]
  exact e
/-- the heap but for one object -/
def hide (D : Addr) (H : Hp) : Hp := fun a => if a = D then none else H a
theorem hide_ne {D a : Addr} {H : Hp} (h : a ≠ D) : hide D H a = H a := if_neg h
theorem hide_self {D : Addr} {H : Hp} : hide D H D = none := if_pos rfl
theorem hide_none {D : Addr} {H : Hp} (h : H D = none) : hide D H = H := by
  funext a
  unfold hide
  by_cases e : a = D
  · rw [if_pos e, e, h]
  · rw [if_neg e]
theorem hide_upd {D : Addr} {H : Hp} {o : HO} : hide D (upd H D o) = hide D H := by
  funext a
  unfold hide
  by_cases e : a = D
  · rw [if_pos e, if_pos e]
  · rw [if_neg e, if_neg e, upd_ne e]
theorem hide_upd_ne {D p : Addr} {H : Hp} {o : HO} (h : p ≠ D) : hide D (upd H p o) = upd (hide D H) p o := by
  funext a
  by_cases e : a = D
  · rw [e, hide_self, upd_ne h.symm, hide_self]
  · rw [hide_ne e]
    by_cases e2 : a = p
    · rw [e2, upd_same, upd_same]
    · rw [upd_ne e2, upd_ne e2, hide_ne e]
theorem hide_same {D : Addr} {H : Hp} : Same (hide D H) H := fun b o e => by
  unfold hide at e
  by_cases z : b = D
  · rw [if_pos z] at e
    cases e
  · rw [if_neg z] at e
    exact e
theorem hide_mono {D : Addr} {H H' : Hp} (s : Same H H') : Same (hide D H) (hide D H') := fun b o e => by
  unfold hide at e ⊢
  by_cases z : b = D
  · rw [if_pos z] at e
    cases e
  · rw [if_neg z] at e ⊢
    exact s b o e
theorem hide_lift {D : Addr} {H H' : Hp} (n : H D = none) (s : Same H H') : Same H (hide D H') := fun b o e => by
  rw [hide_ne (ne_of_none e n)]
  exact s b o e

/-! ### a list comprehension that gives data -/
section
variable {σ : L2.St} {H1 : Hp} {vs : List Nat} {g : TG} {tt : TT} {te : TE}
/-- the data of the list, turn by turn: none where the test fails -/
theorem lcD {J : It} {D : Addr} {Qd : Hp → Prop} (os : List (Option PyData)) (hz : os.length < sizeLine) (hD : H1 D = none)
    (stop : ∀ H', Same H1 (hide D H') → J.stop os.length H') (go : ∀ i H', i < os.length → Same H1 (hide D H') → J.go i H')
    (step : ∀ (i : Nat) (o : Option PyData) (H' : Hp) (x : V) (H'' : Hp) (Kt : V → Hp → Prop) (Kf : Hp → Prop), os[i]? = some o → Same H1 (hide D H') → H' D ≠ none → J.yld i H' x H'' →
      (o = none → ∀ H3, Same H' H3 → Kf H3) → (∀ d, o = some d → ∀ y H4, Same H' H4 → DT (hide D H4) y d → Kt y H4) →
      g x (wipe σ vs) H'' fun σ2 H2 => wipe σ2 vs = wipe σ vs ∧ tt σ2 H2 fun b H3 => if b = true then te σ2 H3 Kt else Kf H3)
    (done : ∀ (ys : List V) (H' : Hp), Same H1 (hide D H') → H' D = some (.lst ys) → DTs (hide D H') ys (os.filterMap id) → Qd H') :
    ∃ W : Nat → Nat → Hp → Prop, (∃ m, W 0 m (upd H1 D (.lst []))) ∧ ∀ i m H, W i m H →
      (J.stop i H ∧ Qd H) ∨ (J.go i H ∧ ∃ Nx : Hp → Prop, (∀ H', Nx H' → ∃ m', m' < m ∧ W (i + 1) m' H') ∧ ∀ x H', J.yld i H x H' → g x (wipe σ vs) H' fun σ2 H2 => wipe σ2 vs = wipe σ vs ∧ tt σ2 H2 fun b H3 =>
        if b = true then te σ2 H3 fun y H4 => ∃ acc, H4 D = some (.lst acc) ∧ acc.length < sizeLine ∧ Nx (upd H4 D (.lst (acc ++ [y]))) else Nx H3) := by
  refine ⟨fun i m H => i + m = os.length ∧ Same H1 (hide D H) ∧ ∃ ys, H D = some (.lst ys) ∧ DTs (hide D H) ys ((os.take i).filterMap id), ⟨os.length, Nat.zero_add _, ?_, [], upd_same, .nil⟩, fun i m H hW => ?_⟩
  · rw [hide_upd, hide_none hD]
    exact Same.refl _
  · obtain ⟨em, sm, ys, hY, hT⟩ := hW
    by_cases hi : i < os.length
    · refine .inr ⟨go i H hi sm, fun H' => Same H1 (hide D H') ∧ ∃ ys, H' D = some (.lst ys) ∧ DTs (hide D H') ys ((os.take (i + 1)).filterMap id), fun H' ⟨a, b⟩ => ⟨m - 1, by omega, by omega, a, b⟩, fun x H' hy => ?_⟩
      have ho : os[i]? = some os[i] := List.getElem?_eq_getElem hi
      refine step i os[i] H x H' _ _ ho sm (by rw [hY]; exact fun z => nomatch z) hy (fun e H3 s3 => ?_) (fun d e y H4 s4 hd => ?_)
      · refine ⟨sm.trans (hide_mono s3), ys, s3 _ _ hY, ?_⟩
        rw [List.take_add_one, ho, e, List.filterMap_append]
        simp only [Option.toList_some, List.filterMap_cons, id, List.filterMap_nil, List.append_nil]
        exact hT.same (hide_mono s3)
      · refine ⟨ys, s4 _ _ hY, ?_, ?_, ys ++ [y], upd_same, ?_⟩
        · have h1 := hT.length
          have h2 := List.length_filterMap_le id (os.take i)
          have h3 := List.length_take_le i os
          omega
        · rw [hide_upd]
          exact sm.trans (hide_mono s4)
        · rw [hide_upd, List.take_add_one, ho, e, List.filterMap_append]
          simp only [Option.toList_some, List.filterMap_cons, id, List.filterMap_nil]
          exact (hT.same (hide_mono s4)).append (.cons hd .nil)
    · have e : i = os.length := by omega
      subst e
      refine .inl ⟨stop H sm, done ys H sm hY ?_⟩
      rw [List.take_of_length_le (Nat.le_refl _)] at hT
      exact hT
end
end Cv
namespace Cv
open PySem PySem.Spec PyProof.Rows L2
section
variable {σ : L2.St} {H1 : Hp} {vs : List Nat} {g : TG} {tt : TT} {te : TE}
theorem lcD_list {K : PySem.W.Frag} {a D : Addr} {xs : List V} {Qd : Hp → Prop} (hA : H1 a = some (.lst xs)) (os : List (Option PyData)) (hl : os.length = xs.length) (hz : os.length < sizeLine) (hD : H1 D = none)
    (step : ∀ (i : Nat) (o : Option PyData) (x : V) (H' : Hp) (Kt : V → Hp → Prop) (Kf : Hp → Prop), os[i]? = some o → xs[i]? = some x → Same H1 (hide D H') → Same H1 H' → H' D ≠ none →
      (o = none → ∀ H3, Same H' H3 → Kf H3) → (∀ d, o = some d → ∀ y H4, Same H' H4 → DT (hide D H4) y d → Kt y H4) →
      g x (wipe σ vs) H' fun σ2 H2 => wipe σ2 vs = wipe σ vs ∧ tt σ2 H2 fun b H3 => if b = true then te σ2 H3 Kt else Kf H3)
    (done : ∀ (ys : List V) (H' : Hp), Same H1 H' → H' D = some (.lst ys) → DTs (hide D H') ys (os.filterMap id) → Qd H') :
    ∃ W : Nat → Nat → Hp → Prop, (∃ m, W 0 m (upd H1 D (.lst []))) ∧ ∀ i m H, W i m H →
      ((Itl K a).stop i H ∧ Qd H) ∨ ((Itl K a).go i H ∧ ∃ Nx : Hp → Prop, (∀ H', Nx H' → ∃ m', m' < m ∧ W (i + 1) m' H') ∧ ∀ x H', (Itl K a).yld i H x H' → g x (wipe σ vs) H' fun σ2 H2 => wipe σ2 vs = wipe σ vs ∧ tt σ2 H2 fun b H3 =>
        if b = true then te σ2 H3 fun y H4 => ∃ acc, H4 D = some (.lst acc) ∧ acc.length < sizeLine ∧ Nx (upd H4 D (.lst (acc ++ [y]))) else Nx H3) := by
  refine lcD os hz hD (fun H' sm => ⟨xs, SqL.of (hide_same _ _ (sm _ _ hA)), by omega⟩) (fun i H' hi sm => ⟨xs, xs[i]'(by omega), SqL.of (hide_same _ _ (sm _ _ hA)), List.getElem?_eq_getElem _⟩) (fun i o H' x H'' Kt Kf ho sm nD hy hn hs => ?_) fun ys H' sm h1 h2 => done ys H' (sm.trans hide_same) h1 h2
  obtain ⟨rfl, hx⟩ := hy
  exact step i o x H'' Kt Kf ho (hx xs (SqL.of (hide_same _ _ (sm _ _ hA)))) sm (sm.trans hide_same) nD hn hs
theorem lcD_tup {K : PySem.W.Frag} {a D : Addr} {xs : List V} {Qd : Hp → Prop} (hA : H1 a = some (.tup xs)) (os : List (Option PyData)) (hl : os.length = xs.length) (hz : os.length < sizeLine) (hD : H1 D = none)
    (step : ∀ (i : Nat) (o : Option PyData) (x : V) (H' : Hp) (Kt : V → Hp → Prop) (Kf : Hp → Prop), os[i]? = some o → xs[i]? = some x → Same H1 (hide D H') → Same H1 H' → H' D ≠ none →
      (o = none → ∀ H3, Same H' H3 → Kf H3) → (∀ d, o = some d → ∀ y H4, Same H' H4 → DT (hide D H4) y d → Kt y H4) →
      g x (wipe σ vs) H' fun σ2 H2 => wipe σ2 vs = wipe σ vs ∧ tt σ2 H2 fun b H3 => if b = true then te σ2 H3 Kt else Kf H3)
    (done : ∀ (ys : List V) (H' : Hp), Same H1 H' → H' D = some (.lst ys) → DTs (hide D H') ys (os.filterMap id) → Qd H') :
    ∃ W : Nat → Nat → Hp → Prop, (∃ m, W 0 m (upd H1 D (.lst []))) ∧ ∀ i m H, W i m H →
      ((Itt K a).stop i H ∧ Qd H) ∨ ((Itt K a).go i H ∧ ∃ Nx : Hp → Prop, (∀ H', Nx H' → ∃ m', m' < m ∧ W (i + 1) m' H') ∧ ∀ x H', (Itt K a).yld i H x H' → g x (wipe σ vs) H' fun σ2 H2 => wipe σ2 vs = wipe σ vs ∧ tt σ2 H2 fun b H3 =>
        if b = true then te σ2 H3 fun y H4 => ∃ acc, H4 D = some (.lst acc) ∧ acc.length < sizeLine ∧ Nx (upd H4 D (.lst (acc ++ [y]))) else Nx H3) := by
  refine lcD os hz hD (fun H' sm => ⟨xs, SqT.of (hide_same _ _ (sm _ _ hA)), by omega⟩) (fun i H' hi sm => ⟨xs, xs[i]'(by omega), SqT.of (hide_same _ _ (sm _ _ hA)), List.getElem?_eq_getElem _⟩) (fun i o H' x H'' Kt Kf ho sm nD hy hn hs => ?_) fun ys H' sm h1 h2 => done ys H' (sm.trans hide_same) h1 h2
  obtain ⟨rfl, hx⟩ := hy
  exact step i o x H'' Kt Kf ho (hx xs (SqT.of (hide_same _ _ (sm _ _ hA)))) sm (sm.trans hide_same) nD hn hs
theorem lcD_range {D : Addr} {n : Nat} {Qd : Hp → Prop} (os : List (Option PyData)) (hl : os.length = n) (hz : os.length < sizeLine) (hD : H1 D = none)
    (step : ∀ (i : Nat) (o : Option PyData) (H' : Hp) (Kt : V → Hp → Prop) (Kf : Hp → Prop), os[i]? = some o → i < n → Same H1 (hide D H') → Same H1 H' → H' D ≠ none →
      (o = none → ∀ H3, Same H' H3 → Kf H3) → (∀ d, o = some d → ∀ y H4, Same H' H4 → DT (hide D H4) y d → Kt y H4) →
      g (.int (i : Nat)) (wipe σ vs) H' fun σ2 H2 => wipe σ2 vs = wipe σ vs ∧ tt σ2 H2 fun b H3 => if b = true then te σ2 H3 Kt else Kf H3)
    (done : ∀ (ys : List V) (H' : Hp), Same H1 H' → H' D = some (.lst ys) → DTs (hide D H') ys (os.filterMap id) → Qd H') :
    ∃ W : Nat → Nat → Hp → Prop, (∃ m, W 0 m (upd H1 D (.lst []))) ∧ ∀ i m H, W i m H →
      ((Itr 0 n).stop i H ∧ Qd H) ∨ ((Itr 0 n).go i H ∧ ∃ Nx : Hp → Prop, (∀ H', Nx H' → ∃ m', m' < m ∧ W (i + 1) m' H') ∧ ∀ x H', (Itr 0 n).yld i H x H' → g x (wipe σ vs) H' fun σ2 H2 => wipe σ2 vs = wipe σ vs ∧ tt σ2 H2 fun b H3 =>
        if b = true then te σ2 H3 fun y H4 => ∃ acc, H4 D = some (.lst acc) ∧ acc.length < sizeLine ∧ Nx (upd H4 D (.lst (acc ++ [y]))) else Nx H3) := by
  refine lcD os hz hD (fun H' sm => by rw [hl]; exact Nat.le_refl _) (fun i H' hi sm => by rw [hl] at hi; exact hi) (fun i o H' x H'' Kt Kf ho sm nD hy hn hs => ?_) fun ys H' sm h1 h2 => done ys H' (sm.trans hide_same) h1 h2
  obtain ⟨rfl, rfl⟩ := hy
  rw [Int.zero_add]
  have hi : i < n := by
    rw [← hl]
    exact (List.getElem?_eq_some_iff.mp ho).1
  exact step i o H'' Kt Kf ho hi sm (sm.trans hide_same) nD hn hs
end
theorem filterMap_some {α : Type} (l : List α) : (l.map some).filterMap id = l := by
  induction l with
  | nil => rfl
  | cons a l ih =>
    rw [List.map_cons, List.filterMap_cons]
    simp only [id]
    rw [ih]
/-- all kept -/
theorem os_map {α : Type} {f : α → PyData} {l : List α} {i : Nat} {o : Option PyData} (h : ((l.map f).map some)[i]? = some o) : ∃ x, l[i]? = some x ∧ o = some (f x) := by
  rw [List.getElem?_map, List.getElem?_map] at h
  cases e : l[i]? with
  | none =>
    rw [e] at h
    cases h
  | some x =>
    rw [e] at h
    exact ⟨x, rfl, (Option.some.inj h).symm⟩
end Cv

/-! Countveil, rules 1: a list's item by value, sorted data, repr of data, a set's length, a great power. -/
namespace Cv
open PySem PySem.Spec PyProof.Rows L2
section
variable {X : Cx}
/-- xs[i] read for xs[i] += e -/
theorem get_list : PGet X (rIxL X.K) := by
  intro pins s σ H o i ov iv Q I ro ri h
  obtain ⟨p, xs, k, v, rfl, rfl, hS, hk, q⟩ := h
  cases ro
  obtain ⟨t, rfl⟩ := ri
  obtain ⟨its, rv, pl, hz⟩ := I.list hS
  obtain ⟨j, e1, e2, e3, e4, e5⟩ := atI_get hk
  obtain ⟨w, ew, rw'⟩ := rv.get e2
  have hl := rv.length
  have hn := line63
  by_cases h0 : 0 ≤ k
  · have hj : k.toNat = j := by
      rw [seqIndex_of h0 e5] at e1
      exact Option.some.inj e1
    exact wpAny_getItem_list pl.isList h0 (by omega) (by rw [hj]; simpa using ew) ⟨v, H, I, rw', q⟩
  · have hj : (k + (its.toArray.size : Int)).toNat = j := by
      rw [seqIndex_neg (by omega) e4] at e1
      rw [List.size_toArray, ← hl]
      exact Option.some.inj e1
    exact wpAny_getItem_list_neg pl.isList (by omega) (by rw [List.size_toArray] <;> omega) (by omega) (by rw [hj]; simpa using ew) ⟨v, H, I, rw', q⟩
theorem dt_each {β : Type} {H : Hp} (enc : β → PyData) : ∀ {xs : List V} {us : List Value} {bs : List β}, Vals xs us → DTs H xs (bs.map enc) → PySem.W.EachIs (fun (u : Value) b => ∃ x, RelV x u ∧ DT H x (enc b)) us bs
  | _, _, [], .nil, .nil => .nil
  | _, _, b :: bs, .cons r t, .cons d e => .cons ⟨_, r, d⟩ (dt_each enc t e)
theorem each_dt {β : Type} {H : Hp} (enc : β → PyData) : ∀ {us : List Value} {bs : List β}, PySem.W.EachIs (fun (u : Value) b => ∃ x, RelV x u ∧ DT H x (enc b)) us bs → ∃ xs, Vals xs us ∧ DTs H xs (bs.map enc)
  | _, _, .nil => ⟨[], .nil, .nil⟩
  | _, _, .cons ⟨x, r, d⟩ t => by
    obtain ⟨xs, r2, d2⟩ := each_dt enc t
    exact ⟨x :: xs, .cons r r2, .cons d d2⟩
/-- sorted(xs), xs data -/
def rSortedE {β : Type} (enc : β → PyData) : List V → Hp → VK → Prop := fun vs H Q => ∃ (a : Addr) (xs : List V) (bs : List β), vs = [.ref a] ∧ H a = some (.lst xs) ∧ DTs H xs (bs.map enc) ∧ PySem.W.AllAlike (bs.map enc) ∧ PySem.W.Sortable (bs.map enc) ∧
  (∀ b, b ∈ bs → (enc b).depth ≤ 8) ∧ ∀ p ys, H p = none → DTs H ys ((bs.mergeSort (PySem.W.dataLe false enc)).map enc) → Q (.ref p) (upd H p (.lst ys))
theorem cr_sortedE {β : Type} {enc : β → PyData} (hu : X.A.units + 64 < cLine) : CallR X (.builtin "sorted") (rSortedE enc) := by
  intro pins s σ H vs us Q I r h
  obtain ⟨a, xs, bs, rfl, ha, hd, hal, hsk, hdep, q⟩ := h
  obtain ⟨u, rfl, ru⟩ := vals1 r
  cases ru
  obtain ⟨its, rv, pl, hz⟩ := I.list (SqL.of ha)
  have e := dt_each enc rv hd
  have hlen : bs.length ≤ sizeLine := by
    have h1 := e.length
    have h2 := rv.length
    omega
  refine PySem.W.sorted_data (enc := enc) (bs := bs) pl.isList e (e.mono fun v b ⟨x, r1, d1⟩ => Dp.reads I _ _ _ (d1.dp (K := X.K)) r1) hal hsk hlen (fun b hb => ?_) fun out ho eo => ?_
  · have := hdep b hb
    omega
  · obtain ⟨ys, r2, d2⟩ := each_dt enc eo
    obtain ⟨ep, he⟩ := sortedAll_at s.heap its out.toArray
    have hn := I.hok.fresh (a := s.heap.objs.size + 1) (Nat.le_succ _)
    have hyl : ys.length ≤ sizeLine := by
      have h1 := r2.length
      omega
    exact ⟨.ref _, upd H (s.heap.objs.size + 1) (.lst ys), I.laid (t' := s.toks) (fun _ _ => sortedAll_old) (Nat.le_succ _) ⟨hyl, out, ep, r2, he⟩, rfl, q _ ys hn d2⟩
/-- repr(xs), xs data: where no repr runs around -/
def rReprD : List V → Hp → VK → Prop := fun vs H Q => ∃ a ds, vs = [.ref a] ∧ DT H (.ref a) (.list ds) ∧ (PyData.list ds).showable = true ∧ (PyData.list ds).hasDict = false ∧ (PyData.list ds).depth ≤ 8 ∧ (PyData.list ds).shown.length ≤ sizeLine ∧ Q (.str (PyData.list ds).shown) H
theorem cr_reprD (hg : X.A.guards = some []) (hu : X.A.units + 64 < cLine) : CallR X (.builtin "repr") rReprD := by
  intro pins s σ H vs us Q I r h
  obtain ⟨a, ds, rfl, hd, hs, hnd, hdep, hz, q⟩ := h
  obtain ⟨u, rfl, ru⟩ := vals1 r
  cases ru
  obtain ⟨as, rd⟩ := Dp.reads I _ _ _ (hd.dp (K := X.K)) (show RelV (.ref a) (.ref a) from rfl)
  exact repr_of_reads' rd hs (fun z => by rw [hnd] at z; cases z) hg (by omega) (fun _ _ e => e) (fun h' u tk hk => ⟨.str _, H, I.kept hk, ⟨_, rfl⟩, q⟩) hz
/-- len of a set of ints -/
def rLenO (w : World) : List V → Hp → VK → Prop := fun vs H Q => ∃ a S n, vs = [.ref a] ∧ H a = some (SetO w a S n) ∧ Q (.int (n : Nat)) H
theorem cr_lenO : CallR X (.builtin "len") (rLenO X.w) := by
  intro pins s σ H vs us Q I r h
  obtain ⟨a, S, n, rfl, ha, q⟩ := h
  obtain ⟨u, rfl, ru⟩ := vals1 r
  cases ru
  obtain ⟨o, es, ep, t, ho, hx, hd, _, _, hb, hf, hn⟩ := (setO_get I ha).setOf (P := X.prog)
  have hb63 : (es.size : Int) < 2 ^ 63 := by
    unfold scanBound at hb
    omega
  refine call_len_set ho hx hd hf hb63 ?_
  exact ⟨.int (n : Nat), H, I.tok _, ⟨_, by rw [← hn]⟩, q⟩
end
end Cv

/-! Countveil, rules 2: a set comprehension whose elements are ints. -/
namespace Cv
open PySem PySem.Spec PyProof.Rows L2
/-- {elt for target in iter}, elt an int; D: the new set, W: what holds ahead of each turn -/
def tSci (w : World) (wi : TI) (g : TG) (te : TE) (vs : List Nat) : TE := fun σ H Q => wi σ H fun J Ha => ∀ D, Ha D = none → ∃ W : Nat → Nat → Hp → Prop, (∃ m, W 0 m (upd Ha D (SetO w D (fun _ => false) 0))) ∧ ∀ i m Hb, W i m Hb →
  (J.stop i Hb ∧ Q (.ref D) Hb) ∨ (J.go i Hb ∧ ∃ Nx : Hp → Prop, (∀ Hc, Nx Hc → ∃ m', m' < m ∧ W (i + 1) m' Hc) ∧ ∀ x Hc, J.yld i Hb x Hc → g x (wipe σ vs) Hc fun τ Hd => wipe τ vs = wipe σ vs ∧
    te τ Hd fun y He => ∃ (z : Int) (S : Int → Bool) (n : Nat), y = .int z ∧ He D = some (SetO w D S n) ∧ n + 1 < scanBound ∧ Nx (upd He D (SetO w D (fun j => S j || decide (j = z)) (if S z = true then n else n + 1))))
abbrev freshSet (w : World) : Obj := { cls := .type "set", dict := none, data := .set #[] 0 (.fresh 0 0 (!w.params.followText "set-order")) }
section
variable {X : Cx}
theorem sci_add {pins : List (Addr × Obj)} {τ : L2.St} {He : Hp} {s : Shared} {D : Addr} {z : Int} {t : Tok} {S : Int → Bool} {n : Nat} {Q : Value → Shared → Prop} {E : Value → Shared → Prop} (I : Inv X pins τ He s) (hD : He D = some (SetO X.w D S n)) (hn : n + 1 < scanBound)
    (k : ∀ s', Inv X pins τ (upd He D (SetO X.w D (fun j => S j || decide (j = z)) (if S z = true then n else n + 1))) s' → Q .none s') : wpAny (model X.prog X.w) X.A (call (.builtin "set.add") [.ref D, .int z t]) Q E s := by
  refine setR_add (setO_get I hD) hn fun h' sb new => k _ ?_
  obtain ⟨o, q⟩ : ∃ u, h'.get? D = some u := let ⟨o, _, _, _, e, _⟩ := new; ⟨o, e⟩
  exact I.write (e := D) (t' := s.toks + 1) (by rw [hD]; trivial) (.inl rfl) (fun b u hb hu => (sb.2 b hb).trans hu) ⟨o, q⟩ (setO_new new)
theorem pe_sci {elt tg iter : Expr} {scope : Scope} {own : List (Str × Nat)} {pos : Pos} {wi : TI} {g : TG} {te : TE} (cal : X.calm = true) (nd : X.N.Nodup) (hi : PI X tg iter wi) (ok : BlkOk X.N X.env.scope scope own)
    (hg : ∀ (s : Shared) (H : Hp) (C : Addr) (cl : List (Str × Addr)) (fp : List Addr), PG (X.blk s H scope (compEnvC scope cl C X.env) fp) tg g)
    (he : ∀ (s : Shared) (H : Hp) (C : Addr) (cl : List (Str × Addr)) (fp : List Addr), PE (X.blk s H scope (compEnvC scope cl C X.env) fp) elt te) (hfs : ∀ x, foldedSetIterable iter X.env x = pure x := by intro _; rfl) :
    PE X (.SetComp elt [⟨tg, iter, [], 0⟩] scope pos) (tSci X.w wi g te (own.map (·.2))) := by
  refine ⟨fun pins s σ H Q I want => ?_⟩
  have caught : ∀ y ∈ scope.names, y.2 = .free → ∃ c, X.env.cells.lookup y.1 = some c := fun y my ey => (ok.free y my ey).elim (fun k => I.ok.has _ (.inl k)) fun k => I.ok.has _ (.inr k)
  rw [PpSet.eval_SetComp]
  refine wpAny_comprehension_free (use := none) rfl hfs (closure_ok caught) ok.kind (fun y my ey => by rw [ok.uniq y my, ey]) (thn (hi.run pins s σ H _ I want) fun _ sa ha => thn ha fun _ sb hb => ?_)
  obtain ⟨it, fp, tn, J, Ha, rfl, Ia, T, st, fpo, q⟩ := hb
  refine PpSet.newSet_ok (newEnv_comp ?_)
  obtain ⟨D, eD⟩ : ∃ D, D = sb.heap.objs.size := ⟨_, rfl⟩
  rw [← eD]
  have nD : Ha D = none := Ia.hok.fresh (by rw [eD]; exact Nat.le_refl _)
  obtain ⟨W, ⟨m0, w0⟩, turn⟩ := q D nD
  obtain ⟨sc, esc⟩ : ∃ sc : Shared, sc = { sb with heap := sb.heap.push (freshSet X.w) } := ⟨_, rfl⟩
  have ehp : sc.heap = sb.heap.push (freshSet X.w) := by rw [esc]
  have Ib : Inv X pins σ (upd Ha D (SetO X.w D (fun _ => false) 0)) sc := by
    rw [esc]
    refine Ia.laid (t' := sb.toks) (fun b o e => Heap.get?_push_of_some _ e) (by rw [eD]; exact Nat.le_refl _) ?_
    rw [eD]
    exact setO_new (setR_fresh X.w)
  have old : ∀ b ∈ fp, b < sb.heap.objs.size := fun b mb => let ⟨_, e, _⟩ := T.obj _ _ st b mb; Heap.lt_size e
  have fpb : ∀ b ∈ fp, FpOk X pins (upd Ha D (SetO X.w D (fun _ => false) 0)) b ∧ b < sc.heap.objs.size := fun b mb => by
    have lt := old b mb
    have ne : b ≠ D := by rw [eD]; exact Nat.ne_of_lt lt
    exact ⟨⟨(upd_ne ne).trans (fpo b mb).1, (fpo b mb).2⟩, by rw [ehp, Heap.size_push]; exact Nat.lt_succ_of_lt lt⟩
  have stb : tn 0 sc.heap := T.keep _ _ _ st fun b _ o e => by rw [ehp]; exact Heap.get?_push_of_some _ e
  obtain ⟨Hz, eHz⟩ : ∃ Hz, Hz = upd Ha D (SetO X.w D (fun _ => false) 0) := ⟨_, rfl⟩
  rw [← eHz] at Ib fpb w0
  have Ic := block_start Ib ok nd fpb
  obtain ⟨ce, ece⟩ : ∃ ce, ce = compEnvC scope (cellsFrom (sc.heap.objs.size + 1) scope.names (cloFrom X.env.cells scope.names [])) sc.heap.objs.size X.env := ⟨_, rfl⟩
  have pgB := hg sc Hz sc.heap.objs.size (cellsFrom (sc.heap.objs.size + 1) scope.names (cloFrom X.env.cells scope.names [])) fp
  have peB := he sc Hz sc.heap.objs.size (cellsFrom (sc.heap.objs.size + 1) scope.names (cloFrom X.env.cells scope.names [])) fp
  have locs : ce.locals = sc.heap.objs.size := by rw [ece]; rfl
  obtain ⟨sd, esd⟩ : ∃ sd : Shared, sd = { sc with heap := pushCells (sc.heap.push { cls := .type "dict", data := .dict #[] }) scope.names } := ⟨_, rfl⟩
  rw [← ece] at Ic pgB peB
  rw [← esd] at Ic
  show codeAny (model X.prog X.w) X.A (.compStart (.SetComp elt [⟨tg, iter, [], 0⟩] scope pos) 0 (.ref it) (.ref D) _) _ _
  have shape : codeAny (model X.prog X.w) X.A (.compStart (.SetComp elt [⟨tg, iter, [], 0⟩] scope pos) 0 (.ref it) (.ref D) ce) (compPost (model X.prog X.w) X.A X.xe none (EP X pins σ Q) (.ref D) sc.heap.objs.size) sd := ?goal
  · rw [ece, esd, esc] at shape
    exact shape
  have std : tn 0 sd.heap := T.keep _ _ _ stb fun b _ o e => by rw [esd]; exact pushCells_keeps _ _ _ _ (Heap.get?_push_of_some _ e)
  have mine : ∀ {τ : L2.St} {Hx : Hp} {sx : Shared}, Inv (X.blk sc Hz scope ce fp) [] τ Hx sx → (∀ b ∈ fp, Hx b = none) → ∀ b ∈ fp, FpOk (X.blk sc Hz scope ce fp) [] Hx b := fun Ix nx b mb =>
    ⟨nx b mb, (Ix.ok.exf b mb).1, Ix.ok.exfs b mb, .inl mb, fun x c e => (Ix.ok.exf b mb).2 x c e, fun p mp => by
      have mp' : p ∈ ([] : List (Addr × Obj)) := mp
      cases mp'⟩
  have loop : codeAny (model X.prog X.w) X.A (.compLoop (.SetComp elt [⟨tg, iter, [], 0⟩] scope pos) 0 (.ref it) (.ref D) ce) (compPost (model X.prog X.w) X.A X.xe none (EP X pins σ Q) (.ref D) sc.heap.objs.size) sd := by
    refine PpSet.compLoopS_any (fun m sx => ∃ i Hx, Inv (X.blk sc Hz scope ce fp) [] (wipe σ (own.map (·.2))) Hx sx ∧ tn i sx.heap ∧ (∀ b ∈ fp, Hx b = none) ∧ W i m Hx) ?_ m0 ⟨0, Hz, Ic, std, fun b mb => (fpb b mb).1.1, w0⟩
    rintro m sx ⟨i, Hx, Ix, stx, nx, wx⟩
    rcases turn i m Hx wx with ⟨fin, qq⟩ | ⟨more, Nx, back, step⟩
    · refine thnF (T.done (X.blk sc Hz scope ce fp) rfl rfl rfl cal i [] sx _ Hx (fun _ _ => False) Ix (mine Ix nx) stx fin) fun r sy ⟨er, Iy⟩ => ?_
      subst er
      have home : Inv X pins σ Hx sy := Ib.call' (ch := fp) Iy.os Iy.base Iy.hok Iy.bare fun b mb => let ⟨_, a1, _, a3, a4, a5⟩ := (fpb b mb).1; ⟨a3, a1, a4, a5⟩
      have nC : Hx sc.heap.objs.size = none := by
        have z : Hx ce.locals = none := Iy.free
        rwa [locs] at z
      obtain ⟨mm, hns, _⟩ := Iy.loc
      have hns : sy.heap.Ns ce.locals mm := hns
      rw [locs] at hns
      obtain ⟨f0, f1, f2, f3, f4, f5⟩ := Ib.fpOk (Nat.le_refl _) nC
      exact ⟨mm, hns, fun h'' sb => ⟨.ref D, Hx, home.turned (t' := sy.toks) (fun b o hb e => (sb.2 b hb).trans e) f0 f1 f3 f4 f5, rfl, qq⟩⟩
    · refine thnF (T.item (X.blk sc Hz scope ce fp) rfl rfl rfl cal i [] sx _ Hx (fun _ _ => False) Ix (mine Ix nx) stx more) fun r sy ⟨u, er, hy⟩ => ?_
      subst er
      refine thnF hy fun _ sz ⟨x, Hy, Iy, rx, yy, sty, ny⟩ => ?_
      have held := Iy.pinned (mine Iy ny) (T.obj _ _ sty)
      refine thnF (pgB.run _ sz _ Hy x u _ held rx (step x Hy yy)) fun _ se ⟨τ, Hd, Id, ew, qd⟩ => ?_
      refine wpAny_tests_nil ?_
      rw [if_pos rfl]
      refine thnF (peB.run _ se τ Hd _ Id qd) fun v sf ⟨y, He, Ie, ry, z, S, n, ey, hD, hn, nxt⟩ => ?_
      subst ey
      obtain ⟨t, rfl⟩ := ry
      refine sci_add (X := X.blk sc Hz scope ce fp) Ie hD hn fun sg Ig => ?_
      obtain ⟨m', lt, w'⟩ := back _ nxt
      have pinned : ∀ b ∈ fp, ∀ o, sz.heap.get? b = some o → sg.heap.get? b = some o ∧ upd He D (SetO X.w D (fun j => S j || decide (j = z)) (if S z = true then n else n + 1)) b = none := fun b mb o e =>
        let p := Ig.pin (b, o) (List.mem_append_right _ (List.mem_append_right _ (mem_pinsAt mb e)))
        ⟨p.1, p.2.1⟩
      refine ⟨m', lt, i + 1, _, (Ig.unpinned (pins := [])).weak (by rw [← ew, wipe_length]) (fun j v e => ?_), T.keep _ _ _ sty fun b mb o e => (pinned b mb o e).1, fun b mb => ?_, w'⟩
      · rw [← ew] at e
        exact (wipe_some e).1
      · obtain ⟨o, e, _⟩ := T.obj _ _ sty b mb
        exact (pinned b mb o e).2
  exact PpSet.codeAny_compStart_set loop (T.self X.A 0 _ _ _ std loop)
end
/-- over a list whose elements give one and the same int -/
theorem sci_one {w : World} {K : PySem.W.Frag} {a D : Addr} {xs : List V} {z : Int} {g : TG} {te : TE} {vs : List Nat} {σ : L2.St} {Ha : Hp} {Qd : Hp → Prop} (nD : Ha D = none) (hS : Ha a = some (.lst xs)) (hne : xs ≠ [])
    (step : ∀ (i : Nat) (x : V) (Hb : Hp) (P : V → Hp → Prop), xs[i]? = some x → Same Ha Hb → (∀ Hc, Same Hb Hc → P (.int z) Hc) → g x (wipe σ vs) Hb fun τ Hd => wipe τ vs = wipe σ vs ∧ te τ Hd P)
    (done : ∀ Hb, Same Ha Hb → Hb D = some (SetO w D (fun j => decide (j = z)) 1) → Qd Hb) :
    ∃ W : Nat → Nat → Hp → Prop, (∃ m, W 0 m (upd Ha D (SetO w D (fun _ => false) 0))) ∧ ∀ i m Hb, W i m Hb →
      ((Itl K a).stop i Hb ∧ Qd Hb) ∨ ((Itl K a).go i Hb ∧ ∃ Nx : Hp → Prop, (∀ Hc, Nx Hc → ∃ m', m' < m ∧ W (i + 1) m' Hc) ∧ ∀ x Hc, (Itl K a).yld i Hb x Hc → g x (wipe σ vs) Hc fun τ Hd => wipe τ vs = wipe σ vs ∧
        te τ Hd fun y He => ∃ (z : Int) (S : Int → Bool) (n : Nat), y = .int z ∧ He D = some (SetO w D S n) ∧ n + 1 < scanBound ∧ Nx (upd He D (SetO w D (fun j => S j || decide (j = z)) (if S z = true then n else n + 1)))) := by
  have same_D : ∀ {Hb : Hp} {o : HO}, Same Ha Hb → Same Ha (upd Hb D o) := fun s b o e => by
    rw [upd_ne (ne_of_none e nD)]
    exact s b o e
  refine ⟨fun i m Hb => i + m = xs.length ∧ Same Ha Hb ∧ Hb D = some (if i = 0 then SetO w D (fun _ => false) 0 else SetO w D (fun j => decide (j = z)) 1), ⟨xs.length, Nat.zero_add _, same_D (Same.refl _), upd_same⟩, fun i m Hb ⟨em, sm, hD⟩ => ?_⟩
  have hA : SqL K Hb a xs := .inl (.inl (sm _ _ hS))
  by_cases hi : i < xs.length
  · refine .inr ⟨⟨xs, xs[i], hA, List.getElem?_eq_getElem hi⟩, fun Hc => Same Ha Hc ∧ Hc D = some (SetO w D (fun j => decide (j = z)) 1), fun Hc ⟨p1, p2⟩ => ⟨m - 1, by omega, by omega, p1, by rw [if_neg (Nat.succ_ne_zero i)]; exact p2⟩, fun x Hc ⟨e, hx⟩ => ?_⟩
    subst e
    refine step i x Hc _ (hx xs hA) sm fun He se => ?_
    by_cases h0 : i = 0
    · subst h0
      rw [if_pos rfl] at hD
      refine ⟨z, _, _, rfl, se _ _ hD, by decide, same_D (sm.trans se), ?_⟩
      rw [upd_same]
      simp
    · rw [if_neg h0] at hD
      refine ⟨z, _, _, rfl, se _ _ hD, by decide, same_D (sm.trans se), ?_⟩
      rw [upd_same]
      simp
  · refine .inl ⟨⟨xs, hA, by omega⟩, done Hb sm ?_⟩
    have h0 : i ≠ 0 := fun z => hne (List.length_eq_zero_iff.mp (by omega))
    rw [if_neg h0] at hD
    exact hD
end Cv

/-! Countveil, rules 3: sorted(xs, key=f) where the keys hold lists that stood before. -/
namespace Cv
open PySem PySem.Spec PySem.Calls PySem.W PyProof.Rows
/-- the key k comes back, all that was there stays, and the lists that it holds lie below n -/
def KeyOld (n : Nat) (k : PyData) (s1 : Shared) (v : Value) (s2 : Shared) : Prop :=
  ∃ g tk, s2 = { s1 with heap := g, toks := tk } ∧ (∀ b o, s1.heap.get? b = some o → g.get? b = some o) ∧ ∃ as, Reads g v k as ∧ ∀ x ∈ as, x < n
def ReadsOld (n : Nat) (g : Heap) (v : Value) (k : PyData) : Prop := (∃ as, Reads g v k as ∧ ∀ x ∈ as, x < n) ∧ alike k k = true
theorem ReadsOld.keep {n : Nat} {g g' : Heap} {v : Value} {k : PyData} (r : ReadsOld n g v k) (h : ∀ b o, g.get? b = some o → g'.get? b = some o) : ReadsOld n g' v k :=
  let ⟨⟨as, r1, r2⟩, r3⟩ := r
  ⟨⟨as, PyProof.Rows.Reads.keeps h r1, r2⟩, r3⟩
section
variable {prog : Program} {w : World} {A : Around} {E : Value → Shared → Prop} {s : Shared} {a kS : Addr} {vs : List Value} {e1 n : Nat} {P : PySem.Fin → Shared → Prop} {kz : List PyData} {f : Value}
theorem key_old_rest {h1 : Heap} (kp : KeepsBut a h1 s.heap) (fresh : h1.get? kS = none) (atK : s.heap.get? kS = some (seqObj "list" #[] 0)) (atA : s.heap.get? a = some (seqObj "list" #[] e1)) (ne : kS ≠ a) (nK : n ≤ kS)
    (len : kz.length = vs.length) (line : vs.length ≤ sizeLine) (al : AllAlike kz) (so : Sortable kz) (room : ∀ d, d ∈ kz → A.units + d.depth < cLine)
    (turn : ∀ (i : Nat) (v : Value) (k : PyData), vs[i]? = some v → kz[i]? = some k → ∀ (g : Heap) (tk : Nat), KeepsBut a h1 g → wpAny (model prog w) A (call f [v]) (KeyOld n k { s with heap := g, toks := tk }) (fun _ _ => False) { s with heap := g, toks := tk })
    (done : ∀ g tk out c, KeepsBut a h1 g → g.get? a = some (seqObj "list" (List.toArray out) c) → KeyedOut false kz vs out → P (.done (.ret .none)) { s with heap := g, toks := tk }) :
    wpAny (model prog w) A (ksk_rest a f false vs.toArray e1 (.ref kS)) P E s := by
  unfold ksk_rest
  refine wpAny_bind (wpAny_rule ?_)
  rw [List.forIn_toArray]
  refine wpAny_bind (ksk_fold (fun i t => ∃ g tk ks c, t = { s with heap := g, toks := tk } ∧ KeepsBut a h1 g ∧ g.get? kS = some (seqObj "list" ks c) ∧ g.get? a = some (seqObj "list" #[] e1) ∧ EachIs (fun v k => ReadsOld n g v k) ks.toList (kz.take i)) vs 0 s ⟨_, _, #[], 0, rfl, kp, atK, atA, .nil⟩ ?one ?all)
  case one =>
    rintro j x t hx ⟨g, tk, ks, c, rfl, kpg, gK, gA, each⟩
    rw [Nat.zero_add] at each ⊢
    have lt : j < vs.length := (List.getElem?_eq_some_iff.mp hx).1
    have hk : kz[j]? = some kz[j] := List.getElem?_eq_getElem (by omega)
    have mem := List.mem_of_getElem? hk
    have few : ks.size ≤ vs.length := by
      have q := each.length
      rw [Array.length_toList, List.length_take] at q
      omega
    refine wpAny_bind (wpAny_attempt (wpAny_mono (turn j x _ hx hk g tk kpg) (fun v t2 hv => ?_) fun _ _ z => z.elim))
    obtain ⟨g2, tk2, rfl, keep2, as, rd, old⟩ := hv
    dsimp only
    have gK2 := keep2 _ _ gK
    have gA2 := keep2 _ _ gA
    have sb := Heap.SameBut.update g2 kS (Obj.mapSeq (·.push v))
    have put : ∃ c2, (g2.update kS (Obj.mapSeq (·.push v))).get? kS = some (seqObj "list" (ks.push v) c2) := ⟨_, get?_update_seq gK2 (·.push v)⟩
    obtain ⟨c2, gK3⟩ := put
    refine wpAny_bind (listUpdate_at gK2 rfl ?_ (Nat.le_trans few line) (by rw [Array.size_push]; exact Nat.succ_le_succ (Nat.le_trans few line)))
    have carry : ∀ (u : Value) (d : PyData), ReadsOld n g2 u d → ReadsOld n (g2.update kS (Obj.mapSeq (·.push v))) u d := fun u d ⟨⟨bs, r1, r2⟩, r3⟩ =>
      ⟨⟨bs, Reads.keepBut (a := kS) (fun b o hb e => (sb.2 b hb).trans e) (fun o e => by rw [gK2] at e; rw [← Option.some.inj e]) d u bs r3 r1 fun m => Nat.lt_irrefl _ (Nat.lt_of_lt_of_le (r2 kS m) nK), r2⟩, r3⟩
    refine wpAny_pure ⟨rfl, _, _, ks.push v, c2, rfl, (kpg.trans_all keep2).same sb (.inr fresh), gK3, (sb.2 a ne.symm).trans gA2, ?_⟩
    rw [List.take_add_one, hk, Array.toList_push]
    exact each_snoc (carry v _ ⟨⟨as, rd, old⟩, al _ mem _ mem⟩) (each.mono fun u d q => carry u d (q.keep keep2))
  case all =>
    rintro t ⟨g, tk, ks, c, rfl, kpg, gK, gA, each⟩
    rw [Nat.zero_add, List.take_of_length_le (by omega)] at each
    have each' : EachIs (fun v k => ∃ as, Reads g v k as) ks.toList kz := each.mono fun v k ⟨⟨as, r, _⟩, _⟩ => ⟨as, r⟩
    have size : ks.size = vs.length := by
      have q := each'.length
      rw [Array.length_toList] at q
      omega
    refine wpAny_bind (listItems_at gK rfl ?_)
    refine keyH_end (κ := dataKind g kz) (b := false) kpg fresh gK gA ne (SortsAt.data (s := { s with heap := g, toks := tk }) each' al so room) size line fun g3 tk3 c3 k3 q3 => ?_
    exact done g3 tk3 _ c3 k3 q3 ⟨g, ks.toList, al, rfl, each'⟩
theorem key_old_tree {m : Nat} (at_ : s.heap.get? a = some (seqObj "list" vs.toArray m)) (nA : n ≤ a) (len : kz.length = vs.length) (line : vs.length ≤ sizeLine) (al : AllAlike kz) (so : Sortable kz) (room : ∀ d, d ∈ kz → A.units + d.depth < cLine)
    (turn : ∀ (i : Nat) (v : Value) (k : PyData), vs[i]? = some v → kz[i]? = some k → ∀ (g : Heap) (tk : Nat), KeepsBut a s.heap g → wpAny (model prog w) A (call f [v]) (KeyOld n k { s with heap := g, toks := tk }) (fun _ _ => False) { s with heap := g, toks := tk })
    (done : ∀ g tk out c, KeepsBut a s.heap g → g.get? a = some (seqObj "list" (List.toArray out) c) → KeyedOut false kz vs out → P (.done (.ret .none)) { s with heap := g, toks := tk }) :
    wpAny (model prog w) A (ksk_tree a f false) P E s := by
  have lt := Heap.lt_size at_
  have emp : ∃ e1, (s.heap.update a (Obj.mapSeq fun _ => (#[] : Array Value))).get? a = some (seqObj "list" #[] e1) := ⟨_, get?_update_seq at_ fun _ => #[]⟩
  obtain ⟨e1, emp⟩ := emp
  have sz : ((s.heap.update a (Obj.mapSeq fun _ => (#[] : Array Value))).push (seqObj "tuple" vs.toArray 0)).objs.size = s.heap.objs.size + 1 := by rw [size_push', Heap.size_update]
  unfold ksk_tree
  refine wpAny_bind (listItems_at at_ rfl (wpAny_bind (listUpdate_at at_ rfl ?_ (by rw [List.size_toArray]; exact line) (Nat.zero_le _))))
  refine wpAny_bind (seqEpoch_at emp rfl (wpAny_bind (wpAny_newTuple ?_ (show vs.length ≤ _ from line))))
  refine wpAny_bind (wpAny_newList (wpAny_holding ?_) (Nat.zero_le _))
  have kp : KeepsBut a s.heap (sortingHeap s.heap a vs) := fun b o hb q => sortingHeap_old hb q
  exact key_old_rest (h1 := s.heap) (n := n) (s := { s with heap := ((s.heap.update a (Obj.mapSeq fun _ => (#[] : Array Value))).push (seqObj "tuple" vs.toArray 0)).push (seqObj "list" #[] 0) })
    (kS := ((s.heap.update a (Obj.mapSeq fun _ => (#[] : Array Value))).push (seqObj "tuple" vs.toArray 0)).objs.size) kp (Heap.get?_none_of_le (by rw [sz]; exact Nat.le_succ _)) (Heap.get?_push_size _ rfl)
    (Heap.get?_push_of_some _ (Heap.get?_push_of_some _ emp)) (by rw [sz]; exact Nat.ne_of_gt (Nat.lt_succ_of_lt lt)) (by rw [sz]; exact Nat.le_trans nA (Nat.le_succ_of_le (Nat.le_of_lt lt))) len line al so room turn done
/-- sorted(xs, key=f) -/
theorem sorted_key_old {l p : Addr} {β : Type} {bs : List β} {R : Value → β → Prop} {Q : Value → Shared → Prop} (k : β → PyData) (hl : s.heap.IsList l vs.toArray) (e : EachIs R vs bs) (al : AllAlike (bs.map k)) (so : Sortable (bs.map k)) (line : bs.length ≤ sizeLine)
    (room : ∀ x, x ∈ bs → A.units + 2 + (k x).depth < cLine)
    (turn : ∀ (v : Value) (x : β), R v x → x ∈ bs → ∀ (g : Heap) (tk : Nat), (∀ b o, s.heap.get? b = some o → g.get? b = some o) →
      wpAny (model prog w) A.in1.in1 (call (.ref p) [v]) (KeyOld s.heap.objs.size (k x) { s with heap := g, toks := tk }) (fun _ _ => False) { s with heap := g, toks := tk })
    (done : ∀ out c g tk, (∀ b o, s.heap.get? b = some o → g.get? b = some o) → g.get? (s.heap.objs.size + 1) = some (seqObj "list" (List.toArray out) c) → out.length = bs.length → EachIs R out (bs.mergeSort (dataLe false k)) →
      Q (.ref (s.heap.objs.size + 1)) { s with heap := g, toks := tk }) :
    wpAny (model prog w) A (call (.builtin "sorted") [.ref l] [(Str.ofString "key", .ref p)]) Q E s := by
  have lift : ∀ {g : Heap}, KeepsBut (s.heap.objs.size + 1) (copyHeap s.heap vs) g → ∀ b o, s.heap.get? b = some o → g.get? b = some o := fun kp b o q =>
    kp b o (Nat.ne_of_lt (Nat.lt_succ_of_lt (Heap.lt_size q))) (copyHeap_old q)
  have len := e.length
  have klen : (bs.map k).length = vs.length := by rw [List.length_map]; exact len.symm
  refine sorted_of_sort hl (by omega) (ksk_s1 _ _) (fun _ => ksk_l1 _ _) fun E' => ?_
  rw [ksk_t1]
  refine key_old_tree (n := s.heap.objs.size) (kz := bs.map k) (s := { s with heap := copyHeap s.heap vs }) (copyHeap_at s.heap vs) (Nat.le_succ _) klen (by omega) al so (fun d hd => ?_) (fun i v d hv hd g tk kp => ?_) fun g tk out c kp q ko => ?_
  · obtain ⟨x, hx, rfl⟩ := List.mem_map.mp hd
    exact room x hx
  · have hi : i < bs.length := by
      have q := (List.getElem?_eq_some_iff.mp hd).1
      rwa [List.length_map] at q
    have hb : bs[i]? = some bs[i] := List.getElem?_eq_getElem hi
    rw [List.getElem?_map, hb] at hd
    obtain rfl : k bs[i] = d := Option.some.inj hd
    have hz : (v, bs[i]) ∈ vs.zip bs := List.mem_of_getElem? (i := i) (by rw [List.getElem?_zip_eq_some]; exact ⟨hv, hb⟩)
    exact turn v _ (e.zip _ hz) (List.getElem_mem hi) g tk (lift kp)
  · exact ⟨rfl, done out c g tk (lift kp) q ((ko.length klen).trans len) (keyedOut_each k ko e)⟩
end
end Cv

/-! Countveil, rules 4: sorted(found, key=lambda one: (len(one), one)). -/
namespace Cv
open PySem PySem.Spec PySem.Calls PyProof.Rows L2
abbrev lamArgs (p0 : Pos) : Arguments := { posonlyargs := [], args := [{ arg := "one", annotation := none, pos := p0 : Arg }], vararg := none, kwonlyargs := [], kw_defaults := [], kwarg := none, defaults := [] : Arguments }
abbrev lamBody (p1 p2 p3 p4 p5 : Pos) : Expr := .Tuple [.Call (.Name "len" p1) [.Name "one" p2] [] p3, .Name "one" p4] 0 p5
abbrev lamScope : Scope := { kind := ScopeKind.function, names := [(Str.ofString "one", NameKind.local), (Str.ofString "len", NameKind.globalImplicit)], isGenerator := false, isCoroutine := false, more := [] : Scope }
theorem lam_one : lamScope.names.lookup (Str.ofString "one") = some NameKind.local := by decide +kernel
theorem lam_len : lamScope.names.lookup (Str.ofString "len") = some NameKind.globalImplicit := by decide +kernel
abbrev lamEnvX (q : Str) (L f c' : Addr) : Env := newEnv lamScope L mainGlobals (cellsFrom (L + 1) lamScope.names []) (q ++ ".<locals>.") (some f) (.ref c') none builtinsNs
section
variable {prog : Program} {w : World} {A : Around} {E : Value → Shared → Prop} {s : Shared}
theorem lam_key {mg : Str → Option Value} {q : Str} {f c' a : Addr} {pm ctv : Value} {p0 p1 p2 p3 p4 p5 : Pos} {items : Array Value} {Q : Value → Shared → Prop} (hdep : A.depth < recursionLimit) (hg : s.heap.Ns mainGlobals mg) (hlen : mg "len" = none)
    (hb : ∃ mb, s.heap.Ns builtinsNs mb ∧ ∀ x : Str, x ≠ "__name__" → mb x = bootBuiltins x) (nl : s.heap.NoLimit) (ho : s.heap.get? f = some (PySem.W.kla_obj "<lambda>" q (lamArgs p0) (lamBody p1 p2 p3 p4 p5) lamScope [] pm c' ctv)) (hcd : s.heap.CodeRec (.ref c') q)
    (hl : s.heap.IsList a items) (hfit : (items.size : Int) < 2 ^ 63)
    (h : ∀ (g : Heap) (tk : Nat) (t : Addr) (tl : Tok), (∀ b o, s.heap.get? b = some o → g.get? b = some o) → g.get? t = some { cls := .type "tuple", data := .seq [Value.int items.size tl, .ref a].toArray } → Q (.ref t) { s with heap := g, toks := tk }) :
    wpAny (model prog w) A (call (.ref f) [.ref a]) Q E s := by
  refine wpAny_call (PySem.W.kla_callFunE hdep ho rfl rfl rfl rfl hcd ?_)
  show wpAny (model prog w) A.in1 (bindArgs (PySem.W.kla_fn "<lambda>" q (lamArgs p0) (lamBody p1 p2 p3 p4 p5) lamScope [] pm (.ref c') ctv) ⟨[.ref a], []⟩) _ _ s
  have eb : bindArgs (PySem.W.kla_fn "<lambda>" q (lamArgs p0) (lamBody p1 p2 p3 p4 p5) lamScope [] pm (.ref c') ctv) ⟨[.ref a], []⟩ = pure [((Str.ofString "one" : Str), Value.ref a)] := rfl
  rw [eb]
  refine wpAny_pure (wpAny_newFunctionEnv_cells rfl (fun x hx => .inl ?_) fun env he s1 x => ?_)
  · rw [List.mem_singleton.mp hx]
    exact lam_one
  subst he
  obtain ⟨g1, tk1, rfl, k1⟩ := x.done
  have hns := x.toInCall.ns
  refine ⟨nl.keeps k1, PySem.W.kla_codeExpr ?_⟩
  show wpAny (model prog w) (A.deeper (lamEnvX q s.heap.objs.size f c')) (eval (lamBody p1 p2 p3 p4 p5) (lamEnvX q s.heap.objs.size f c')) _ _ _
  have one : ∀ {p : Pos} {Q' : Value → Shared → Prop} {E' : Value → Shared → Prop} {tk : Nat}, Q' (.ref a) { s with heap := g1, toks := tk } → wpAny (model prog w) (A.deeper (lamEnvX q s.heap.objs.size f c')) (eval (.Name "one" p) (lamEnvX q s.heap.objs.size f c')) Q' E' { s with heap := g1, toks := tk } := fun {p Q' E' tk} k =>
    wpAny_Name (wpAny_loadName_local rfl lam_one hns rfl k) (by decide +kernel)
  refine wpAny_Tuple_spliced ?_
  refine Calls.spliced_cons ?_
  refine wpAny_Call_Name_kw ?_
  obtain ⟨mb, b1, b2⟩ := hb
  refine Calls.Name_function_global rfl lam_len (Calls.loadGlobal_builtin (hg.keeps k1) hlen (b1.keeps k1) ((b2 "len" (by decide +kernel)).trans PySem.boot_len) ?_) (by decide +kernel)
  refine PyProof.Rows.callWith_builtin1 ?_ (by rfl) (by rfl)
  refine Calls.spliced_cons (one (Calls.spliced_nil ?_))
  refine call_len_list (let ⟨o, o1, o2⟩ := hl; ⟨o, k1 _ _ o1, o2⟩) hfit ?_
  refine Calls.spliced_cons (one (Calls.spliced_nil ?_))
  refine ⟨by show 2 ≤ sizeLine; decide, ?_⟩
  exact h _ _ g1.objs.size _ (fun b o e => Heap.get?_push_of_some _ (k1 b o e)) (Heap.get?_push_size _ rfl)
end
end Cv
namespace Cv
open PySem PySem.Spec PySem.Calls PyProof.Rows L2
mutual
theorem reads_lt {h : Heap} : ∀ {v : Value} {d : PyData} {as : List Addr}, Reads h v d as → ∀ x ∈ as, x < h.objs.size
  | _, _, _, .none, _, m => by cases m
  | _, _, _, .bool _, _, m => by cases m
  | _, _, _, .int _ _, _, m => by cases m
  | _, _, _, .str _ _, _, m => by cases m
  | _, _, _, .list e _ _ r, x, m => by
    rcases List.mem_cons.mp m with z | z
    · rw [z]
      exact Heap.lt_size e
    · exact readsAll_lt r x z
  | _, _, _, .tuple _ _ _ r, x, m => readsAll_lt r x m
  | _, _, _, .dict e _ _ r1 r2, x, m => by
    rcases List.mem_append.mp m with z | z
    · rcases List.mem_cons.mp z with z | z
      · rw [z]
        exact Heap.lt_size e
      · exact readsAll_lt r1 x z
    · exact readsAll_lt r2 x z
theorem readsAll_lt {h : Heap} : ∀ {vs : List Value} {ds : List PyData} {as : List Addr}, ReadsAll h vs ds as → ∀ x ∈ as, x < h.objs.size
  | _, _, _, .nil, _, m => by cases m
  | _, _, _, .cons r1 r2, x, m => (List.mem_append.mp m).elim (reads_lt r1 x) (readsAll_lt r2 x)
end
/-- a list with its length ahead -/
def kk (b : List PyData) : PyData := .tuple [.int b.length, .list b]
/-- what is wanted behind sorted(found, key=lambda one: (len(one), one)) -/
def tSortLam (T : List (Addr × Str)) (ta : TE) : TE := fun σ H Q => tCons ta tNil σ H fun vs Ha => ∃ (a : Addr) (xs : List V) (bs : List (List PyData)), vs = [.ref a] ∧ LamX.Tabs T Ha ∧ Ha a = some (.lst xs) ∧ DTs Ha xs (bs.map PyData.list) ∧ PySem.W.AllAlike (bs.map kk) ∧ (∀ b, b ∈ bs → (kk b).depth ≤ 8) ∧
  ∀ Hb p ys, Ext Ha Hb → LamX.Tabs T Hb → Hb p = none → DTs Hb ys ((bs.mergeSort (PySem.W.dataLe false kk)).map PyData.list) → Q (.ref p) (upd Hb p (.lst ys))
section
variable {X : Cx}
theorem pe_sortLam {T : List (Addr × Str)} {c P : Addr} {k : Nat} {e : Expr} {ta : TE} {p p0 p1 p2 p3 p4 p5 lpos kpos pos : Pos} (hg : Gl X "sorted") (hm : X.mg "sorted" = none) (hlen : X.mg "len" = none) (ha : PE X e ta)
    (TB : LamX.TabB X.base X.mg c P) (hcode : X.env.code = .ref c) (hmT : (P, X.env.qual ++ "<lambda>") ∈ T) (hu : ∀ q ∈ T, q.1 = P → q.2 = X.env.qual ++ "<lambda>") (hr : Room k X.A)
    (he : starEach [e] X.env = (false, eval e X.env) :: starEach [] X.env := by rfl) :
    PE X (.Call (.Name "sorted" p) [e] [⟨some "key", .Lambda (lamArgs p0) (lamBody p1 p2 p3 p4 p5) lamScope lpos, kpos⟩] pos) (tSortLam T ta) := by
  refine ⟨fun pins s σ H Q I want => ?_⟩
  refine wpAny_Call_Name_kw (ld_blt I hg hm (u := .builtin "sorted") (by decide +kernel) ?_ (by decide +kernel) (by decide +kernel))
  have pa : PA X [e] (tCons ta tNil) := pa_cons (hs := he) ha pa_nil
  refine PyProof.Rows.callWith_kw (thn (pa.run pos pins s σ H _ I want) fun us sa ⟨vs, Ha, Ia, ra, a, xs, bs, ev, tabs, hA, hD, al, dep, q⟩ => ?_) (by rw [he]; rfl) (by rw [he]; rfl) (by rfl) (by rfl)
  subst ev
  obtain ⟨u, rfl, ru⟩ := vals1 ra
  cases ru
  show wpAny _ _ (evalAll [(do let v ← eval (.Lambda (lamArgs p0) (lamBody p1 p2 p3 p4 p5) lamScope lpos) X.env; standAt pos; pure v)]) _ _ sa
  refine wpAny_evalAll_cons (wpAny_bind (LamX.lam_make2 Ia TB hcode hmT hu tabs rfl (fun y hy ey => ?_) fun f c' pm ctv Hb sb Ib eN tabs2 hf hfn _ hco => wpAny_bind (wpAny_standAt (wpAny_pure (wpAny_evalAll_nil ?_)))))
  · exfalso
    revert ey
    rcases List.mem_cons.mp hy with z | z
    · rw [z]
      exact fun z => nomatch z
    · rw [List.mem_singleton.mp z]
      exact fun z => nomatch z
  show wpAny _ _ (call (.builtin "sorted") [.ref a] [(Str.ofString "key", .ref f)]) _ _ sb
  have ext : Ext Ha Hb := eN
  have hA2 := ext _ _ hA fun ps z => nomatch z
  have hD2 := hD.ext ext
  obtain ⟨its, rv, pl, hz⟩ := Ib.list (SqL.of hA2)
  have each := dt_each PyData.list rv hD2
  have len : bs.length ≤ sizeLine := by
    have h1 := each.length
    have h2 := rv.length
    omega
  have hun := hr.un
  refine sorted_key_old kk pl.isList each al (.inl fun d hd => ?_) len (fun b hb => ?_) (fun v b ⟨x, rx, dx⟩ hb g tk kp => ?_) fun out c2 g tk kp hg2 ho eo => ?_
  · obtain ⟨b, _, rfl⟩ := List.mem_map.mp hd
    exact ⟨_, _, rfl⟩
  · have := dep b hb
    omega
  · obtain ⟨la, ys, rfl, hla, dys⟩ := dx.inList
    obtain rfl : v = Value.ref la := rx
    obtain ⟨zs, rz, plz, _⟩ := Ib.list (SqL.of hla)
    obtain ⟨as, rd⟩ := Dp.reads Ib _ _ _ ((DT.lst hla dys).dp (K := X.K)) (show RelV (.ref la) (.ref la) from rfl)
    obtain ⟨oc, cs, t, hoc, hdc, hvc⟩ : ∃ (oc : Obj) (cs : Array Value) (t : Tok), sb.heap.get? c' = some oc ∧ oc.data = .fields cs ∧ cs[1]? = some (.str (X.env.qual ++ "<lambda>") t) := (Ib.hok c' _ hco).1
    obtain ⟨mb, m1, m2⟩ := Ib.mod.blt
    have up : ∀ b o, X.base.get? b = some o → g.get? b = some o := fun b o e => kp _ _ (Ib.bk b o e)
    have hsz : zs.toArray.size = b.length := by
      rw [List.size_toArray, ← rz.length, dys.length]
    refine lam_key (s := { sb with heap := g, toks := tk }) (mg := X.mg) (items := zs.toArray) (by show X.A.depth < recursionLimit; have := hr.dp; omega) (Ib.mod.glob.keeps up) hlen ⟨mb, m1.keeps up, m2⟩ (Ib.mod.nolimit.keeps up) (kp _ _ hf) ⟨c', oc, cs, t, rfl, kp _ _ hoc, hdc, hvc⟩
      (let ⟨o, o1, o2⟩ := plz.isList; ⟨o, kp _ _ o1, o2⟩) (by rw [List.size_toArray, ← rz.length]; have := line63; omega) fun g2 tk2 t2 tl kp2 ht2 => ?_
    have ri : Reads g2 (Value.int (zs.toArray.size : Nat) tl) (.int (b.length : Nat)) [] := by
      rw [hsz]
      exact Reads.int _ _
    refine ⟨g2, tk2, rfl, kp2, [] ++ (as ++ []), Reads.tuple ht2 rfl rfl (ReadsAll.cons ri (ReadsAll.cons (PyProof.Rows.Reads.keeps (fun b o e => kp2 _ _ (kp b o e)) rd) .nil)), fun x mx => ?_⟩
    rw [List.nil_append, List.append_nil] at mx
    exact reads_lt rd x mx
  · obtain ⟨ys, r2, d2⟩ := each_dt PyData.list eo
    have hn := Ib.hok.fresh (a := sb.heap.objs.size + 1) (Nat.le_succ _)
    have hyl : ys.length ≤ sizeLine := by
      have h1 := r2.length
      omega
    exact ⟨.ref _, upd Hb (sb.heap.objs.size + 1) (.lst ys), Ib.laid (t' := tk) kp (Nat.le_succ _) ⟨hyl, out, c2, r2, hg2⟩, rfl, q Hb _ ys ext tabs2 hn d2⟩
end
end Cv

/-! Countveil: the text by places, data, what the module's names hold. -/
namespace Cv
open PySem PySem.Spec PyProof.Rows L2
def topS (i : Nat) : Stmt := PySem.Challenge.pw_countveil_k42_whole_fewest_hidden.main.body.getD i (.Pass ⟨0, 0, 0, 0⟩)
/-! ### data -/
def pD (p : Pl) : PyData := .tuple [.int p.1, .int p.2]
def hD (h : List Pl) : PyData := .list (h.map pD)
def rowD (c : Nat) (g : Nat → Int) : PyData := .list ((List.range c).map fun k => .int (g k))
def gridD (r c : Nat) (g : Mat) : PyData := .list ((List.range r).map fun i => rowD c (g i))
def gdD (q : Gd) : PyData := .tuple [.int q.1, .int q.2.1, .int q.2.2.1, .int q.2.2.2]
def gdsD (gs : List Gd) : PyData := .list (gs.map gdD)
def sheetD (r c : Nat) (g : Mat) (h : List Pl) : PyData := .tuple [gridD r c g, hD h]
theorem DT.row {H : Hp} {v : V} {c : Nat} {g : Nat → Int} (d : DT H v (rowD c g)) : ∃ a, v = .ref a ∧ H a = some (.lst (((List.range c).map g).map V.int)) := by
  obtain ⟨a, xs, rfl, h, t⟩ := d.inList
  refine ⟨a, rfl, ?_⟩
  have e : (List.range c).map (fun k => PyData.int (g k)) = ((List.range c).map g).map PyData.int := by rw [List.map_map]; rfl
  rw [e] at t
  rw [h, t.toInts]
theorem DT.ofRow {H : Hp} {a : Addr} {c : Nat} {g : Nat → Int} (h : H a = some (.lst (((List.range c).map g).map V.int))) : DT H (.ref a) (rowD c g) := by
  refine .lst h ?_
  have e : (List.range c).map (fun k => PyData.int (g k)) = ((List.range c).map g).map PyData.int := by rw [List.map_map]; rfl
  rw [e]
  exact DTs.ints _
theorem range_get {n i : Nat} (h : i < n) : (List.range n)[i]? = some i := by
  rw [List.getElem?_range h]
theorem map_range_get {α : Type} {f : Nat → α} {n i : Nat} (h : i < n) : ((List.range n).map f)[i]? = some (f i) := by
  rw [List.getElem?_map, range_get h]
  rfl
theorem DT.grid {H : Hp} {v : V} {r c : Nat} {g : Mat} (d : DT H v (gridD r c g)) : ∃ a xs, v = .ref a ∧ H a = some (.lst xs) ∧ xs.length = r ∧ ∀ i, i < r → ∃ b, xs[i]? = some (.ref b) ∧ H b = some (.lst (((List.range c).map (g i)).map V.int)) := by
  obtain ⟨a, xs, rfl, h, t⟩ := d.inList
  refine ⟨a, xs, rfl, h, by have := t.length; rwa [List.length_map, List.length_range] at this, fun i hi => ?_⟩
  obtain ⟨w, e1, e2⟩ := t.get (map_range_get (f := fun i => rowD c (g i)) hi)
  obtain ⟨b, rfl, hb⟩ := e2.row
  exact ⟨b, e1, hb⟩
theorem DT.pair {H : Hp} {v : V} {p : Pl} (d : DT H v (pD p)) : ∃ a, v = .ref a ∧ H a = some (.tup [.int p.1, .int p.2]) := by
  obtain ⟨a, xs, rfl, h, t⟩ := d.inTup
  refine ⟨a, rfl, ?_⟩
  have e : xs = ([(p.1 : Int), (p.2 : Int)]).map V.int := DTs.toInts t
  rw [h, e]
  rfl
theorem DT.ofPair {H : Hp} {a : Addr} {p : Pl} (h : H a = some (.tup [.int p.1, .int p.2])) : DT H (.ref a) (pD p) := .tup h (.cons (.int _) (.cons (.int _) .nil))
theorem DT.guard {H : Hp} {v : V} {q : Gd} (d : DT H v (gdD q)) : ∃ a, v = .ref a ∧ H a = some (.tup [.int q.1, .int q.2.1, .int q.2.2.1, .int q.2.2.2]) := by
  obtain ⟨a, xs, rfl, h, t⟩ := d.inTup
  refine ⟨a, rfl, ?_⟩
  have e : xs = ([(q.1 : Int), (q.2.1 : Int), q.2.2.1, q.2.2.2]).map V.int := DTs.toInts t
  rw [h, e]
  rfl
theorem DT.ofGuard {H : Hp} {a : Addr} {q : Gd} (h : H a = some (.tup [.int q.1, .int q.2.1, .int q.2.2.1, .int q.2.2.2])) : DT H (.ref a) (gdD q) := .tup h (.cons (.int _) (.cons (.int _) (.cons (.int _) (.cons (.int _) .nil))))
theorem DT.sheet {H : Hp} {v : V} {r c : Nat} {g : Mat} {h : List Pl} (d : DT H v (sheetD r c g h)) : ∃ a x y, v = .ref a ∧ H a = some (.tup [x, y]) ∧ DT H x (gridD r c g) ∧ DT H y (hD h) := by
  obtain ⟨a, xs, rfl, e, t⟩ := d.inTup
  cases t with
  | cons h1 t =>
    cases t with
    | cons h2 t =>
      cases t
      exact ⟨a, _, _, rfl, e, h1, h2⟩
theorem DT.ofSheet {H : Hp} {a : Addr} {x y : V} {r c : Nat} {g : Mat} {h : List Pl} (e : H a = some (.tup [x, y])) (h1 : DT H x (gridD r c g)) (h2 : DT H y (hD h)) : DT H (.ref a) (sheetD r c g h) := .tup e (.cons h1 (.cons h2 .nil))
theorem DT.list {α : Type} {H : Hp} {v : V} {f : α → PyData} {l : List α} (d : DT H v (.list (l.map f))) : ∃ a xs, v = .ref a ∧ H a = some (.lst xs) ∧ xs.length = l.length ∧ DTs H xs (l.map f) ∧ ∀ (i : Nat) (x : α), l[i]? = some x → ∃ w, xs[i]? = some w ∧ DT H w (f x) := by
  obtain ⟨a, xs, rfl, h, t⟩ := d.inList
  refine ⟨a, xs, rfl, h, by have := t.length; rwa [List.length_map] at this, t, fun i x e => ?_⟩
  exact t.get (by rw [List.getElem?_map, e]; rfl)
/-! ### equal data -/
theorem eqv_pD (p q : Pl) : PyData.eqv (pD p) (pD q) = decide (p = q) := by
  obtain ⟨a, b⟩ := p
  obtain ⟨a', b'⟩ := q
  have e : PyData.eqv (pD (a, b)) (pD (a', b')) = (((a : Int) == (a' : Int)) && (((b : Int) == (b' : Int)) && true)) := by simp only [pD, PyData.eqv, PyData.eqvAll]
  rw [e, Bool.eq_iff_iff]
  simp
  omega
theorem any_pD (p : Pl) : ∀ h : List Pl, ((h.map pD).any fun z => PyData.eqv z (pD p)) = decide (p ∈ h)
  | [] => by simp
  | q :: h => by
    rw [List.map_cons, List.any_cons, any_pD p h, eqv_pD, Bool.eq_iff_iff, Bool.or_eq_true, decide_eq_true_iff, decide_eq_true_iff, decide_eq_true_iff, List.mem_cons]
    exact or_congr_left eq_comm
theorem lay_pDs : ∀ h : List Pl, PyData.canLayAll0 (h.map pD) = true
  | [] => by simp [PyData.canLayAll0]
  | p :: h => by simp [PyData.canLayAll0, PyData.canLay0, pD, lay_pDs h]
theorem dep_pD (p : Pl) : (pD p).depth = 1 := by simp [pD, PyData.depth, PyData.depthAll]
theorem dep_pDs : ∀ h : List Pl, PyData.depthAll (h.map pD) ≤ 1
  | [] => by simp [PyData.depthAll]
  | p :: h => by
    have h1 := dep_pDs h
    have h2 := dep_pD p
    simp only [List.map_cons, PyData.depthAll]
    omega
theorem shaped_of {d : PyData} (h1 : d.canLay0 = true) (h2 : d.depth ≤ 64) : SeqAt.shaped d = true := by
  show (d.canLay0 && decide (d.depth ≤ 64)) = true
  rw [h1, decide_eq_true h2]
  rfl
theorem shaped_pD (p : Pl) : SeqAt.shaped (pD p) = true := shaped_of (by simp [pD, PyData.canLay0, PyData.canLayAll0]) (by rw [dep_pD]; decide)
theorem shaped_hD (h : List Pl) : SeqAt.shaped (hD h) = true := shaped_of (by simp only [hD, PyData.canLay0]; exact lay_pDs h) (by
  have := dep_pDs h
  simp only [hD, PyData.depth]
  omega)
theorem eqv_hD : ∀ h h' : List Pl, PyData.eqv (hD h) (hD h') = decide (h = h') := by
  have all : ∀ h h' : List Pl, PyData.eqvAll (h.map pD) (h'.map pD) = decide (h = h') := by
    intro h
    induction h with
    | nil => intro h'; cases h' <;> simp [PyData.eqvAll]
    | cons p h ih =>
      intro h'
      cases h' with
      | nil => simp [PyData.eqvAll]
      | cons q h' =>
        simp only [List.map_cons, PyData.eqvAll]
        rw [ih, eqv_pD, Bool.eq_iff_iff]
        simp
  intro h h'
  simp only [hD, PyData.eqv]
  exact all h h'
theorem lay_ints : ∀ l : List Int, PyData.canLayAll0 (l.map PyData.int) = true
  | [] => by simp [PyData.canLayAll0]
  | n :: l => by simp [PyData.canLayAll0, PyData.canLay0, lay_ints l]
theorem rowD_eq (c : Nat) (g : Nat → Int) : rowD c g = .list (((List.range c).map g).map PyData.int) := by
  unfold rowD
  rw [List.map_map]
  rfl
theorem shaped_rowD (c : Nat) (g : Nat → Int) : SeqAt.shaped (rowD c g) = true := by
  rw [rowD_eq]
  exact shaped_of (by simp only [PyData.canLay0]; exact lay_ints _) (by simp only [PyData.depth]; rw [PySem.W.depth_ints]; decide)
theorem shaped_nil : SeqAt.shaped (.list []) = true := by decide
theorem eqv_row_nil {c : Nat} (g : Nat → Int) (h : 0 < c) : PyData.eqv (rowD c g) (.list []) = false := by
  unfold rowD
  cases c with
  | zero => exact absurd h (Nat.lt_irrefl _)
  | succ c =>
    rw [List.range_succ_eq_map]
    simp [PyData.eqv, PyData.eqvAll]
theorem q_bl {Q : VK} {b b' : Bool} {H : Hp} (e : b = b') (q : Q (.bl b') H) : Q (.bl b) H := by
  rw [e]
  exact q
theorem q_int {Q : VK} {b b' : Int} {H : Hp} (e : b = b') (q : Q (.int b') H) : Q (.int b) H := by
  rw [e]
  exact q
/-! ### the module's names -/
structure Gb (mg : Str → Option Value) : Prop where
  isi : mg "isinstance" = none
  int : mg "int" = none
  bool : mg "bool" = none
  list : mg "list" = none
  tuple : mg "tuple" = none
  all : mg "all" = none
  any : mg "any" = none
  len : mg "len" = none
  enum : mg "enumerate" = none
  zip : mg "zip" = none
  range : mg "range" = none
  sorted : mg "sorted" = none
  min : mg "min" = none
  repr : mg "repr" = none
  abs : mg "abs" = none
  side : ∃ t, mg "MOST_SIDE" = some (.int 6 t)
  cell : ∃ t, mg "MOST_CELL" = some (.int (10 ^ 9) t)
  guards : ∃ t, mg "MOST_GUARDS" = some (.int 8 t)
  small : ∃ t, mg "MOST_SMALL" = some (.int 16 t)
/-- a def of the module and its promise -/
structure Has (P : Program) (w : World) (K : PySem.W.Frag) (mg : Str → Option Value) (base : Heap) (k : Nat) (x : Str) (ps : List Str) (sp : Sp) : Prop where
  ex : ∃ (f : Addr) (fd : FuncData), mg x = some (.ref f) ∧ PySem.W.keepIn K (.ref f) = true ∧ Binds K fd ps [] ∧ FnOk P w K mg base CX0 k f fd ps sp
/-- a def of the module as it stands -/
structure Def (K : PySem.W.Frag) (mg : Str → Option Value) (x : Str) (st : Stmt) (ps : List Str) : Prop where
  ex : ∃ (f : Addr) (fd : FuncData), mg x = some (.ref f) ∧ Fun K x x st f fd ∧ Binds K fd ps []
/-! ### built-in classes as values -/
section
variable {X : Cx}
theorem pe_tyV {x : Str} {n : String} {pos : Pos} (hg : Gl X x) (hm : X.mg x = none) (hv : bootBuiltins x = some (.type n)) (hn : x ≠ "__name__" := by decide +kernel) (hd : (x == ("__debug__" : Str)) = false := by decide +kernel) : PE X (.Name x pos) (tC (.ty n)) :=
  pe_bltn hg hm hv rfl hn hd
theorem pe_tInt {pos : Pos} (hg : Gl X "int") (hm : X.mg "int" = none) : PE X (.Name "int" pos) (tC (.ty "int")) := pe_tyV hg hm (by decide +kernel)
theorem pe_tBool {pos : Pos} (hg : Gl X "bool") (hm : X.mg "bool" = none) : PE X (.Name "bool" pos) (tC (.ty "bool")) := pe_tyV hg hm (by decide +kernel)
theorem pe_tList {pos : Pos} (hg : Gl X "list") (hm : X.mg "list" = none) : PE X (.Name "list" pos) (tC (.ty "list")) := pe_tyV hg hm (by decide +kernel)
theorem pe_tTuple {pos : Pos} (hg : Gl X "tuple") (hm : X.mg "tuple" = none) : PE X (.Name "tuple" pos) (tC (.ty "tuple")) := pe_tyV hg hm (by decide +kernel)
/-- len of a list or tuple; list(xs): by names, for blocks -/
def rLen2 (K : PySem.W.Frag) : List V → Hp → VK → Prop := fun xs H Q => ∃ p ys, xs = [.ref p] ∧ (SqL K H p ys ∨ SqT K H p ys) ∧ Q (.int ys.length) H
theorem cr_len : CallR X (.builtin "len") (rLen2 X.K) := call_len_seq
def rList2 (K : PySem.W.Frag) : List V → Hp → VK → Prop := fun xs H Q => ∃ p ys, xs = [.ref p] ∧ (SqL K H p ys ∨ SqT K H p ys) ∧ ∀ l, H l = none → Q (.ref l) (upd H l (.lst ys))
theorem cr_list : CallR X (.type "list") (rList2 X.K) := call_list_of
theorem b_isi : bootBuiltins "isinstance" = some (.builtin "isinstance") := by decide +kernel
theorem b_all : bootBuiltins "all" = some (.builtin "all") := by decide +kernel
theorem b_any : bootBuiltins "any" = some (.builtin "any") := by decide +kernel
theorem b_len : bootBuiltins "len" = some (.builtin "len") := by decide +kernel
theorem b_min : bootBuiltins "min" = some (.builtin "min") := by decide +kernel
theorem b_abs : bootBuiltins "abs" = some (.builtin "abs") := by decide +kernel
theorem b_repr : bootBuiltins "repr" = some (.builtin "repr") := by decide +kernel
theorem b_sorted : bootBuiltins "sorted" = some (.builtin "sorted") := by decide +kernel
theorem b_list : bootBuiltins "list" = some (.type "list") := by decide +kernel
theorem b_int : bootBuiltins "int" = some (.type "int") := by decide +kernel
theorem k_ii {K : PySem.W.Frag} : PySem.W.kitOne K (.type "int") (.type "int") = some true := kit_ty (by decide +kernel)
theorem k_ib {K : PySem.W.Frag} : PySem.W.kitOne K (.type "int") (.type "bool") = some false := kit_ty (by decide +kernel)
theorem k_tt {K : PySem.W.Frag} : PySem.W.kitOne K (.type "tuple") (.type "tuple") = some true := kit_ty (by decide +kernel)
theorem k_ll {K : PySem.W.Frag} : PySem.W.kitOne K (.type "list") (.type "list") = some true := kit_ty (by decide +kernel)
end
end Cv

/-! Countveil, rules 5: a list comprehension with two fors that gives data, n times m. -/
namespace Cv
open PySem PySem.Spec PyProof.Rows L2
/-- the second source at the outer turn i: m turns, the j-th gives the datum f j -/
structure Inner (D : Addr) (m : Nat) (f : Nat → PyData) (g1 : TG) (te : TE) (vs1 : List Nat) (H' : Hp) (σ2 : L2.St) (J1 : It) (H4 : Hp) : Prop where
  same : Same H' H4
  stop : ∀ H, Same (hide D H4) (hide D H) → J1.stop m H
  go : ∀ j H, j < m → Same (hide D H4) (hide D H) → J1.go j H
  step : ∀ (j : Nat) (H : Hp) (y : V) (H'' : Hp) (Kt : V → Hp → Prop), j < m → Same (hide D H4) (hide D H) → H D ≠ none → J1.yld j H y H'' → (∀ z H5, Same H H5 → DT (hide D H5) z (f j) → Kt z H5) →
    g1 y (wipe σ2 vs1) H'' fun σ3 H5 => wipe σ3 vs1 = wipe σ2 vs1 ∧ te σ3 H5 Kt
theorem lc2D {σ : L2.St} {H1 : Hp} {vs vs1 : List Nat} {g g1 : TG} {wi1 : TI} {te : TE} {J : It} {D : Addr} {Qd : Hp → Prop} (n m : Nat) (f : Nat → Nat → PyData) (hz : n * m < sizeLine) (hD : H1 D = none)
    (stop : ∀ H', Same H1 (hide D H') → J.stop n H') (go : ∀ i H', i < n → Same H1 (hide D H') → J.go i H')
    (step : ∀ (i : Nat) (H' : Hp) (x : V) (H'' : Hp) (R : L2.St → It → Hp → Prop), i < n → Same H1 (hide D H') → H' D ≠ none → J.yld i H' x H'' → (∀ σ2 J1 H4, Inner D m (f i) g1 te vs1 H' σ2 J1 H4 → R σ2 J1 H4) →
      g x (wipe σ vs) H'' fun σ2 H2 => wipe σ2 vs = wipe σ vs ∧ wi1 σ2 H2 (R σ2))
    (done : ∀ (ys : List V) (H' : Hp), Same H1 (hide D H') → H' D = some (.lst ys) → DTs (hide D H') ys ((List.range n).flatMap fun i => (List.range m).map (f i)) → Qd H') :
    ∃ W : Nat → Nat → Hp → Prop, (∃ m, W 0 m (upd H1 D (.lst []))) ∧ ∀ i m H, W i m H →
      (J.stop i H ∧ Qd H) ∨ (J.go i H ∧ ∃ Nx : Hp → Prop, (∀ H', Nx H' → ∃ m', m' < m ∧ W (i + 1) m' H') ∧ ∀ x H', J.yld i H x H' → g x (wipe σ vs) H' fun σ2 H2 => wipe σ2 vs = wipe σ vs ∧ tYes σ2 H2 fun b H3 =>
        if b = true then wi1 σ2 H3 fun J1 H4 => ∃ W1 : Nat → Nat → Hp → Prop, (∃ m, W1 0 m H4) ∧ ∀ j k H, W1 j k H →
          (J1.stop j H ∧ Nx H) ∨ (J1.go j H ∧ ∃ Nx1 : Hp → Prop, (∀ H', Nx1 H' → ∃ k', k' < k ∧ W1 (j + 1) k' H') ∧ ∀ x H', J1.yld j H x H' → g1 x (wipe σ2 vs1) H' fun σ3 H5 => wipe σ3 vs1 = wipe σ2 vs1 ∧ tYes σ3 H5 fun b H6 =>
            if b = true then te σ3 H6 fun y H7 => ∃ acc, H7 D = some (.lst acc) ∧ acc.length < sizeLine ∧ Nx1 (upd H7 D (.lst (acc ++ [y]))) else Nx1 H6)
        else Nx H3) := by
  have len : ∀ i, ((List.range i).flatMap fun i => (List.range m).map (f i)).length = i * m := by
    intro i
    induction i with
    | zero => simp
    | succ i ih => rw [List.range_succ, List.flatMap_append, List.length_append, ih]; simp [Nat.succ_mul]
  refine ⟨fun i k H => i + k = n ∧ Same H1 (hide D H) ∧ ∃ ys, H D = some (.lst ys) ∧ DTs (hide D H) ys ((List.range i).flatMap fun i => (List.range m).map (f i)), ⟨n, Nat.zero_add _, ?_, [], upd_same, .nil⟩, fun i k H hW => ?_⟩
  · rw [hide_upd, hide_none hD]
    exact Same.refl _
  · obtain ⟨em, sm, ys, hY, hT⟩ := hW
    by_cases hi : i < n
    · refine .inr ⟨go i H hi sm, fun H' => Same H1 (hide D H') ∧ ∃ ys, H' D = some (.lst ys) ∧ DTs (hide D H') ys ((List.range (i + 1)).flatMap fun i => (List.range m).map (f i)), fun H' ⟨a, b⟩ => ⟨k - 1, by omega, by omega, a, b⟩, fun x H' hy => ?_⟩
      refine step i H x H' _ hi sm (by rw [hY]; exact fun z => nomatch z) hy fun σ2 J1 H4 I => ?_
      refine ⟨fun j l H5 => j + l = m ∧ Same (hide D H4) (hide D H5) ∧ ∃ zs, H5 D = some (.lst zs) ∧ DTs (hide D H5) zs (((List.range i).flatMap fun i => (List.range m).map (f i)) ++ (List.range j).map (f i)), ⟨m, Nat.zero_add _, Same.refl _, ys, I.same _ _ hY, ?_⟩, fun j l H5 hV => ?_⟩
      · simp only [List.range_zero, List.map_nil, List.append_nil]
        exact hT.same (hide_mono I.same)
      · obtain ⟨el, s5, zs, hZ, hU⟩ := hV
        by_cases hj : j < m
        · refine .inr ⟨I.go j H5 hj s5, fun H6 => Same (hide D H4) (hide D H6) ∧ ∃ zs, H6 D = some (.lst zs) ∧ DTs (hide D H6) zs (((List.range i).flatMap fun i => (List.range m).map (f i)) ++ (List.range (j + 1)).map (f i)), fun H6 ⟨a, b⟩ => ⟨l - 1, by omega, by omega, a, b⟩, fun y H6 hy6 => ?_⟩
          refine I.step j H5 y H6 _ hj s5 (by rw [hZ]; exact fun z => nomatch z) hy6 fun z H7 s7 dz => ?_
          refine ⟨zs, s7 _ _ hZ, ?_, ?_, zs ++ [z], upd_same, ?_⟩
          · have h1 := hU.length
            rw [List.length_append, len, List.length_map, List.length_range] at h1
            have h2 : i * m + m ≤ n * m := by
              rw [← Nat.succ_mul]
              exact Nat.mul_le_mul_right m hi
            omega
          · rw [hide_upd]
            exact s5.trans (hide_mono s7)
          · rw [hide_upd, List.range_succ, List.map_append, ← List.append_assoc]
            exact (hU.same (hide_mono s7)).append (.cons dz .nil)
        · have e : j = m := by omega
          subst e
          refine .inl ⟨I.stop H5 s5, (sm.trans (hide_mono I.same)).trans s5, zs, hZ, ?_⟩
          rw [List.range_succ, List.flatMap_append]
          simpa using hU
    · have e : i = n := by omega
      subst e
      exact .inl ⟨stop H sm, done ys H sm hY hT⟩
end Cv

/-! Countveil walks 1: is_whole, is_place. -/
namespace Cv
open PySem PySem.Spec PyProof.Rows L2
abbrev sWhole : Stmt := topS 6
abbrev sPlace : Stmt := topS 12
theorem scWhole : FnScope ["thing"] ["thing"] (defScope sWhole) := ⟨rfl, rfl, rfl, by decide +kernel, rfl, by decide +kernel, by decide +kernel⟩
theorem scPlace : FnScope ["cells", "thing", "one"] ["cells", "thing"] (defScope sPlace) := ⟨rfl, rfl, rfl, by decide +kernel, rfl, by decide +kernel, by decide +kernel⟩
def spWhole : Sp := fun vs H Q _ => ∃ i : Int, vs = [.int i] ∧ Q (.bl true) H
def spPlace : Sp := fun vs H Q _ => ∃ (r c : Nat) (g : Mat) (p : Pl) (x y : V), vs = [x, y] ∧ DT H x (gridD r c g) ∧ DT H y (pD p) ∧ p.1 < r ∧ p.2 < c ∧ ∀ H', Same H H' → Q (.bl true) H'
section
variable {P : Program} {w : PySem.World} {K : PySem.W.Frag} {mg : Str → Option Value} {base : Heap}
theorem ok_whole {f : Addr} {fd : FuncData} (F : Fun K "is_whole" "is_whole" sWhole f fd) (G : Gb mg) : FnOk P w K mg base CX0 1 f fd ["thing"] spWhole := by
  refine F.ok scWhole (fun vs H Q E h => ?_) (fun cdv A outer s H vs Q E hr h => ?_)
  · obtain ⟨i, rfl, _⟩ := h
    rfl
  · obtain ⟨i, rfl, q⟩ := h
    refine ⟨_, pss_one (ps_ret (pe_and (pe_callB call_isi (by rfl) G.isi b_isi (pa_cons (pv 0) (pa_cons (pe_tInt (by rfl) G.int) pa_nil)))
      (pe_one (pe_not (pe_callB call_isi (by rfl) G.isi b_isi (pa_cons (pv 0) (pa_cons (pe_tBool (by rfl) G.bool) pa_nil))))))), ?_⟩
    refine ⟨_, rfl, _, _, _, _, _, rfl, .ty "int", .base (.int i), k_ii, true, rfl, ?_⟩
    refine iteT ⟨_, rfl, _, _, _, _, _, rfl, .ty "bool", .base (.int i), k_ib, false, rfl, q⟩
theorem ok_place {f : Addr} {fd : FuncData} (F : Fun K "is_place" "is_place" sPlace f fd) (G : Gb mg) (hW : Has P w K mg base 1 "is_whole" ["thing"] spWhole) : FnOk P w K mg base CX0 2 f fd ["cells", "thing"] spPlace := by
  obtain ⟨fW, fdW, gW, kW, bW, oW⟩ := hW.ex
  refine F.ok scPlace (fun vs H Q E h => ?_) (fun cdv A outer s H vs Q E hr h => ?_)
  · obtain ⟨r, c, g, p, x, y, rfl, _⟩ := h
    rfl
  · obtain ⟨r, c, g, p, x, y, rfl, dx, dy, hp1, hp2, q⟩ := h
    refine ⟨_, pss_cons (ps_if (PW.pt (pw_or (pt_not (pt_val (pe_callB call_isi (by rfl) G.isi b_isi (pa_cons (pv 1) (pa_cons (pe_tTuple (by rfl) G.tuple) pa_nil)))))
        (pw_or (pt_cmpR op_ne (pe_callB call_len_seq (by rfl) G.len b_len (pa_cons (pv 1) pa_nil)) pe_int (nomark _))
        (pw_or1 (pt_not (pt_val (pe_callB (cr_all rfl) (by rfl) G.all b_all (pa_cons (pe_lc (own := [("one", 2)]) (g := gName 2) (tt := tYes) rfl scPlace.nd (pi_tup (pv 1)) (blkOk_by (N := ["cells", "thing", "one"]) (sc := defScope sPlace) (by decide +kernel))
          (fun _ _ _ _ _ => pg_name (i := 2) scPlace.nd rfl (Or.inl rfl)) (fun _ _ _ _ _ => pts_nil) (fun _ _ _ _ _ => pe_call oW hr (by rfl) gW kW bW .nil pass0 (pa_cons (pv 2) pa_nil))) pa_nil))))))))
        (pss_one (ps_ret pe_bl)) pss_nil)
      (pss_one (ps_ret (pe_and (pe_chain op_le op_lt pe_int (pe_ix ix_tup (pv 1) pe_int (fun _ _ => rfl)) (pe_callB call_len_seq (by rfl) G.len b_len (pa_cons (pv 0) pa_nil)))
        (pe_one (pe_chain op_le op_lt pe_int (pe_ix ix_tup (pv 1) pe_int (fun _ _ => rfl)) (pe_callB call_len_seq (by rfl) G.len b_len (pa_cons (pe_ix ix_list (pv 0) pe_int (fun _ _ => rfl)) pa_nil))))))), ?_⟩
    obtain ⟨a, rfl, ha⟩ := dy.pair
    obtain ⟨b, xs, rfl, hb, hlen, hrow⟩ := dx.grid
    refine ⟨_, rfl, _, _, _, _, _, rfl, .ty "tuple", .base (.tup ha), k_tt, true, rfl, iteF ?_⟩
    refine ⟨_, rfl, _, _, rfl, .inr (SqT.of ha), rfl, _, rfl, iteF ?_⟩
    refine ⟨_, rfl, a, rfl, ⟨_, SqT.of ha⟩, fun D hD => ?_⟩
    refine lcD_tup ha [some (.bool true), some (.bool true)] rfl (by decide) hD (fun i o x H' Kt Kf ho hx sm sm2 nD hn hs => ?_) (fun ys H' sm h1 h2 => ?_)
    · have : ∃ z : Int, x = .int z := by
        match i, hx with
        | 0, hx => exact ⟨_, (Option.some.inj hx).symm⟩
        | 1, hx => exact ⟨_, (Option.some.inj hx).symm⟩
      obtain ⟨z, rfl⟩ := this
      have eo : o = some (.bool true) := by
        match i, ho with
        | 0, ho => exact (Option.some.inj ho).symm
        | 1, ho => exact (Option.some.inj ho).symm
      refine ⟨rfl, ?_⟩
      refine ⟨_, rfl, z, rfl, ?_⟩
      exact hs _ eo _ H' (Same.refl _) (.bl true)
    · have e : ys = [true, true].map V.bl := DTs.toBls h2
      rw [e] at h1
      refine ⟨D, [true, true], rfl, SqL.of h1, true, rfl, iteF ?_⟩
      have hb' := sm _ _ hb
      have ha' := sm _ _ ha
      obtain ⟨b0, e0, h0⟩ := hrow 0 (by omega)
      refine ⟨_, rfl, a, _, _, _, rfl, rfl, SqT.of ha', atI_nat (j := 0) rfl, _, _, rfl, rfl, true, ?_, iteT ?_⟩
      · exact congrArg V.bl (decide_eq_true (by omega))
      refine ⟨_, rfl, _, _, rfl, .inl (SqL.of hb'), _, _, rfl, rfl, true, ?_, iteT ?_⟩
      · exact congrArg V.bl (decide_eq_true (by omega))
      refine ⟨_, rfl, a, _, _, _, rfl, rfl, SqT.of ha', atI_nat (j := 1) rfl, _, _, rfl, rfl, true, ?_, iteT ?_⟩
      · exact congrArg V.bl (decide_eq_true (by omega))
      refine ⟨_, rfl, b, _, _, _, rfl, rfl, SqL.of hb', atI_nat (j := 0) e0, _, _, rfl, .inl (SqL.of (sm _ _ h0)), _, _, rfl, rfl, ?_⟩
      exact q_bl (Q := Q) (decide_eq_true (by rw [List.length_map, List.length_map, List.length_range]; omega)) (q _ sm)
end
end Cv

/-! Countveil walks 2: is_block. -/
namespace Cv
open PySem PySem.Spec PyProof.Rows L2
abbrev sBlock : Stmt := topS 10
theorem scBlock : FnScope ["thing", "most", "row", "one"] ["thing", "most"] (defScope sBlock) := ⟨rfl, rfl, rfl, by decide +kernel, rfl, by decide +kernel, by decide +kernel⟩
/-- cells: one to six rows and columns, numbers from 0 to 10 ** 9 -/
structure Gr (r c : Nat) (g : Mat) : Prop where
  r0 : 0 < r
  c0 : 0 < c
  r6 : r ≤ 6
  c6 : c ≤ 6
  lo : ∀ i k, i < r → k < c → 0 ≤ g i k
  hi : ∀ i k, i < r → k < c → g i k ≤ 10 ^ 9
def spBlock : Sp := fun vs H Q _ => ∃ (r c : Nat) (g : Mat) (x : V), vs = [x, .int (10 ^ 9)] ∧ DT H x (gridD r c g) ∧ Gr r c g ∧ ∀ H', Same H H' → Q (.bl true) H'
theorem replicate_all (n : Nat) : (List.replicate n true).all id = true := by
  induction n with
  | zero => rfl
  | succ n ih => rw [List.replicate_succ, List.all_cons, ih]; rfl
theorem rep_bools (n : Nat) : List.replicate n (PyData.bool true) = (List.replicate n true).map PyData.bool := by rw [List.map_replicate]
theorem flat_const {α : Type} (d : α) (n m : Nat) : ((List.range n).flatMap fun _ => (List.range m).map fun _ => d) = List.replicate (n * m) d := by
  induction n with
  | zero => simp
  | succ n ih =>
    rw [List.range_succ, List.flatMap_append, ih, Nat.succ_mul, ← List.replicate_append_replicate]
    congr 1
    simp [List.map_const']
section
variable {P : Program} {w : PySem.World} {K : PySem.W.Frag} {mg : Str → Option Value} {base : Heap}
theorem ok_block {f : Addr} {fd : FuncData} (F : Fun K "is_block" "is_block" sBlock f fd) (G : Gb mg) (hW : Has P w K mg base 1 "is_whole" ["thing"] spWhole) : FnOk P w K mg base CX0 2 f fd ["thing", "most"] spBlock := by
  obtain ⟨fW, fdW, gW, kW, bW, oW⟩ := hW.ex
  refine F.ok scBlock (fun vs H Q E h => ?_) (fun cdv A outer s H vs Q E hr h => ?_)
  · obtain ⟨r, c, g, x, rfl, _⟩ := h
    rfl
  · obtain ⟨r, c, g, x, rfl, dx, gr, q⟩ := h
    have hu : (A.deeper (envOfC "is_block" (defScope sBlock) s.heap.objs.size f cdv)).units + 64 < cLine := by
      have := hr.un
      omega
    refine ⟨_, pss_cons (ps_if (PW.pt (pw_or (pt_not (pt_val (pe_callB call_isi (by rfl) G.isi b_isi (pa_cons (pv 0) (pa_cons (pe_tList (by rfl) G.list) pa_nil)))))
        (pw_or1 (pt_not (pt_val (pe_callB (cr_all rfl) (by rfl) G.all b_all (pa_cons (pe_lc (own := [("row", 2)]) (g := gName 2) (tt := tYes) rfl scBlock.nd (pi_list (pv 0)) (blkOk_by (N := ["thing", "most", "row", "one"]) (sc := defScope sBlock) (by decide +kernel))
          (fun _ _ _ _ _ => pg_name (i := 2) scBlock.nd rfl (Or.inl rfl)) (fun _ _ _ _ _ => pts_nil) (fun _ _ _ _ _ => pe_and (pe_callB (r := rIsi K) call_isi (by rfl) G.isi b_isi (pa_cons (pv 2) (pa_cons (pe_tList (by rfl) G.list) pa_nil))) (pe_one (pe_cmpR (r := rNeD K) (op_neD hu) (pv 2) (pe_lst pa_nil) (nomark _))))) pa_nil)))))))
        (pss_one (ps_ret pe_bl)) pss_nil)
      (pss_cons (ps_if (pt_cmpR op_ne (pe_callB cr_lenO (by rfl) G.len b_len (pa_cons (pe_sci (own := [("row", 2)]) (g := gName 2) rfl scBlock.nd (pi_list (pv 0)) (blkOk_by (N := ["thing", "most", "row", "one"]) (sc := defScope sBlock) (by decide +kernel))
          (fun _ _ _ _ _ => pg_name (i := 2) scBlock.nd rfl (Or.inl rfl)) (fun _ _ _ _ _ => pe_callB (r := rLen2 K) cr_len (by rfl) G.len b_len (pa_cons (pv 2) pa_nil))) pa_nil)) pe_int (nomark _))
        (pss_one (ps_ret pe_bl)) pss_nil)
      (pss_one (ps_ret (pe_callB (cr_all rfl) (by rfl) G.all b_all (pa_cons (pe_lc2 (own := [("row", 2), ("one", 3)]) (vs1 := [3]) (wi1 := iList K (tVar 2)) (g := gName 2) (g1 := gName 3) (tt := tYes) (tt1 := tYes) rfl scBlock.nd (pi_list (pv 0)) (blkOk_by (N := ["thing", "most", "row", "one"]) (sc := defScope sBlock) (by decide +kernel)) (by decide)
          (fun _ _ _ _ _ => pg_name (i := 2) scBlock.nd rfl (Or.inl rfl)) (fun _ _ _ _ _ => pts_nil) (fun _ _ _ _ _ => pi_list (pv 2)) (fun _ _ _ _ _ => pg_name (i := 3) scBlock.nd rfl (Or.inl rfl)) (fun _ _ _ _ _ => pts_nil)
          (fun _ _ _ _ _ => pe_and (pe_call oW hr (by rfl) gW kW bW .nil pass0 (pa_cons (pv 3) pa_nil)) (pe_and (pe_cmpR op_ge (pv 3) pe_int (nomark _)) (pe_one (pe_or (pe_cmp (pc_isN (pv 1)) rfl) (pe_one (pe_cmpR op_le (pv 3) (pv 1) (nomark _)))))))) pa_nil))))), ?_⟩
    obtain ⟨a, xs, rfl, ha, hlen, hrow⟩ := dx.grid
    have r0 := gr.r0
    have c0 := gr.c0
    have r6 := gr.r6
    have c6 := gr.c6
    refine ⟨_, rfl, _, _, _, _, _, rfl, .ty "list", .base (.lst ha), k_ll, true, rfl, iteF ?_⟩
    refine ⟨_, rfl, a, rfl, ⟨_, SqL.of ha⟩, fun D hD => ?_⟩
    have row_at : ∀ (i : Nat) (x : V) (H' : Hp), Same H H' → xs[i]? = some x → i < r ∧ ∃ b, x = .ref b ∧ H' b = some (.lst (((List.range c).map (g i)).map V.int)) := fun i x H' sm hx => by
      have hi : i < r := by
        have := (List.getElem?_eq_some_iff.mp hx).1
        omega
      obtain ⟨b, e1, e2⟩ := hrow i hi
      rw [hx] at e1
      exact ⟨hi, b, Option.some.inj e1, sm _ _ e2⟩
    -- all rows are lists and not empty
    refine lcD_list ha ((List.replicate r (PyData.bool true)).map some) (by simp [hlen]) (by simp only [List.length_map, List.length_replicate]; rw [sizeLine_eq]; omega) hD (fun i o x H' Kt Kf ho hx sm sm2 nD hn hs => ?_) (fun ys H' sm h1 h2 => ?_)
    · obtain ⟨hi, b, rfl, hb⟩ := row_at i x H' sm2 hx
      have eo : o = some (.bool true) := by
        rw [List.getElem?_map, List.getElem?_replicate, if_pos hi] at ho
        exact (Option.some.inj ho).symm
      refine ⟨rfl, ?_⟩
      refine ⟨_, rfl, _, _, _, _, _, rfl, .ty "list", .base (.lst hb), k_ll, true, rfl, iteT ?_⟩
      refine ⟨_, rfl, Nat.zero_le _, fun p np => ?_⟩
      refine ⟨_, _, (DT.ofRow (g := g i) ((same_new np) _ _ hb)).dp, (DT.lst upd_same .nil).dp, shaped_rowD _ _, shaped_nil, ?_⟩
      rw [eqv_row_nil _ c0]
      exact hs _ eo _ _ (same_new np) (.bl true)
    · rw [filterMap_some, rep_bools] at h2
      rw [DTs.toBls h2] at h1
      refine ⟨D, _, rfl, SqL.of h1, (List.replicate r true).all id, rfl, ?_⟩
      rw [replicate_all]
      refine iteF ?_
      -- all rows have one length
      have ha1 := sm _ _ ha
      refine ⟨_, rfl, a, rfl, ⟨_, SqL.of ha1⟩, fun D2 hD2 => ?_⟩
      refine sci_one (z := (c : Int)) hD2 ha1 (fun z => by rw [z] at hlen; simp at hlen; omega) (fun i x Hb P hx sb hP => ?_) (fun Hb sb hS => ?_)
      · obtain ⟨hi, b, rfl, hb⟩ := row_at i x Hb (sm.trans sb) hx
        refine ⟨rfl, ?_⟩
        refine ⟨_, rfl, b, _, rfl, .inl (SqL.of hb), ?_⟩
        rw [List.length_map, List.length_map, List.length_range]
        exact hP Hb (Same.refl _)
      · refine ⟨D2, _, 1, rfl, hS, rfl, _, rfl, iteF ?_⟩
        -- all numbers are right
        have sm2 := sm.trans sb
        have ha2 := sm2 _ _ ha
        refine ⟨_, rfl, a, rfl, ⟨_, SqL.of ha2⟩, fun D3 hD3 => ?_⟩
        refine lc2D r c (fun _ _ => PyData.bool true) (by rw [sizeLine_eq]; have : r * c ≤ 6 * 6 := Nat.mul_le_mul r6 c6; omega) hD3 (fun H' s3 => ⟨xs, SqL.of (hide_same _ _ (s3 _ _ ha2)), by omega⟩) (fun i H' hi s3 => ⟨xs, xs[i]'(by omega), SqL.of (hide_same _ _ (s3 _ _ ha2)), List.getElem?_eq_getElem _⟩) (fun i H' x H'' R hi s3 n3 hy hR => ?_) (fun ys H' s3 h1 h2 => ?_)
        · obtain ⟨rfl, hx⟩ := hy
          obtain ⟨_, b, rfl, hb⟩ := row_at i x H'' (sm2.trans (s3.trans hide_same)) (hx xs (SqL.of (hide_same _ _ (s3 _ _ ha2))))
          have nb : b ≠ D3 := by
            obtain ⟨b', e1, e2⟩ := hrow i hi
            have e3 := hx xs (SqL.of (hide_same _ _ (s3 _ _ ha2)))
            rw [e1] at e3
            cases e3
            exact ne_of_none (sm2 _ _ e2) hD3
          refine ⟨rfl, ?_⟩
          refine ⟨_, rfl, b, rfl, ⟨_, SqL.of hb⟩, hR _ _ _ ⟨Same.refl _, fun H5 s5 => ⟨_, SqL.of (hide_same _ _ (s5 _ _ (by rw [hide_ne nb]; exact hb))), by simp⟩, fun j H5 hj s5 => ⟨_, .int (g i j), SqL.of (hide_same _ _ (s5 _ _ (by rw [hide_ne nb]; exact hb))), by rw [List.getElem?_map, map_range_get hj]; rfl⟩, fun j H5 y H6 Kt hj s5 n5 hy5 hK => ?_⟩⟩
          obtain ⟨rfl, hy6⟩ := hy5
          have ey := hy6 _ (SqL.of (hide_same _ _ (s5 _ _ (by rw [hide_ne nb]; exact hb))))
          rw [List.getElem?_map, map_range_get hj] at ey
          obtain rfl : V.int (g i j) = y := Option.some.inj ey
          have lo := gr.lo i j hi hj
          have hi9 := gr.hi i j hi hj
          refine ⟨rfl, ?_⟩
          refine ⟨_, rfl, g i j, rfl, true, rfl, iteT ?_⟩
          refine ⟨_, rfl, _, _, rfl, rfl, true, congrArg V.bl (decide_eq_true lo), iteT ?_⟩
          refine ⟨_, rfl, false, rfl, ?_⟩
          refine iteF ⟨_, rfl, _, rfl, _, _, rfl, rfl, ?_⟩
          exact q_bl (Q := Kt) (decide_eq_true hi9) (hK _ _ (Same.refl _) (.bl true))
        · rw [flat_const, rep_bools] at h2
          rw [DTs.toBls h2] at h1
          refine ⟨D3, _, rfl, SqL.of h1, ?_⟩
          exact q_bl (Q := Q) (replicate_all _) (q _ (sm2.trans (s3.trans hide_same)))
end
end Cv

/-! Countveil walks 3: sheet_in, must_be_sheet. -/
namespace Cv
open PySem PySem.Spec PyProof.Rows L2
/-- the order of places -/
def Plt (p q : Pl) : Prop := p.1 < q.1 ∨ p.1 = q.1 ∧ p.2 < q.2
theorem lexLt_pl {p q : Pl} (h : Plt p q) : HT.lexLt [(p.1 : Int), (p.2 : Int)] [(q.1 : Int), (q.2 : Int)] = true := by
  rw [HT.lexLt_cons]
  rcases h with h | ⟨h1, h2⟩
  · rw [if_neg (by omega), decide_eq_true (by omega)]
  · rw [if_pos (by omega), HT.lexLt_cons, if_neg (by omega), decide_eq_true (by omega)]
structure Hid (r c : Nat) (h : List Pl) : Prop where
  mem : ∀ p, p ∈ h → p.1 < r ∧ p.2 < c
  rise : h.Pairwise Plt
theorem places_rise (c : Nat) : ∀ r, (places r c).Pairwise Plt
  | 0 => by simp [places]
  | r + 1 => by
    rw [places_succ, List.pairwise_append]
    refine ⟨places_rise c r, ?_, fun p hp q hq => ?_⟩
    · rw [List.pairwise_map]
      refine (List.pairwise_lt_range (n := c)).imp fun h => .inr ⟨rfl, h⟩
    · obtain ⟨k, _, rfl⟩ := List.mem_map.mp hq
      exact .inl (mem_places.mp hp).1
theorem Hid.of {r c : Nat} {h : List Pl} (s : h.Sublist (places r c)) : Hid r c h := ⟨fun p hp => mem_places.mp (s.subset hp), (places_rise c r).sublist s⟩
/-- a loop over enumerate(xs), xs a list that stays -/
theorem for_enum {K : PySem.W.Frag} {a : Addr} {xs : List V} {g : TG} {tb : TS} {D : Ends} {σ : L2.St} {H : Hp} (Pv : Nat → L2.St → Hp → Prop) (h0 : Pv 0 σ H) (hq : ∀ i σ H, Pv i σ H → H a = some (.lst xs))
    (hs : ∀ (i : Nat) (x : V) (T : Addr) (σ : L2.St) (H : Hp), xs[i]? = some x → Pv i σ H → H T = none → g (.ref T) σ (upd H T (.tup [.int (i : Nat), x])) fun σ2 H2 => tb { D with nx := Pv (i + 1), ct := Pv (i + 1), bk := D.nx } σ2 H2) (hd : ∀ σ H, Pv xs.length σ H → D.nx σ H) :
    ∃ W : Nat → Nat → L2.St → Hp → Prop, (∃ m, W 0 m σ H) ∧ ∀ i m σ H, W i m σ H →
      ((Ite K a).stop i H ∧ D.nx σ H) ∨ ((Ite K a).go i H ∧ ∃ N : L2.St → Hp → Prop, (∀ σ' H', N σ' H' → ∃ m', m' < m ∧ W (i + 1) m' σ' H') ∧ ∀ x H', (Ite K a).yld i H x H' → g x σ H' fun σ2 H2 => tb { D with nx := N, ct := N, bk := D.nx } σ2 H2) := by
  refine ⟨fun i m σ H => i + m = xs.length ∧ Pv i σ H, ⟨xs.length, Nat.zero_add _, h0⟩, fun i m σ H ⟨em, p⟩ => ?_⟩
  have hA := hq i σ H p
  by_cases hi : i < xs.length
  · refine .inr ⟨⟨xs, xs[i], SqL.of hA, List.getElem?_eq_getElem hi⟩, Pv (i + 1), fun σ' H' p' => ⟨m - 1, by omega, by omega, p'⟩, fun v H' ⟨T, x, ev, nT, eH, hx⟩ => ?_⟩
    rw [ev, eH]
    exact hs i x T σ H (hx xs (SqL.of hA)) p nT
  · have e : i = xs.length := by omega
    subst e
    exact .inl ⟨⟨xs, SqL.of hA, Nat.le_refl _⟩, hd σ H p⟩
abbrev sSheetIn : Stmt := topS 11
abbrev sMustSheet : Stmt := topS 13
theorem scSheetIn : FnScope ["thing", "cells", "hidden", "n", "place", "one"] ["thing"] (defScope sSheetIn) := ⟨rfl, rfl, rfl, by decide +kernel, rfl, by decide +kernel, by decide +kernel⟩
theorem scMustSheet : FnScope ["sheet", "wrong"] ["sheet"] (defScope sMustSheet) := ⟨rfl, rfl, rfl, by decide +kernel, rfl, by decide +kernel, by decide +kernel⟩
def spSheetIn : Sp := fun vs H Q _ => ∃ (r c : Nat) (g : Mat) (h : List Pl) (x : V), vs = [x] ∧ DT H x (sheetD r c g h) ∧ Gr r c g ∧ Hid r c h ∧ ∀ H', Same H H' → Q .non H'
section
variable {P : Program} {w : PySem.World} {K : PySem.W.Frag} {mg : Str → Option Value} {base : Heap}
theorem ok_sheetIn {f : Addr} {fd : FuncData} (F : Fun K "sheet_in" "sheet_in" sSheetIn f fd) (G : Gb mg) (hB : Has P w K mg base 2 "is_block" ["thing", "most"] spBlock) (hP : Has P w K mg base 2 "is_place" ["cells", "thing"] spPlace) :
    FnOk P w K mg base CX0 3 f fd ["thing"] spSheetIn := by
  obtain ⟨fB, fdB, gB, kB, bB, oB⟩ := hB.ex
  obtain ⟨fP, fdP, gP, kP, bP, oP⟩ := hP.ex
  obtain ⟨tc, gc⟩ := G.cell
  obtain ⟨ts, gs⟩ := G.side
  refine F.ok scSheetIn (fun vs H Q E h => ?_) (fun cdv A outer s H vs Q E hr h => ?_)
  · obtain ⟨r, c, g, h, x, rfl, _⟩ := h
    rfl
  · obtain ⟨r, c, g, h, x, rfl, dx, gr, hh, q⟩ := h
    have hu : (A.deeper (envOfC "sheet_in" (defScope sSheetIn) s.heap.objs.size f cdv)).units < cLine := by
      have := hr.un
      omega
    refine ⟨_, pss_cons (ps_if (PW.pt (pw_or (pt_not (pt_val (pe_callB call_isi (by rfl) G.isi b_isi (pa_cons (pv 0) (pa_cons (pe_tTuple (by rfl) G.tuple) pa_nil)))))
        (pw_or (pt_cmpR op_ne (pe_callB cr_len (by rfl) G.len b_len (pa_cons (pv 0) pa_nil)) pe_int (nomark _))
        (pw_or1 (pt_not (pt_val (pe_callB (cr_all rfl) (by rfl) G.all b_all (pa_cons (pe_lc (own := [("one", 5)]) (g := gName 5) (tt := tYes) rfl scSheetIn.nd (pi_tup (pv 0)) (blkOk_by (N := ["thing", "cells", "hidden", "n", "place", "one"]) (sc := defScope sSheetIn) (by decide +kernel))
          (fun _ _ _ _ _ => pg_name (i := 5) scSheetIn.nd rfl (Or.inl rfl)) (fun _ _ _ _ _ => pts_nil) (fun _ _ _ _ _ => pe_callB (r := rIsi K) call_isi (by rfl) G.isi b_isi (pa_cons (pv 5) (pa_cons (pe_tList (by rfl) G.list) pa_nil)))) pa_nil))))))))
        (pss_one (ps_ret (pe_tup (pa_cons pe_str pa_nil)))) pss_nil)
      (pss_cons (ps_asg (pv 0) (pg_tup rfl (pgs_cons (pg_name (i := 1) scSheetIn.nd rfl (.inl rfl)) (pgs_cons (pg_name (i := 2) scSheetIn.nd rfl (.inl rfl)) pgs_nil))))
      (pss_cons (ps_if (PW.pt (pw_or (pt_not (pt_val (pe_call oB hr (by rfl) gB kB bB .nil pass0 (pa_cons (pv 1) (pa_cons (pe_glob (v := .int (10 ^ 9)) (by rfl) gc ⟨_, rfl⟩) pa_nil)))))
        (pw_or (pt_cmpR op_gt (pe_callB cr_len (by rfl) G.len b_len (pa_cons (pv 1) pa_nil)) (pe_glob (v := .int 6) (by rfl) gs ⟨_, rfl⟩) (nomark _))
        (pw_or1 (pt_cmpR op_gt (pe_callB cr_len (by rfl) G.len b_len (pa_cons (pe_ix ix_list (pv 1) pe_int (fun _ _ => rfl)) pa_nil)) (pe_glob (v := .int 6) (by rfl) gs ⟨_, rfl⟩) (nomark _))))))
        (pss_one (ps_ret (pe_tup (pa_cons pe_str pa_nil)))) pss_nil)
      (pss_cons (ps_for PassesOwn.never rfl (pi_enum (by rfl) G.enum (pa_cons (pv 2) pa_nil)) (pg_tup rfl (pgs_cons (pg_name (i := 3) scSheetIn.nd rfl (.inl rfl)) (pgs_cons (pg_name (i := 4) scSheetIn.nd rfl (.inl rfl)) pgs_nil)))
        (pss_one (ps_if (PW.pt (pw_or (pt_not (pt_val (pe_call oP hr (by rfl) gP kP bP .nil pass0 (pa_cons (pv 1) (pa_cons (pv 4) pa_nil)))))
          (pw_or1 (PW.pt (pw_and (pt_cmpR op_gt (pv 3) pe_int (nomark _)) (pw_and1 (pt_not (pt_cmpR (op_ltT hu) (pe_ix ix_list (pv 2) (pe_op op_sub (pv 3) pe_int) (fun _ _ => rfl)) (pv 4) (nomark _)))))))))
          (pss_one (ps_ret (pe_tup (pa_cons pe_str (pa_cons (pv 3) pa_nil))))) pss_nil)))
      (pss_one (ps_ret pe_non))))), ?_⟩
    obtain ⟨a, y, z, rfl, ha, dy, dz⟩ := dx.sheet
    obtain ⟨b, xs, rfl, hb, hlen, hrow⟩ := id dy.grid
    obtain ⟨e, zs, rfl, he, hzl, _, hzs⟩ := id (DT.list (f := pD) dz)
    refine ⟨_, rfl, _, _, _, _, _, rfl, .ty "tuple", .base (.tup ha), k_tt, true, rfl, iteF ?_⟩
    refine ⟨_, rfl, _, _, rfl, .inr (SqT.of ha), rfl, _, rfl, iteF ?_⟩
    refine ⟨_, rfl, a, rfl, ⟨_, SqT.of ha⟩, fun D hD => ?_⟩
    refine lcD_tup ha [some (.bool true), some (.bool true)] rfl (by decide) hD (fun i o x H' Kt Kf ho hx sm sm2 nD hn hs => ?_) (fun ys H' sm h1 h2 => ?_)
    · have : ∃ (p : Addr) (us : List V), x = .ref p ∧ H' p = some (.lst us) := by
        match i, hx with
        | 0, hx => exact ⟨_, _, (Option.some.inj hx).symm, sm2 _ _ hb⟩
        | 1, hx => exact ⟨_, _, (Option.some.inj hx).symm, sm2 _ _ he⟩
      obtain ⟨p, us, rfl, hp⟩ := this
      have eo : o = some (.bool true) := by
        match i, ho with
        | 0, ho => exact (Option.some.inj ho).symm
        | 1, ho => exact (Option.some.inj ho).symm
      refine ⟨rfl, ?_⟩
      refine ⟨_, rfl, _, _, _, _, _, rfl, .ty "list", .base (.lst hp), k_ll, ?_⟩
      exact hs _ eo _ H' (Same.refl _) (.bl true)
    · have e1 : ys = [true, true].map V.bl := DTs.toBls h2
      rw [e1] at h1
      refine ⟨D, [true, true], rfl, SqL.of h1, true, rfl, iteF ?_⟩
      -- cells, hidden = thing
      refine ⟨_, rfl, a, _, rfl, SqT.of (sm _ _ ha), rfl, _, _, rfl, _, _, rfl, rfl, ?_⟩
      refine ⟨_, rfl, r, c, g, _, rfl, dy.same sm, gr, fun H2 s2 => ⟨true, rfl, iteF ?_⟩⟩
      have sm2 := sm.trans s2
      have r0 := gr.r0
      have c0 := gr.c0
      have r6 := gr.r6
      have c6 := gr.c6
      obtain ⟨b0, e0, h0⟩ := hrow 0 r0
      refine ⟨_, rfl, _, _, rfl, .inl (SqL.of (sm2 _ _ hb)), _, _, rfl, rfl, false, congrArg V.bl (decide_eq_false (by omega)), iteF ?_⟩
      refine ⟨_, rfl, b, _, _, _, rfl, rfl, SqL.of (sm2 _ _ hb), atI_nat (j := 0) e0, _, _, rfl, .inl (SqL.of (sm2 _ _ h0)), _, _, rfl, rfl, false, congrArg V.bl (decide_eq_false (by rw [List.length_map, List.length_map, List.length_range]; omega)), iteF ?_⟩
      -- the places
      refine ⟨_, rfl, e, _, rfl, SqL.of (sm2 _ _ he), ?_⟩
      refine for_enum (K := K) (a := e) (xs := zs) (fun i σ H3 => ∃ u v w, σ = [some (.ref a), some (.ref b), some (.ref e), u, v, w] ∧ Same H H3) ⟨_, _, _, rfl, sm2⟩ (fun i σ H3 ⟨_, _, _, _, s3⟩ => s3 _ _ he) (fun i x T σ H3 hx hP nT => ?_) (fun σ H3 hP => ?_)
      · obtain ⟨u, v, w, rfl, s3⟩ := hP
        have hi : i < h.length := by
          have := (List.getElem?_eq_some_iff.mp hx).1
          omega
        have eh : h[i]? = some h[i] := List.getElem?_eq_getElem hi
        have s4 := s3.trans (same_new (o := .tup [.int (i : Nat), x]) nT)
        obtain ⟨x', ex', dx'⟩ := hzs i _ eh
        rw [hx] at ex'
        cases ex'
        have hm := hh.mem _ (List.getElem_mem hi)
        refine ⟨T, _, rfl, SqT.of upd_same, rfl, _, _, rfl, _, _, rfl, rfl, ?_⟩
        refine ⟨_, rfl, _, rfl, r, c, g, h[i], _, _, rfl, dy.same s4, dx'.same s4, hm.1, hm.2, fun H5 s5 => ⟨true, rfl, iteF ?_⟩⟩
        have s6 := s4.trans s5
        refine ⟨_, rfl, _, _, rfl, rfl, _, rfl, ?_⟩
        by_cases hi0 : i = 0
        · subst hi0
          exact ⟨_, _, _, rfl, s6⟩
        · have hpos : decide ((0 : Int) < ((i : Nat) : Int)) = true := decide_eq_true (by omega)
          refine (show ∀ {A B : Prop}, A → (if decide ((0 : Int) < ((i : Nat) : Int)) = true then A else B) from fun a => by rw [if_pos hpos]; exact a) ?_
          have hj : i - 1 < h.length := by omega
          obtain ⟨y', ey', dy'⟩ := hzs (i - 1) h[i - 1] (List.getElem?_eq_getElem hj)
          obtain ⟨p1, rfl, hp1⟩ := dy'.pair
          obtain ⟨p2, rfl, hp2⟩ := dx'.pair
          have lt : Plt h[i - 1] h[i] := (List.pairwise_iff_getElem.mp hh.rise) (i - 1) i hj hi (by omega)
          refine ⟨_, rfl, _, rfl, _, _, rfl, rfl, e, _, _, _, rfl, rfl, SqL.of (s6 _ _ he), at_of (j := i - 1) (by omega) ey', _, rfl, p1, p2, [(h[i - 1].1 : Int), (h[i - 1].2 : Int)], [(h[i].1 : Int), (h[i].2 : Int)], rfl, rfl, SqT.of (s6 _ _ hp1), SqT.of (s6 _ _ hp2), true, congrArg V.bl (lexLt_pl lt), ?_⟩
          exact ⟨_, _, _, rfl, s6⟩
      · obtain ⟨u, v, w, rfl, s3⟩ := hP
        exact q _ s3
theorem ok_mustSheet {f : Addr} {fd : FuncData} (F : Fun K "must_be_sheet" "must_be_sheet" sMustSheet f fd) (hS : Has P w K mg base 3 "sheet_in" ["thing"] spSheetIn) : FnOk P w K mg base CX0 4 f fd ["sheet"] spSheetIn := by
  obtain ⟨fS, fdS, gS, kS, bS, oS⟩ := hS.ex
  refine F.ok scMustSheet (fun vs H Q E h => ?_) (fun cdv A outer s H vs Q E hr h => ?_)
  · obtain ⟨r, c, g, h, x, rfl, _⟩ := h
    rfl
  · obtain ⟨r, c, g, h, x, rfl, dx, gr, hh, q⟩ := h
    refine ⟨_, pss_cons (ps_set (i := 1) scMustSheet.nd rfl (.inl rfl) (pe_call oS hr (by rfl) gS kS bS .nil pass0 (pa_cons (pv 0) pa_nil)))
      (pss_one (ps_if (pt_cmp (pc_notN (pv 1))) pss_never pss_nil)), ?_⟩
    refine ⟨_, rfl, r, c, g, h, x, rfl, dx, gr, hh, fun H2 s2 => ?_⟩
    refine ⟨_, rfl, _, rfl, iteF ?_⟩
    exact q _ s2
end
end Cv

/-! Countveil walks 4: is_guard, are_guards, must_be_guarded, must_be_asked, must_be_cells. -/
namespace Cv
open PySem PySem.Spec PyProof.Rows L2
structure GdOk (r c : Nat) (q : Gd) : Prop where
  i : q.1 < r
  k : q.2.1 < c
  b : 0 ≤ q.2.2.1
  a : 0 ≤ q.2.2.2
  s : 0 < q.2.2.1 + q.2.2.2
structure GdsOk (r c : Nat) (gs : List Gd) : Prop where
  len : gs.length ≤ 8
  ok : ∀ q, q ∈ gs → GdOk r c q
  rise : gs.Pairwise fun p q => Plt (p.1, p.2.1) (q.1, q.2.1)
theorem cut2 (a b c d : V) : cutV [a, b, c, d] none (some 2) = [a, b] := rfl
theorem cut2b (a b c d : V) : cutV [a, b, c, d] (some 2) none = [c, d] := rfl
theorem cut_ne (a b c d : V) : ¬ (HT.sIx [a, b, c, d].length 0 none = 0 ∧ HT.sIx [a, b, c, d].length [a, b, c, d].length (some 2) = [a, b, c, d].length) := by
  show ¬ (0 = 0 ∧ 2 = 4)
  decide
theorem cut_ne2 (a b c d : V) : ¬ (HT.sIx [a, b, c, d].length 0 (some 2) = 0 ∧ HT.sIx [a, b, c, d].length [a, b, c, d].length none = [a, b, c, d].length) := by
  show ¬ (2 = 0 ∧ 4 = 4)
  decide
theorem cut_tail (xs : List V) : cutV xs (some 1) none = xs.drop 1 := by
  unfold cutV
  rw [show HT.sIx xs.length 0 (some 1) = min 1 xs.length from HT.sIx_nat xs.length 0 1, HT.sIx_none]
  cases xs with
  | nil => rfl
  | cons x r =>
    rw [show min 1 (x :: r).length = 1 by rw [List.length_cons]; omega]
    show List.take ((x :: r).length - 1) r = r
    rw [List.length_cons, Nat.add_sub_cancel, List.take_length]
abbrev sGuard : Stmt := topS 19
abbrev sGuards : Stmt := topS 20
abbrev sMustG : Stmt := topS 21
abbrev sMustAsk : Stmt := topS 25
abbrev sMustCells : Stmt := topS 28
theorem scGuard : FnScope ["cells", "thing", "one"] ["cells", "thing"] (defScope sGuard) := ⟨rfl, rfl, rfl, by decide +kernel, rfl, by decide +kernel, by decide +kernel⟩
theorem scGuards : FnScope ["cells", "thing", "one", "other"] ["cells", "thing"] (defScope sGuards) := ⟨rfl, rfl, rfl, by decide +kernel, rfl, by decide +kernel, by decide +kernel⟩
theorem scMustG : FnScope ["cells", "guards"] ["cells", "guards"] (defScope sMustG) := ⟨rfl, rfl, rfl, by decide +kernel, rfl, by decide +kernel, by decide +kernel⟩
theorem scMustAsk : FnScope ["sheet", "guards"] ["sheet", "guards"] (defScope sMustAsk) := ⟨rfl, rfl, rfl, by decide +kernel, rfl, by decide +kernel, by decide +kernel⟩
theorem scMustCells : FnScope ["cells", "guards", "wrong"] ["cells", "guards"] (defScope sMustCells) := ⟨rfl, rfl, rfl, by decide +kernel, rfl, by decide +kernel, by decide +kernel⟩
def spGuard : Sp := fun vs H Q _ => ∃ (r c : Nat) (g : Mat) (q : Gd) (x y : V), vs = [x, y] ∧ DT H x (gridD r c g) ∧ DT H y (gdD q) ∧ GdOk r c q ∧ ∀ H', Same H H' → Q (.bl true) H'
def spGuards : Sp := fun vs H Q _ => ∃ (r c : Nat) (g : Mat) (gs : List Gd) (x y : V), vs = [x, y] ∧ DT H x (gridD r c g) ∧ DT H y (gdsD gs) ∧ GdsOk r c gs ∧ ∀ H', Same H H' → Q (.bl true) H'
def spMustG : Sp := fun vs H Q _ => ∃ (r c : Nat) (g : Mat) (gs : List Gd) (x y : V), vs = [x, y] ∧ DT H x (gridD r c g) ∧ DT H y (gdsD gs) ∧ GdsOk r c gs ∧ ∀ H', Same H H' → Q .non H'
def spMustAsk : Sp := fun vs H Q _ => ∃ (r c : Nat) (g : Mat) (h : List Pl) (gs : List Gd) (x y : V), vs = [x, y] ∧ DT H x (sheetD r c g h) ∧ DT H y (gdsD gs) ∧ Gr r c g ∧ Hid r c h ∧ GdsOk r c gs ∧ ∀ H', Same H H' → Q .non H'
def spMustCells : Sp := fun vs H Q _ => ∃ (r c : Nat) (g : Mat) (gs : List Gd) (x y : V), vs = [x, y] ∧ DT H x (gridD r c g) ∧ DT H y (gdsD gs) ∧ Gr r c g ∧ GdsOk r c gs ∧ ∀ H', Same H H' → Q .non H'
section
variable {P : Program} {w : PySem.World} {K : PySem.W.Frag} {mg : Str → Option Value} {base : Heap}
theorem ok_guard {f : Addr} {fd : FuncData} (F : Fun K "is_guard" "is_guard" sGuard f fd) (G : Gb mg) (hW : Has P w K mg base 1 "is_whole" ["thing"] spWhole) (hP : Has P w K mg base 2 "is_place" ["cells", "thing"] spPlace) : FnOk P w K mg base CX0 3 f fd ["cells", "thing"] spGuard := by
  obtain ⟨fW, fdW, gW, kW, bW, oW⟩ := hW.ex
  obtain ⟨fP, fdP, gP, kP, bP, oP⟩ := hP.ex
  refine F.ok scGuard (fun vs H Q E h => ?_) (fun cdv A outer s H vs Q E hr h => ?_)
  · obtain ⟨r, c, g, q, x, y, rfl, _⟩ := h
    rfl
  · obtain ⟨r, c, g, gd, x, y, rfl, dx, dy, ok, q⟩ := h
    refine ⟨_, pss_cons (ps_if (PW.pt (pw_or (pt_not (pt_val (pe_callB call_isi (by rfl) G.isi b_isi (pa_cons (pv 1) (pa_cons (pe_tTuple (by rfl) G.tuple) pa_nil)))))
        (pw_or (pt_cmpR op_ne (pe_callB cr_len (by rfl) G.len b_len (pa_cons (pv 1) pa_nil)) pe_int (nomark _))
        (pw_or1 (pt_not (pt_val (pe_call oP hr (by rfl) gP kP bP .nil pass0 (pa_cons (pv 0) (pa_cons (pe_slice sl_tup (pv 1) po_none (po_some pe_int)) pa_nil)))))))))
        (pss_one (ps_ret pe_bl)) pss_nil)
      (pss_cons (ps_if (pt_not (pt_val (pe_callB (cr_all rfl) (by rfl) G.all b_all (pa_cons (pe_lc (own := [("one", 2)]) (g := gName 2) (tt := tYes) rfl scGuard.nd (pi_tup (pe_slice sl_tup (pv 1) (po_some pe_int) po_none)) (blkOk_by (N := ["cells", "thing", "one"]) (sc := defScope sGuard) (by decide +kernel))
          (fun _ _ _ _ _ => pg_name (i := 2) scGuard.nd rfl (Or.inl rfl)) (fun _ _ _ _ _ => pts_nil) (fun _ _ _ _ _ => pe_and (pe_call oW (hr.mono (by decide)) (by rfl) gW kW bW .nil pass0 (pa_cons (pv 2) pa_nil)) (pe_one (pe_cmpR op_ge (pv 2) pe_int (nomark _))))) pa_nil))))
        (pss_one (ps_ret pe_bl)) pss_nil)
      (pss_one (ps_ret (pe_cmpR op_gt (pe_op op_add (pe_ix ix_tup (pv 1) pe_int (fun _ _ => rfl)) (pe_ix ix_tup (pv 1) pe_int (fun _ _ => rfl))) pe_int (nomark _))))), ?_⟩
    obtain ⟨a, rfl, ha⟩ := dy.guard
    refine ⟨_, rfl, _, _, _, _, _, rfl, .ty "tuple", .base (.tup ha), k_tt, true, rfl, iteF ?_⟩
    refine ⟨_, rfl, _, _, rfl, .inr (SqT.of ha), rfl, _, rfl, iteF ?_⟩
    refine ⟨_, rfl, _, rfl, 2, rfl, a, _, rfl, SqT.of ha, cut_ne _ _ _ _, fun p np => ?_⟩
    rw [cut2]
    have s1 := same_new (o := .tup [V.int (gd.1 : Nat), V.int (gd.2.1 : Nat)]) np
    refine ⟨r, c, g, (gd.1, gd.2.1), _, _, rfl, dx.same s1, DT.ofPair upd_same, ok.i, ok.k, fun H2 s2 => ⟨true, rfl, iteF ?_⟩⟩
    have s3 := s1.trans s2
    refine ⟨_, rfl, 2, rfl, a, _, rfl, SqT.of (s3 _ _ ha), cut_ne2 _ _ _ _, fun p2 np2 => ?_⟩
    rw [cut2b]
    refine ⟨p2, rfl, ⟨_, SqT.of upd_same⟩, fun D hD => ?_⟩
    have s4 := s3.trans (same_new (o := .tup [V.int gd.2.2.1, V.int gd.2.2.2]) np2)
    refine lcD_tup upd_same [some (.bool true), some (.bool true)] rfl (by decide) hD (fun i o x H' Kt Kf ho hx sm sm2 nD hn hs => ?_) (fun ys H' sm h1 h2 => ?_)
    · have : ∃ z : Int, x = .int z ∧ 0 ≤ z := by
        match i, hx with
        | 0, hx => exact ⟨_, (Option.some.inj hx).symm, ok.b⟩
        | 1, hx => exact ⟨_, (Option.some.inj hx).symm, ok.a⟩
      obtain ⟨z, rfl, hz⟩ := this
      have eo : o = some (.bool true) := by
        match i, ho with
        | 0, ho => exact (Option.some.inj ho).symm
        | 1, ho => exact (Option.some.inj ho).symm
      refine ⟨rfl, ?_⟩
      refine ⟨_, rfl, z, rfl, true, rfl, iteT ?_⟩
      refine ⟨_, rfl, _, _, rfl, rfl, ?_⟩
      exact q_bl (Q := Kt) (decide_eq_true hz) (hs _ eo _ H' (Same.refl _) (.bl true))
    · have e1 : ys = [true, true].map V.bl := DTs.toBls h2
      rw [e1] at h1
      refine ⟨D, [true, true], rfl, SqL.of h1, true, rfl, iteF ?_⟩
      have s5 := s4.trans sm
      refine ⟨_, rfl, a, _, _, _, rfl, rfl, SqT.of (s5 _ _ ha), atI_nat (j := 2) rfl, _, rfl, a, _, _, _, rfl, rfl, SqT.of (s5 _ _ ha), atI_nat (j := 3) rfl, _, _, rfl, rfl, _, _, rfl, rfl, ?_⟩
      exact q_bl (Q := Q) (decide_eq_true ok.s) (q _ s5)
theorem ok_guards {f : Addr} {fd : FuncData} (F : Fun K "are_guards" "are_guards" sGuards f fd) (G : Gb mg) (hG : Has P w K mg base 3 "is_guard" ["cells", "thing"] spGuard) : FnOk P w K mg base CX0 4 f fd ["cells", "thing"] spGuards := by
  obtain ⟨fG, fdG, gG, kG, bG, oG⟩ := hG.ex
  obtain ⟨tg, gg⟩ := G.guards
  refine F.ok scGuards (fun vs H Q E h => ?_) (fun cdv A outer s H vs Q E hr h => ?_)
  · obtain ⟨r, c, g, gs, x, y, rfl, _⟩ := h
    rfl
  · obtain ⟨r, c, g, gs, x, y, rfl, dx, dy, ok, q⟩ := h
    have hu : (A.deeper (envOfC "are_guards" (defScope sGuards) s.heap.objs.size f cdv)).units < cLine := by
      have := hr.un
      omega
    refine ⟨_, pss_cons (ps_if (PW.pt (pw_or (pt_not (pt_val (pe_callB call_isi (by rfl) G.isi b_isi (pa_cons (pv 1) (pa_cons (pe_tList (by rfl) G.list) pa_nil)))))
        (pw_or (pt_cmpR op_gt (pe_callB cr_len (by rfl) G.len b_len (pa_cons (pv 1) pa_nil)) (pe_glob (v := .int 8) (by rfl) gg ⟨_, rfl⟩) (nomark _))
        (pw_or1 (pt_not (pt_val (pe_callB (cr_all rfl) (by rfl) G.all b_all (pa_cons (pe_lc (own := [("one", 2)]) (g := gName 2) (tt := tYes) rfl scGuards.nd (pi_list (pv 1)) (blkOk_by (N := ["cells", "thing", "one", "other"]) (sc := defScope sGuards) (by decide +kernel))
          (fun _ _ _ _ _ => pg_name (i := 2) scGuards.nd rfl (Or.inl rfl)) (fun _ _ _ _ _ => pts_nil) (fun _ _ _ _ _ => pe_call oG hr (by rfl) gG kG bG .nil pass0 (pa_cons (pv 0) (pa_cons (pv 2) pa_nil)))) pa_nil))))))))
        (pss_one (ps_ret pe_bl)) pss_nil)
      (pss_one (ps_ret (pe_callB (cr_all rfl) (by rfl) G.all b_all (pa_cons (pe_lc (own := [("one", 2), ("other", 3)]) (g := gTup K 2 (gCons (gName 2) (gCons (gName 3) gNil))) (tt := tYes) rfl scGuards.nd (pi_zip (by rfl) G.zip (pa_cons (pv 1) (pa_cons (pe_slice sl_list (pv 1) (po_some pe_int) po_none) pa_nil))) (blkOk_by (N := ["cells", "thing", "one", "other"]) (sc := defScope sGuards) (by decide +kernel))
          (fun _ _ _ _ _ => pg_tup rfl (pgs_cons (pg_name (i := 2) scGuards.nd rfl (Or.inl rfl)) (pgs_cons (pg_name (i := 3) scGuards.nd rfl (Or.inl rfl)) pgs_nil))) (fun _ _ _ _ _ => pts_nil)
          (fun _ _ _ _ _ => pe_cmpR (r := rLtT K) (op_ltT hu) (pe_slice (r := rSlT K) sl_tup (pv 2) po_none (po_some pe_int)) (pe_slice (r := rSlT K) sl_tup (pv 3) po_none (po_some pe_int)) (nomark _))) pa_nil)))), ?_⟩
    obtain ⟨a, xs, rfl, ha, hlen, hxs, hat⟩ := id (DT.list (f := gdD) dy)
    have l8 := ok.len
    refine ⟨_, rfl, _, _, _, _, _, rfl, .ty "list", .base (.lst ha), k_ll, true, rfl, iteF ?_⟩
    refine ⟨_, rfl, _, _, rfl, .inl (SqL.of ha), _, _, rfl, rfl, false, congrArg V.bl (decide_eq_false (by omega)), iteF ?_⟩
    refine ⟨_, rfl, a, rfl, ⟨_, SqL.of ha⟩, fun D hD => ?_⟩
    have rep : ∀ (n i : Nat) (o : Option PyData), ((List.replicate n (PyData.bool true)).map some)[i]? = some o → o = some (.bool true) := fun n i o ho => by
      rw [List.getElem?_map, List.getElem?_replicate] at ho
      by_cases hi : i < n
      · rw [if_pos hi] at ho
        exact (Option.some.inj ho).symm
      · rw [if_neg hi] at ho
        cases ho
    refine lcD_list ha ((List.replicate gs.length (PyData.bool true)).map some) (by simp [hlen]) (by simp only [List.length_map, List.length_replicate]; rw [sizeLine_eq]; omega) hD (fun i o x H' Kt Kf ho hx sm sm2 nD hn hs => ?_) (fun ys H' sm h1 h2 => ?_)
    · have hi : i < gs.length := by
        have := (List.getElem?_eq_some_iff.mp hx).1
        omega
      obtain ⟨x', e1, e2⟩ := hat i gs[i] (List.getElem?_eq_getElem hi)
      rw [hx] at e1
      cases e1
      refine ⟨rfl, ?_⟩
      refine ⟨_, rfl, _, rfl, r, c, g, gs[i], _, _, rfl, dx.same sm2, e2.same sm2, ok.ok _ (List.getElem_mem hi), fun H2 s2 => ?_⟩
      exact hs _ (rep _ _ _ ho) _ _ s2 (.bl true)
    · rw [filterMap_some, rep_bools] at h2
      rw [DTs.toBls h2] at h1
      refine ⟨D, _, rfl, SqL.of h1, (List.replicate gs.length true).all id, rfl, ?_⟩
      rw [replicate_all]
      refine iteF ?_
      -- zip(thing, thing[1:])
      have ha1 := sm _ _ ha
      refine ⟨_, rfl, _, rfl, 1, rfl, a, xs, rfl, SqL.of ha1, fun b nb => ?_⟩
      rw [cut_tail]
      have sb := sm.trans (same_new (o := .lst (xs.drop 1)) nb)
      have ha2 := sb _ _ ha
      refine ⟨a, b, xs, _, rfl, SqL.of ha2, SqL.of upd_same, fun D2 hD2 => ?_⟩
      have hb2 : (upd H' b (.lst (xs.drop 1))) b = some (.lst (xs.drop 1)) := upd_same
      have hdl : (xs.drop 1).length = gs.length - 1 := by rw [List.length_drop, hlen]
      refine lcD (J := Itz K a b) ((List.replicate (gs.length - 1) (PyData.bool true)).map some) (by simp only [List.length_map, List.length_replicate]; rw [sizeLine_eq]; omega) hD2 (fun H3 s3 => ⟨xs, _, SqL.of (hide_same _ _ (s3 _ _ ha2)), SqL.of (hide_same _ _ (s3 _ _ hb2)), .inr (by simp only [List.length_map, List.length_replicate]; omega)⟩) (fun i H3 hi s3 => ?_) (fun i o H3 v H4 Kt Kf ho s3 n3 hy hn hs => ?_) (fun ys H3 s3 h1 h2 => ?_)
      · simp only [List.length_map, List.length_replicate] at hi
        exact ⟨xs, _, _, _, SqL.of (hide_same _ _ (s3 _ _ ha2)), SqL.of (hide_same _ _ (s3 _ _ hb2)), List.getElem?_eq_getElem (by omega), List.getElem?_eq_getElem (by omega)⟩
      · obtain ⟨T, u, v', rfl, nT, rfl, hx, hy⟩ := hy
        have hi : i < gs.length - 1 := by
          have := (List.getElem?_eq_some_iff.mp ho).1
          simpa using this
        have ex := hx xs (SqL.of (hide_same _ _ (s3 _ _ ha2)))
        have ey := hy _ (SqL.of (hide_same _ _ (s3 _ _ hb2)))
        rw [List.getElem?_drop] at ey
        obtain ⟨x1, f1, d1⟩ := hat i gs[i] (List.getElem?_eq_getElem (by omega))
        obtain ⟨x2, f2, d2⟩ := hat (1 + i) gs[1 + i] (List.getElem?_eq_getElem (by omega))
        rw [f1] at ex
        rw [f2] at ey
        cases ex
        cases ey
        have sT := same_new (o := .tup [u, v']) nT
        have st : Same H _ := (sb.trans (s3.trans hide_same)).trans sT
        obtain ⟨p1, rfl, hp1⟩ := (d1.same st).guard
        obtain ⟨p2, rfl, hp2⟩ := (d2.same st).guard
        have lt : Plt (gs[i].1, gs[i].2.1) (gs[1 + i].1, gs[1 + i].2.1) := (List.pairwise_iff_getElem.mp ok.rise) i (1 + i) (by omega) (by omega) (by omega)
        refine ⟨T, _, rfl, SqT.of upd_same, rfl, _, _, rfl, _, _, rfl, rfl, rfl, ?_⟩
        refine ⟨_, rfl, 2, rfl, p1, _, rfl, SqT.of hp1, cut_ne _ _ _ _, fun m1 nm1 => ?_⟩
        rw [cut2]
        have s5 := same_new (o := .tup [V.int (gs[i].1 : Nat), V.int (gs[i].2.1 : Nat)]) nm1
        refine ⟨_, rfl, 2, rfl, p2, _, rfl, SqT.of (s5 _ _ hp2), cut_ne _ _ _ _, fun m2 nm2 => ?_⟩
        rw [cut2]
        have s6 := same_new (o := .tup [V.int (gs[1 + i].1 : Nat), V.int (gs[1 + i].2.1 : Nat)]) nm2
        refine ⟨m1, m2, [(gs[i].1 : Int), (gs[i].2.1 : Int)], [(gs[1 + i].1 : Int), (gs[1 + i].2.1 : Int)], rfl, rfl, SqT.of (s6 _ _ upd_same), SqT.of upd_same, ?_⟩
        exact q_bl (Q := Kt) (lexLt_pl lt) (hs _ (rep _ _ _ ho) _ _ ((sT.trans s5).trans s6) (.bl true))
      · rw [filterMap_some, rep_bools] at h2
        rw [DTs.toBls h2] at h1
        refine ⟨D2, _, rfl, SqL.of h1, ?_⟩
        exact q_bl (Q := Q) (replicate_all _) (q _ (sb.trans (s3.trans hide_same)))
theorem ok_mustG {f : Addr} {fd : FuncData} (F : Fun K "must_be_guarded" "must_be_guarded" sMustG f fd) (hG : Has P w K mg base 4 "are_guards" ["cells", "thing"] spGuards) : FnOk P w K mg base CX0 5 f fd ["cells", "guards"] spMustG := by
  obtain ⟨fG, fdG, gG, kG, bG, oG⟩ := hG.ex
  refine F.ok scMustG (fun vs H Q E h => ?_) (fun cdv A outer s H vs Q E hr h => ?_)
  · obtain ⟨r, c, g, gs, x, y, rfl, _⟩ := h
    rfl
  · obtain ⟨r, c, g, gs, x, y, rfl, dx, dy, ok, q⟩ := h
    refine ⟨_, pss_one (ps_if (pt_not (pt_val (pe_call oG hr (by rfl) gG kG bG .nil pass0 (pa_cons (pv 0) (pa_cons (pv 1) pa_nil))))) pss_never pss_nil), ?_⟩
    refine ⟨_, rfl, _, rfl, r, c, g, gs, x, y, rfl, dx, dy, ok, fun H2 s2 => ⟨true, rfl, iteF ?_⟩⟩
    exact q _ s2
theorem ok_mustAsk {f : Addr} {fd : FuncData} (F : Fun K "must_be_asked" "must_be_asked" sMustAsk f fd) (hS : Has P w K mg base 4 "must_be_sheet" ["sheet"] spSheetIn) (hG : Has P w K mg base 5 "must_be_guarded" ["cells", "guards"] spMustG) : FnOk P w K mg base CX0 6 f fd ["sheet", "guards"] spMustAsk := by
  obtain ⟨fG, fdG, gG, kG, bG, oG⟩ := hG.ex
  obtain ⟨fS, fdS, gS, kS, bS, oS⟩ := hS.ex
  refine F.ok scMustAsk (fun vs H Q E h => ?_) (fun cdv A outer s H vs Q E hr h => ?_)
  · obtain ⟨r, c, g, h, gs, x, y, rfl, _⟩ := h
    rfl
  · obtain ⟨r, c, g, h, gs, x, y, rfl, dx, dy, gr, hh, ok, q⟩ := h
    refine ⟨_, pss_cons (ps_expr (pe_call oS (hr.mono (by decide)) (by rfl) gS kS bS .nil pass0 (pa_cons (pv 0) pa_nil)))
      (pss_one (ps_expr (pe_call oG hr (by rfl) gG kG bG .nil pass0 (pa_cons (pe_ix ix_tup (pv 0) pe_int (fun _ _ => rfl)) (pa_cons (pv 1) pa_nil))))), ?_⟩
    refine ⟨_, rfl, r, c, g, h, x, rfl, dx, gr, hh, fun H2 s2 => ?_⟩
    obtain ⟨a, y1, y2, rfl, ha, d1, d2⟩ := (dx.same s2).sheet
    refine ⟨_, rfl, a, _, _, _, rfl, rfl, SqT.of ha, atI_nat (j := 0) rfl, _, rfl, r, c, g, gs, _, _, rfl, d1, dy.same s2, ok, fun H3 s3 => ?_⟩
    exact q _ (s2.trans s3)
theorem ok_mustCells {f : Addr} {fd : FuncData} (F : Fun K "must_be_cells" "must_be_cells" sMustCells f fd) (hS : Has P w K mg base 3 "sheet_in" ["thing"] spSheetIn) (hG : Has P w K mg base 5 "must_be_guarded" ["cells", "guards"] spMustG) : FnOk P w K mg base CX0 6 f fd ["cells", "guards"] spMustCells := by
  obtain ⟨fG, fdG, gG, kG, bG, oG⟩ := hG.ex
  obtain ⟨fS, fdS, gS, kS, bS, oS⟩ := hS.ex
  refine F.ok scMustCells (fun vs H Q E h => ?_) (fun cdv A outer s H vs Q E hr h => ?_)
  · obtain ⟨r, c, g, gs, x, y, rfl, _⟩ := h
    rfl
  · obtain ⟨r, c, g, gs, x, y, rfl, dx, dy, gr, ok, q⟩ := h
    refine ⟨_, pss_cons (ps_set (i := 2) scMustCells.nd rfl (.inl rfl) (pe_call oS (hr.mono (by decide)) (by rfl) gS kS bS .nil pass0 (pa_cons (pe_tup (pa_cons (pv 0) (pa_cons (pe_lst pa_nil) pa_nil))) pa_nil)))
      (pss_cons (ps_if (pt_cmp (pc_notN (pv 2))) pss_never pss_nil)
      (pss_one (ps_expr (pe_call oG hr (by rfl) gG kG bG .nil pass0 (pa_cons (pv 0) (pa_cons (pv 1) pa_nil)))))), ?_⟩
    refine ⟨_, rfl, Nat.zero_le _, fun l nl => ⟨by show 2 ≤ sizeLine; decide, fun t nt => ?_⟩⟩
    have s1 := same_new (o := .lst []) nl
    have s2 := same_new (o := .tup [x, .ref l]) nt
    have s3 := s1.trans s2
    refine ⟨r, c, g, [], _, rfl, DT.ofSheet upd_same (dx.same s3) (.lst (s2 _ _ upd_same) .nil), gr, Hid.of (List.nil_sublist _), fun H2 s4 => ?_⟩
    refine ⟨_, rfl, _, rfl, iteF ?_⟩
    have s5 := s3.trans s4
    refine ⟨_, rfl, _, rfl, r, c, g, gs, _, _, rfl, dx.same s5, dy.same s5, ok, fun H3 s6 => ?_⟩
    exact q _ (s5.trans s6)
end
end Cv

/-! Countveil walks 5: the class Moves: its data, __init__, standing. -/
namespace Cv
open PySem PySem.Spec PyProof.Rows L2
abbrev sInit : Stmt := inClass (topS 14) 0
abbrev sReached : Stmt := inClass (topS 14) 1
abbrev sWay : Stmt := inClass (topS 14) 2
abbrev sMove : Stmt := inClass (topS 14) 3
abbrev sStanding : Stmt := inClass (topS 14) 4
/-! ### the object's fields -/
theorem n_pw : ¬ (("place" : Str) = "world") := by decide +kernel
theorem n_uw : ¬ (("up" : Str) = "world") := by decide +kernel
theorem n_ow : ¬ (("others" : Str) = "world") := by decide +kernel
theorem n_wp : ¬ (("world" : Str) = "place") := by decide +kernel
theorem n_up : ¬ (("up" : Str) = "place") := by decide +kernel
theorem n_op : ¬ (("others" : Str) = "place") := by decide +kernel
theorem n_wu : ¬ (("world" : Str) = "up") := by decide +kernel
theorem n_pu : ¬ (("place" : Str) = "up") := by decide +kernel
theorem n_ou : ¬ (("others" : Str) = "up") := by decide +kernel
theorem n_wo : ¬ (("world" : Str) = "others") := by decide +kernel
theorem n_po : ¬ (("place" : Str) = "others") := by decide +kernel
theorem n_uo : ¬ (("up" : Str) = "others") := by decide +kernel
def mf (w : Addr) (pl : V) (up : Bool) (o : Addr) : List (Str × V) := putF "others" (.ref o) (putF "up" (.bl up) (putF "place" pl (putF "world" (.ref w) [])))
section
variable {w o : Addr} {pl : V} {up : Bool}
theorem mf_w : (mf w pl up o).lookup ("world" : Str) = some (.ref w) := by
  unfold mf
  rw [lookup_putF, if_neg n_wo, lookup_putF, if_neg n_wu, lookup_putF, if_neg n_wp, lookup_putF, if_pos rfl]
theorem mf_p : (mf w pl up o).lookup ("place" : Str) = some pl := by
  unfold mf
  rw [lookup_putF, if_neg n_po, lookup_putF, if_neg n_pu, lookup_putF, if_pos rfl]
theorem mf_u : (mf w pl up o).lookup ("up" : Str) = some (.bl up) := by
  unfold mf
  rw [lookup_putF, if_neg n_uo, lookup_putF, if_pos rfl]
theorem mf_o : (mf w pl up o).lookup ("others" : Str) = some (.ref o) := by
  unfold mf
  rw [lookup_putF, if_pos rfl]
theorem mf_no {m : Str} (h1 : ¬ m = "world") (h2 : ¬ m = "place") (h3 : ¬ m = "up") (h4 : ¬ m = "others") : (mf w pl up o).lookup m = none := by
  unfold mf
  rw [lookup_putF, if_neg h4, lookup_putF, if_neg h3, lookup_putF, if_neg h2, lookup_putF, if_neg h1]
  rfl
end
theorem len_putF {f : Str} {v : V} {fs : List (Str × V)} {n : Nat} (h : fs.length ≤ n) : (putF f v fs).length ≤ n + 1 := by
  have := length_putF f v fs
  omega
/-- the class -/
structure Mt (K : PySem.W.Frag) (C : Addr) : Prop where
  cl : Cls K C
  nW : NoAttr K C "world"
  nP : NoAttr K C "place"
  nU : NoAttr K C "up"
  nO : NoAttr K C "others"
/-- what stays of an object while it moves: all but the rows of its world -/
structure Fz (C p : Addr) (r : Nat) (ra : Nat → Addr) (pl : Pl) (up : Bool) (oth : List Pl) (Hf : Hp) : Prop where
  ob : ∃ dx w pv o, Hf p = some (.ins C dx (mf w pv up o)) ∧ Hf w = some (.lst ((List.range r).map fun i => V.ref (ra i))) ∧ DT Hf pv (pD pl) ∧ DT Hf (.ref o) (hD oth)
  inj : ∀ i j, i < r → j < r → ra i = ra j → i = j
  fr : ∀ i, i < r → Hf (ra i) = none
/-- the rows as they stand -/
structure Mv (r c : Nat) (ra : Nat → Addr) (Hf : Hp) (u : Mat) (H : Hp) : Prop where
  sm : Same Hf H
  row : ∀ i, i < r → H (ra i) = some (.lst (((List.range c).map (u i)).map V.int))
theorem Mv.same {r c : Nat} {ra : Nat → Addr} {Hf : Hp} {u : Mat} {H H' : Hp} (m : Mv r c ra Hf u H) (s : Same H H') : Mv r c ra Hf u H' := ⟨m.sm.trans s, fun i hi => s _ _ (m.row i hi)⟩
/-- one number changed -/
def put2 (u : Mat) (i k : Nat) (x : Int) : Mat := fun a b => if a = i ∧ b = k then x else u a b
theorem put2_same {u : Mat} {i k : Nat} {x : Int} : put2 u i k x i k = x := if_pos ⟨rfl, rfl⟩
theorem put2_ne {u : Mat} {i k a b : Nat} {x : Int} (h : (a, b) ≠ (i, k)) : put2 u i k x a b = u a b := if_neg fun z => h (by rw [z.1, z.2])
theorem row_set {c : Nat} {u : Mat} {i k : Nat} {x : Int} : (((List.range c).map (u i)).map V.int).set k (.int x) = ((List.range c).map (put2 u i k x i)).map V.int := by
  apply List.ext_getElem?
  intro j
  rw [List.getElem?_set]
  by_cases e : k = j
  · subst e
    rw [if_pos rfl]
    simp only [List.length_map, List.length_range]
    by_cases h : k < c
    · rw [if_pos h, List.getElem?_map, List.getElem?_map, List.getElem?_range h]
      show _ = some (V.int (put2 u i k x i k))
      rw [put2_same]
    · rw [if_neg h, List.getElem?_eq_none (by simp; omega)]
  · rw [if_neg e, List.getElem?_map, List.getElem?_map, List.getElem?_map, List.getElem?_map]
    by_cases h : j < c
    · rw [List.getElem?_range h]
      show some (V.int (u i j)) = some (V.int (put2 u i k x i j))
      rw [put2_ne fun z => e (Prod.mk.inj z).2.symm]
    · rw [List.getElem?_eq_none (by simp; omega)]
      rfl
theorem row_put {c : Nat} {u : Mat} {i k a : Nat} {x : Int} (h : a ≠ i) : ((List.range c).map (put2 u i k x a)) = (List.range c).map (u a) := by
  apply List.map_congr_left
  intro b _
  exact put2_ne fun z => h (Prod.mk.inj z).1
section
variable {K : PySem.W.Frag} {C p : Addr} {r c : Nat} {ra : Nat → Addr} {pl : Pl} {up : Bool} {oth : List Pl} {Hf H : Hp} {u : Mat}
theorem Mv.put (F : Fz C p r ra pl up oth Hf) (m : Mv r c ra Hf u H) {i k : Nat} (hi : i < r) (x : Int) : Mv r c ra Hf (put2 u i k x) (upd H (ra i) (.lst ((((List.range c).map (u i)).map V.int).set k (.int x)))) where
  sm := fun b o e => by
    rw [upd_ne (ne_of_none e (F.fr i hi))]
    exact m.sm _ _ e
  row := fun a ha => by
    by_cases e : a = i
    · subst e
      rw [upd_same, row_set]
    · rw [upd_ne (fun z => e (F.inj _ _ ha hi z)), row_put e]
      exact m.row a ha
end
/-! ### __init__ -/
theorem others_data (pl : Pl) : ∀ h : List Pl, (h.map fun q => if q ≠ pl then some (pD q) else none).filterMap id = (others h pl).map pD
  | [] => rfl
  | q :: h => by
    have ih := others_data pl h
    unfold others at ih ⊢
    by_cases e : q = pl
    · rw [List.map_cons, List.filterMap_cons, if_neg (fun z => z e), List.filter_cons_of_neg (by simp [e])]
      exact ih
    · rw [List.map_cons, List.filterMap_cons, if_pos e, List.filter_cons_of_pos (by simp [e]), List.map_cons]
      show pD q :: _ = _
      rw [ih]
theorem DTs.pls {H H' : Hp} (s : ∀ b ys, H b = some (.tup ys) → H' b = some (.tup ys)) : ∀ {l : List Pl} {ys : List V}, DTs H ys (l.map pD) → DTs H' ys (l.map pD)
  | [], _, .nil => .nil
  | q :: l, _, .cons h t => by
    obtain ⟨a, rfl, ha⟩ := h.pair
    exact .cons (DT.ofPair (s _ _ ha)) (DTs.pls s t)
/-- new rows, one after the other -/
theorem lcRows {K : PySem.W.Frag} {H1 : Hp} {a D : Addr} {xs : List V} {r c : Nat} {g0 : Mat} {σ : L2.St} {vs : List Nat} {g : TG} {te : TE} {Qd : Hp → Prop} (hA : H1 a = some (.lst xs)) (hl : xs.length = r) (hr : r < sizeLine) (hD : H1 D = none)
    (step : ∀ (i : Nat) (x : V) (H' : Hp) (Kt : V → Hp → Prop), i < r → xs[i]? = some x → Same H1 H' → (∀ l, H' l = none → Kt (.ref l) (upd H' l (.lst (((List.range c).map (g0 i)).map V.int)))) →
      g x (wipe σ vs) H' fun σ2 H2 => wipe σ2 vs = wipe σ vs ∧ tYes σ2 H2 fun b H3 => if b = true then te σ2 H3 Kt else True)
    (done : ∀ (ra : Nat → Addr) (H' : Hp), Same H1 H' → H' D = some (.lst ((List.range r).map fun i => V.ref (ra i))) → (∀ i j, i < r → j < r → ra i = ra j → i = j) → (∀ i, i < r → H1 (ra i) = none ∧ ra i ≠ D ∧ H' (ra i) = some (.lst (((List.range c).map (g0 i)).map V.int))) → Qd H') :
    ∃ W : Nat → Nat → Hp → Prop, (∃ m, W 0 m (upd H1 D (.lst []))) ∧ ∀ i m H, W i m H →
      ((Itl K a).stop i H ∧ Qd H) ∨ ((Itl K a).go i H ∧ ∃ Nx : Hp → Prop, (∀ H', Nx H' → ∃ m', m' < m ∧ W (i + 1) m' H') ∧ ∀ x H', (Itl K a).yld i H x H' → g x (wipe σ vs) H' fun σ2 H2 => wipe σ2 vs = wipe σ vs ∧ tYes σ2 H2 fun b H3 =>
        if b = true then te σ2 H3 fun y H4 => ∃ acc, H4 D = some (.lst acc) ∧ acc.length < sizeLine ∧ Nx (upd H4 D (.lst (acc ++ [y]))) else Nx H3) := by
  let P : Nat → Hp → Prop := fun i H => Same H1 (hide D H) ∧ ∃ ra : Nat → Addr, H D = some (.lst ((List.range i).map fun i => V.ref (ra i))) ∧ (∀ a b, a < i → b < i → ra a = ra b → a = b) ∧ ∀ j, j < i → H1 (ra j) = none ∧ ra j ≠ D ∧ H (ra j) = some (.lst (((List.range c).map (g0 j)).map V.int))
  refine ⟨fun i m H => i + m = r ∧ P i H, ⟨r, Nat.zero_add _, ?_, fun _ => D, upd_same, fun a b h => absurd h (Nat.not_lt_zero _), fun j h => absurd h (Nat.not_lt_zero _)⟩, fun i m H hW => ?_⟩
  · rw [hide_upd, hide_none hD]
    exact Same.refl _
  · obtain ⟨em, sm, ra, hY, hinj, hra⟩ := hW
    have hA' : H a = some (.lst xs) := hide_same _ _ (sm _ _ hA)
    by_cases hi : i < r
    · refine .inr ⟨⟨xs, xs[i]'(by omega), SqL.of hA', List.getElem?_eq_getElem _⟩, P (i + 1), fun H' p => ⟨m - 1, by omega, by omega, p⟩, fun x H' hy => ?_⟩
      obtain ⟨rfl, hx⟩ := hy
      have hx := hx xs (SqL.of hA')
      have st := step i x H' (fun y H4 => ∃ acc, H4 D = some (.lst acc) ∧ acc.length < sizeLine ∧ P (i + 1) (upd H4 D (.lst (acc ++ [y])))) hi hx (sm.trans hide_same) fun l nl => by
        have nD : D ≠ l := ne_of_none hY nl
        refine ⟨_, (upd_ne nD).trans hY, by rw [List.length_map, List.length_range]; omega, ?_, fupd ra i l, ?_, ?_, ?_⟩
        · rw [hide_upd, hide_upd_ne nD.symm]
          intro b o e
          have hb := sm _ _ e
          rw [upd_ne (ne_of_none hb (by rw [hide_ne nD.symm]; exact nl))]
          exact hb
        · rw [upd_same, List.range_succ, List.map_append, List.map_singleton, fupd_same]
          refine congrArg (fun z => some (HO.lst (z ++ [V.ref l]))) ?_
          apply List.map_congr_left
          intro b hb
          rw [fupd_ne (by have := List.mem_range.mp hb; omega)]
        · intro a b ha hb e
          by_cases ea : a = i
          · by_cases eb : b = i
            · omega
            · rw [ea, fupd_same, fupd_ne eb] at e
              have := (hra b (by omega)).2.2
              rw [← e, nl] at this
              cases this
          · by_cases eb : b = i
            · rw [eb, fupd_same, fupd_ne ea] at e
              have := (hra a (by omega)).2.2
              rw [e, nl] at this
              cases this
            · rw [fupd_ne ea, fupd_ne eb] at e
              exact hinj a b (by omega) (by omega) e
        · intro j hj
          by_cases ej : j = i
          · rw [ej, fupd_same]
            refine ⟨sm.free (by rw [hide_ne nD.symm]; exact nl), nD.symm, ?_⟩
            rw [upd_ne nD.symm, upd_same]
          · obtain ⟨h1, h2, h3⟩ := hra j (by omega)
            rw [fupd_ne ej]
            refine ⟨h1, h2, ?_⟩
            rw [upd_ne h2, upd_ne (ne_of_none h3 nl)]
            exact h3
      exact st
    · have e : i = r := by omega
      subst e
      exact .inl ⟨⟨xs, SqL.of hA', by omega⟩, done ra H (sm.trans hide_same) hY hinj hra⟩
theorem scInit : FnScope ["self", "sheet", "place", "up", "row", "one"] ["self", "sheet", "place", "up"] (defScope sInit) := ⟨rfl, rfl, rfl, by decide +kernel, rfl, by decide +kernel, by decide +kernel⟩
theorem scStanding : FnScope ["self"] ["self"] (defScope sStanding) := ⟨rfl, rfl, rfl, by decide +kernel, rfl, by decide +kernel, by decide +kernel⟩
def spInit (C : Addr) : Sp := fun vs H Q _ => ∃ (H0 : Hp) (p dx : Addr) (r c : Nat) (g : Mat) (h : List Pl) (x y : V) (pl : Pl) (up : Bool), vs = [.ref p, x, y, .bl up] ∧ Same H0 H ∧ H0 p = none ∧ H p = some (.ins C dx []) ∧
  DT H0 x (sheetD r c g h) ∧ DT H0 y (pD pl) ∧ r ≤ 6 ∧ h.length ≤ 100 ∧ ∀ (H' Hf : Hp) (ra : Nat → Addr), Same H0 Hf → Fz C p r ra pl up (others h pl) Hf → Mv r c ra Hf g H' → Q .non H'
def spStanding (C : Addr) : Sp := fun vs H Q _ => ∃ (p : Addr) (r c : Nat) (ra : Nat → Addr) (pl : Pl) (up : Bool) (oth : List Pl) (Hf : Hp) (u : Mat), vs = [.ref p] ∧ Fz C p r ra pl up oth Hf ∧ Mv r c ra Hf u H ∧ pl.1 < r ∧ pl.2 < c ∧ Q (.int (u pl.1 pl.2)) H
section
variable {P : Program} {w : PySem.World} {K : PySem.W.Frag} {mg : Str → Option Value} {base : Heap} {C : Addr}
theorem ok_standing {f : Addr} {fd : FuncData} (F : Fun K "standing" "Moves.standing" sStanding f fd) (T : Mt K C) : FnOk P w K mg base CX0 1 f fd ["self"] (spStanding C) := by
  refine F.ok scStanding (fun vs H Q E h => ?_) (fun cdv A outer s H vs Q E hr h => ?_)
  · obtain ⟨p, r, c, ra, pl, up, oth, Hf, u, rfl, _⟩ := h
    rfl
  · obtain ⟨p, r, c, ra, pl, up, oth, Hf, u, rfl, Z, M, hi, hk, q⟩ := h
    refine ⟨_, pss_one (ps_ret (pe_ix ix_list (pe_ix ix_list (pe_fld (pv 0) rfl) (pe_ix ix_tup (pe_fld (pv 0) rfl) pe_int (fun _ _ => rfl)) (fun _ _ => rfl)) (pe_ix ix_tup (pe_fld (pv 0) rfl) pe_int (fun _ _ => rfl)) (fun _ _ => rfl))), ?_⟩
    obtain ⟨dx, wa, pv', o, hp, hw, dp, _⟩ := Z.ob
    have hp := M.sm _ _ hp
    have hw := M.sm _ _ hw
    obtain ⟨pa, rfl, hpa⟩ := (dp.same M.sm).pair
    refine ⟨_, rfl, p, C, dx, _, _, rfl, hp, T.cl, T.nW, mf_w, ?_⟩
    refine ⟨_, rfl, p, C, dx, _, _, rfl, hp, T.cl, T.nP, mf_p, pa, _, _, _, rfl, rfl, SqT.of hpa, atI_nat (j := 0) rfl, wa, _, _, _, rfl, rfl, SqL.of hw, atI_nat (map_range_get hi), ?_⟩
    refine ⟨_, rfl, p, C, dx, _, _, rfl, hp, T.cl, T.nP, mf_p, pa, _, _, _, rfl, rfl, SqT.of hpa, atI_nat (j := 1) rfl, ra pl.1, _, _, _, rfl, rfl, SqL.of (M.row _ hi), atI_nat (by rw [List.getElem?_map, map_range_get hk]; rfl), ?_⟩
    exact q
theorem ok_init {f : Addr} {fd : FuncData} (F : Fun K "__init__" "Moves.__init__" sInit f fd) (G : Gb mg) (T : Mt K C) : FnOk P w K mg base CX0 1 f fd ["self", "sheet", "place", "up"] (spInit C) := by
  refine F.ok scInit (fun vs H Q E h => ?_) (fun cdv A outer s H vs Q E hr h => ?_)
  · obtain ⟨H0, p, dx, r, c, g, h, x, y, pl, up, rfl, _⟩ := h
    rfl
  · obtain ⟨H0, p, dx, r, c, g, h, x, y, pl, up, rfl, s0, p0, hp, dx0, dy0, r6, h100, q⟩ := h
    have hu : (A.deeper (envOfC "Moves.__init__" (defScope sInit) s.heap.objs.size f cdv)).units + 64 < cLine := by
      have := hr.un
      omega
    refine ⟨_, pss_cons (ps_fld (pv 0) (pe_lc (own := [("row", 4)]) (g := gName 4) (tt := tYes) rfl scInit.nd (pi_list (pe_ix ix_tup (pv 1) pe_int (fun _ _ => rfl))) (blkOk_by (N := ["self", "sheet", "place", "up", "row", "one"]) (sc := defScope sInit) (by decide +kernel))
          (fun _ _ _ _ _ => pg_name (i := 4) scInit.nd rfl (Or.inl rfl)) (fun _ _ _ _ _ => pts_nil) (fun _ _ _ _ _ => pe_callTy (r := rList2 K) cr_list (by rfl) G.list b_list (pa_cons (pv 4) pa_nil))) rfl)
      (pss_cons (ps_fld (pv 0) (pv 2) rfl) (pss_cons (ps_fld (pv 0) (pv 3) rfl)
      (pss_one (ps_fld (pv 0) (pe_lc (own := [("one", 5)]) (g := gName 5) rfl scInit.nd (pi_list (pe_ix ix_tup (pv 1) pe_int (fun _ _ => rfl))) (blkOk_by (N := ["self", "sheet", "place", "up", "row", "one"]) (sc := defScope sInit) (by decide +kernel))
          (fun _ _ _ _ _ => pg_name (i := 5) scInit.nd rfl (Or.inl rfl)) (fun _ _ _ _ _ => pts_one (pt_cmpR (r := rNeD K) (op_neD hu) (pv 5) (pv 2) (nomark _))) (fun _ _ _ _ _ => pv 5)) rfl)))), ?_⟩
    obtain ⟨a, gx, hx, rfl, ha0, dg0, dh0⟩ := dx0.sheet
    obtain ⟨b, xs, rfl, hb0, hlen, hrow0⟩ := id dg0.grid
    obtain ⟨e, zs, rfl, he0, hzl, _, hzs0⟩ := id (DT.list (f := pD) dh0)
    refine ⟨_, rfl, a, _, _, _, rfl, rfl, SqT.of (s0 _ _ ha0), atI_nat (j := 0) rfl, b, rfl, ⟨_, SqL.of (s0 _ _ hb0)⟩, fun D hD => ?_⟩
    refine lcRows (r := r) (c := c) (g0 := g) (s0 _ _ hb0) hlen (by rw [sizeLine_eq]; omega) hD (fun i z H' Kt hi hz sm hk => ?_) (fun ra H1 s1 hW hinj hra => ?_)
    · obtain ⟨b', e1, e2⟩ := hrow0 i hi
      rw [hz] at e1
      cases e1
      refine ⟨rfl, ?_⟩
      exact ⟨_, rfl, _, _, rfl, .inl (SqL.of (sm _ _ (s0 _ _ e2))), hk⟩
    · have hp1 := s1 _ _ hp
      have l1 : (putF "world" (V.ref D) []).length ≤ 1 := len_putF (Nat.le_refl _)
      refine ⟨_, rfl, p, C, dx, _, rfl, hp1, T.cl, T.nW, (by decide), ?_⟩
      refine ⟨_, rfl, _, rfl, p, C, dx, _, rfl, upd_same, T.cl, T.nP, (by omega), ?_⟩
      have l2 : (putF "place" y (putF "world" (V.ref D) [])).length ≤ 2 := len_putF l1
      refine ⟨_, rfl, _, rfl, p, C, dx, _, rfl, upd_same, T.cl, T.nU, (by omega), ?_⟩
      rw [upd_upd, upd_upd]
      have l3 : (putF "up" (.bl up) (putF "place" y (putF "world" (V.ref D) []))).length ≤ 3 := len_putF l2
      have nD : H D = none := hD
      have pD0 : H0 D = none := s0.free hD
      have sA : Same H0 (upd H1 p (.ins C dx (putF "up" (.bl up) (putF "place" y (putF "world" (V.ref D) []))))) := fun b o e => by
        rw [upd_ne (ne_of_none e p0)]
        exact s1 _ _ (s0 _ _ e)
      refine ⟨_, rfl, a, _, _, _, rfl, rfl, SqT.of (sA _ _ ha0), atI_nat (j := 1) rfl, e, rfl, ⟨_, SqL.of (sA _ _ he0)⟩, fun D2 hD2 => ?_⟩
      refine lcD_list (sA _ _ he0) (h.map fun q => if q ≠ pl then some (pD q) else none) (by rw [List.length_map, hzl]) (by rw [List.length_map, sizeLine_eq]; omega) hD2 (fun i o z H' Kt Kf ho hz sm sm2 n2 hn hs => ?_) (fun ys H' sm2 h1 h2 => ?_)
      · rw [List.getElem?_map] at ho
        obtain ⟨q', eq', rfl⟩ := Option.map_eq_some_iff.mp ho
        obtain ⟨z', e1, dz⟩ := hzs0 i q' eq'
        rw [hz] at e1
        cases e1
        have dz' := dz.same (sA.trans sm2)
        have dy' := dy0.same (sA.trans sm2)
        refine ⟨rfl, ?_⟩
        refine ⟨_, rfl, _, rfl, _, _, dz'.dp, dy'.dp, shaped_pD _, shaped_pD _, _, rfl, ?_⟩
        rw [eqv_pD]
        by_cases e : q' = pl
        · rw [decide_eq_true e]
          exact hn (if_neg fun z => z e) _ (Same.refl _)
        · rw [decide_eq_false e]
          have n2' : H' D2 ≠ none := n2
          have sm' : Same (upd H1 p (.ins C dx (putF "up" (.bl up) (putF "place" y (putF "world" (V.ref D) []))))) (hide D2 H') := sm
          exact ⟨_, rfl, hs _ (if_pos e) _ _ (Same.refl _) (dz.same (sA.trans sm'))⟩
      · rw [others_data] at h2
        refine ⟨_, rfl, p, C, dx, _, rfl, sm2 _ _ upd_same, T.cl, T.nO, (by omega), ?_⟩
        have Dp : D ≠ p := fun z => by rw [z, hp] at nD; cases nD
        have rp : ∀ i, i < r → ra i ≠ p := fun i hi z => by
          have := (hra i hi).1
          rw [z, hp] at this
          cases this
        have rr : ∀ i, i < r → H' (ra i) = some (.lst (((List.range c).map (g i)).map V.int)) := fun i hi => sm2 _ _ ((upd_ne (rp i hi)).trans (hra i hi).2.2)
        have r2 : ∀ i, i < r → ra i ≠ D2 := fun i hi => ne_of_none ((upd_ne (rp i hi)).trans (hra i hi).2.2) hD2
        have hp' := sm2 _ _ (upd_same (H := H1) (a := p) (o := .ins C dx (putF "up" (.bl up) (putF "place" y (putF "world" (V.ref D) [])))))
        have hD' : H' D = some (.lst ((List.range r).map fun i => V.ref (ra i))) := sm2 _ _ ((upd_ne Dp).trans hW)
        have p2 : D2 ≠ p := (ne_of h1 hp' (fun z => by cases z))
        let Hf : Hp := fun a => if ∃ i, i < r ∧ a = ra i then none else upd H' p (.ins C dx (mf D y up D2)) a
        have hn : ∀ {b : Addr}, (∀ i, i < r → b ≠ ra i) → Hf b = upd H' p (.ins C dx (mf D y up D2)) b := fun h => if_neg fun ⟨i, hi, z⟩ => h i hi z
        have s0f : Same H0 Hf := fun b o e => by
          have nb : ∀ i, i < r → b ≠ ra i := fun i hi z => by
            have h3 := s0.free (hra i hi).1
            rw [← z, e] at h3
            cases h3
          rw [hn nb, upd_ne (ne_of_none e p0)]
          exact sm2 _ _ (sA _ _ e)
        refine q _ Hf ra s0f ⟨⟨dx, D, y, D2, ?_, ?_, dy0.same s0f, .lst ?_ (DTs.pls (fun b us hb => ?_) h2)⟩, hinj, fun i hi => if_pos ⟨i, hi, rfl⟩⟩ ⟨fun b o e => ?_, fun i hi => (upd_ne (rp i hi)).trans (rr i hi)⟩
        · rw [hn fun i hi z => rp i hi z.symm]
          exact upd_same
        · rw [hn fun i hi z => (hra i hi).2.1 z.symm, upd_ne Dp]
          exact hD'
        · rw [hn fun i hi z => r2 i hi z.symm, upd_ne p2]
          exact h1
        · have hb' := hide_same _ _ hb
          have nb : ∀ i, i < r → b ≠ ra i := fun i hi z => by
            rw [z, rr i hi] at hb'
            cases hb'
          have np : b ≠ p := ne_of hb' hp' fun z => by cases z
          rw [hn nb, upd_ne np]
          exact hb'
        · by_cases z : ∃ i, i < r ∧ b = ra i
          · have : Hf b = none := if_pos z
            rw [this] at e
            cases e
          · have : Hf b = upd H' p (.ins C dx (mf D y up D2)) b := if_neg z
            exact this.symm.trans e
end
end Cv

/-! Countveil walks 6: Moves.reached: dicts of what is reached. -/
namespace Cv
open PySem PySem.Spec PyProof.Rows L2
/-! ### tests by their answers -/
section
variable {t u : TT} {σ : L2.St} {H : Hp} {Q : Bool → Hp → Prop} {b1 b2 : Bool}
theorem tAnd_go (h1 : ∀ Q' : Bool → Hp → Prop, Q' b1 H → t σ H Q') (h2 : b1 = true → ∀ Q' : Bool → Hp → Prop, Q' b2 H → u σ H Q') (q : Q (b1 && b2) H) : tAnd t u σ H Q := by
  refine h1 _ ?_
  cases b1 with
  | true => exact h2 rfl _ q
  | false => exact q
theorem tOr_go (h1 : ∀ Q' : Bool → Hp → Prop, Q' b1 H → t σ H Q') (h2 : b1 = false → ∀ Q' : Bool → Hp → Prop, Q' b2 H → u σ H Q') (q : Q (b1 || b2) H) : tOr t u σ H Q := by
  refine h1 _ ?_
  cases b1 with
  | true => exact q
  | false => exact h2 rfl _ q
end
/-! ### a dict of numbers as a function -/
structure Vl {α : Type} (val : Hp → Nat → α → V → Prop) : Prop where
  dk : ∀ (H : Hp) (d : Addr) (kvs kvs' : List (Key × V)) (i : Nat) (x : α) (v : V), H d = some (.dK kvs) → val H i x v → val (upd H d (.dK kvs')) i x v
  sm : ∀ (H H' : Hp) (i : Nat) (x : α) (v : V), Same H H' → val H i x v → val H' i x v
structure Dc {α : Type} (val : Hp → Nat → α → V → Prop) (n : Nat) (H : Hp) (d : Addr) (f : Nat → Option α) : Prop where
  ex : ∃ kvs : List (Key × V), H d = some (.dK kvs) ∧ (∃ l : List Nat, kvs.map (·.1) = (l.map fun (i : Nat) => (i : Int)).map Sum.inl) ∧ kvs.length + un n f = n ∧ (∀ i, f i = none → valV kvs (Sum.inl (i : Int)) = none) ∧ ∀ i x, f i = some x → ∃ v, valV kvs (Sum.inl (i : Int)) = some v ∧ val H i x v
section
variable {α : Type} {val : Hp → Nat → α → V → Prop} {n : Nat} {H : Hp} {d : Addr} {f : Nat → Option α}
theorem Dc.same (W : Vl val) (D : Dc val n H d f) {H' : Hp} (s : Same H H') : Dc val n H' d f := by
  obtain ⟨kvs, h1, h2, h3, h4, h5⟩ := D.ex
  exact ⟨kvs, s _ _ h1, h2, h3, h4, fun i x e => by
    obtain ⟨v, e1, e2⟩ := h5 i x e
    exact ⟨v, e1, W.sm _ _ _ _ _ s e2⟩⟩
theorem Dc.other (W : Vl val) (D : Dc val n H d f) {d' : Addr} {kvs kvs' : List (Key × V)} (h : H d' = some (.dK kvs)) (ne : d ≠ d') : Dc val n (upd H d' (.dK kvs')) d f := by
  obtain ⟨kv, h1, h2, h3, h4, h5⟩ := D.ex
  exact ⟨kv, (upd_ne ne).trans h1, h2, h3, h4, fun i x e => by
    obtain ⟨v, e1, e2⟩ := h5 i x e
    exact ⟨v, e1, W.dk _ _ _ _ _ _ _ h e2⟩⟩
theorem Dc.get (D : Dc val n H d f) (i : Nat) : ∃ o, DGet H d (.int i) o ∧ o.isSome = (f i).isSome ∧ ∀ x, f i = some x → ∃ v, o = some v ∧ val H i x v := by
  obtain ⟨kvs, h1, h2, h3, h4, h5⟩ := D.ex
  refine ⟨valV kvs (Sum.inl (i : Int)), DGet.k (k := Sum.inl (i : Int)) h1, ?_, h5 i⟩
  cases e : f i with
  | none =>
    rw [h4 i e]
    rfl
  | some x =>
    obtain ⟨v, e1, _⟩ := h5 i x e
    rw [e1]
    rfl
theorem Dc.put (W : Vl val) (D : Dc val n H d f) (hn : n ≤ 6) {i : Nat} (hi : i < n) (h0 : f i = none) {x : α} {v : V} (hv : val H i x v) : ∃ kvs kvs', H d = some (.dK kvs) ∧ DPut H d (.int i) v (upd H d (.dK kvs')) ∧ Dc val n (upd H d (.dK kvs')) d (fupd f i (some x)) := by
  obtain ⟨kvs, h1, ⟨l, h2⟩, h3, h4, h5⟩ := D.ex
  have e0 := h4 i h0
  refine ⟨kvs, putK kvs (Sum.inl (i : Int)) v, h1, DPut.k (k := Sum.inl (i : Int)) h1 (by rw [sizeLine_eq]; omega), ⟨_, upd_same, ⟨l ++ [i], ?_⟩, ?_, fun j hj => ?_, fun j y hj => ?_⟩⟩
  · rw [putK_new v e0, List.map_append, List.map_append, List.map_append, h2]
    rfl
  · rw [putK_new v e0, List.length_append, List.length_singleton]
    have := un_upd (v := x) hi h0
    omega
  · have ne : j ≠ i := fun z => by
      rw [z, fupd_same] at hj
      cases hj
    rw [fupd_ne ne] at hj
    rw [valV_put, if_neg fun z => ne (by have := Sum.inl.inj z; omega)]
    exact h4 j hj
  · by_cases e : j = i
    · rw [e, fupd_same] at hj
      cases hj
      rw [e]
      exact ⟨v, by rw [valV_put, if_pos rfl], W.dk _ _ _ _ _ _ _ h1 hv⟩
    · rw [fupd_ne e] at hj
      obtain ⟨y', e1, e2⟩ := h5 j y hj
      exact ⟨y', by rw [valV_put, if_neg fun z => e (by have := Sum.inl.inj z; omega)]; exact e1, W.dk _ _ _ _ _ _ _ h1 e2⟩
end
def valR (H : Hp) (i : Nat) (x : Option Nat) (v : V) : Prop := match x with
  | none => v = .non
  | some k => ∃ b, v = .ref b ∧ H b = some (.tup [.int (i : Int), .int (k : Int)])
def valC (H : Hp) (k : Nat) (i : Nat) (v : V) : Prop := ∃ b, v = .ref b ∧ H b = some (.tup [.int (i : Int), .int (k : Int)])
theorem vlC : Vl valC where
  dk := fun H d kvs kvs' i x v h hv => by
    obtain ⟨b, e1, e2⟩ := hv
    exact ⟨b, e1, (upd_ne (ne_of e2 h fun z => by cases z)).trans e2⟩
  sm := fun H H' i x v s hv => by
    obtain ⟨b, e1, e2⟩ := hv
    exact ⟨b, e1, s _ _ e2⟩
theorem vlR : Vl valR where
  dk := fun H d kvs kvs' i x v h hv => by
    cases x with
    | none => exact hv
    | some k =>
      obtain ⟨b, e1, e2⟩ := hv
      exact ⟨b, e1, (upd_ne (ne_of e2 h fun z => by cases z)).trans e2⟩
  sm := fun H H' i x v s hv => by
    cases x with
    | none => exact hv
    | some k =>
      obtain ⟨b, e1, e2⟩ := hv
      exact ⟨b, e1, s _ _ e2⟩
/-- both dicts -/
structure RSt (H0 : Hp) (dr dc : Addr) (r c : Nat) (rp : Nat → Option (Option Nat)) (cp : Nat → Option Nat) (H : Hp) : Prop where
  sm : Same H0 H
  rw : Dc valR r H dr rp
  cl : Dc valC c H dc cp
section
variable {H0 : Hp} {dr dc : Addr} {r c : Nat} {rp : Nat → Option (Option Nat)} {cp : Nat → Option Nat} {H : Hp}
theorem RSt.same (R : RSt H0 dr dc r c rp cp H) {H' : Hp} (s : Same H H') : RSt H0 dr dc r c rp cp H' := ⟨R.sm.trans s, R.rw.same vlR s, R.cl.same vlC s⟩
theorem RSt.putC (R : RSt H0 dr dc r c rp cp H) (nr : H0 dr = none) (nc : H0 dc = none) (ne : dr ≠ dc) (c6 : c ≤ 6) {i k : Nat} (hk : k < c) (h0 : cp k = none) {b : Addr} (hb : H b = some (.tup [.int (i : Int), .int (k : Int)])) :
    ∃ H', DPut H dc (.int k) (.ref b) H' ∧ RSt H0 dr dc r c rp (fupd cp k (some i)) H' := by
  obtain ⟨kvs, kvs', h1, h2, h3⟩ := R.cl.put vlC c6 hk h0 (x := i) (v := .ref b) ⟨b, rfl, hb⟩
  exact ⟨_, h2, fun a o e => by rw [upd_ne (ne_of_none e nc)]; exact R.sm _ _ e, R.rw.other vlR h1 ne, h3⟩
theorem RSt.putR (R : RSt H0 dr dc r c rp cp H) (nr : H0 dr = none) (nc : H0 dc = none) (ne : dr ≠ dc) (r6 : r ≤ 6) {i k : Nat} (hi : i < r) (h0 : rp i = none) {b : Addr} (hb : H b = some (.tup [.int (i : Int), .int (k : Int)])) :
    ∃ H', DPut H dr (.int i) (.ref b) H' ∧ RSt H0 dr dc r c (fupd rp i (some (some k))) cp H' := by
  obtain ⟨kvs, kvs', h1, h2, h3⟩ := R.rw.put vlR r6 hi h0 (x := some k) (v := .ref b) ⟨b, rfl, hb⟩
  exact ⟨_, h2, fun a o e => by rw [upd_ne (ne_of_none e nr)]; exact R.sm _ _ e, h3, R.cl.other vlC h1 ne.symm⟩
end
theorem un_all {α : Type} : ∀ n, un n (fun _ => (none : Option α)) = n
  | 0 => rfl
  | n + 1 => congrArg (· + 1) (un_all n)
theorem RSt.start {H : Hp} {dr dc : Addr} {r c i : Nat} (nr : H dr = none) (nc : upd H dr (.dK [(Sum.inl (i : Int), V.non)]) dc = none) (hi : i < r) :
    RSt H dr dc r c (fupd (fun _ => none) i (some none)) (fun _ => none) (upd (upd H dr (.dK [(Sum.inl (i : Int), V.non)])) dc (.dK [])) := by
  have ne : dr ≠ dc := fun z => by
    rw [← z, upd_same] at nc
    cases nc
  have nc' : H dc = none := by
    rw [upd_ne ne.symm] at nc
    exact nc
  refine ⟨fun b o e => ?_, ⟨[(Sum.inl (i : Int), V.non)], (upd_ne ne).trans upd_same, ⟨[i], rfl⟩, ?_, fun j hj => ?_, fun j x hj => ?_⟩, ⟨[], upd_same, ⟨[], rfl⟩, (Nat.zero_add _).trans (un_all c), fun _ _ => rfl, fun _ _ z => by cases z⟩⟩
  · rw [upd_ne (ne_of_none e nc'), upd_ne (ne_of_none e nr)]
    exact e
  · have h1 := un_upd (f := fun _ => (none : Option (Option Nat))) (v := none) hi rfl
    have h2 := un_all (α := Option Nat) r
    show 1 + _ = _
    omega
  · have ne' : j ≠ i := fun z => by
      rw [z, fupd_same] at hj
      cases hj
    rw [valV_neg (show ¬ Sum.inl (i : Int) = Sum.inl (j : Int) from fun z => ne' (by have := Sum.inl.inj z; omega))]
    rfl
  · by_cases e : j = i
    · rw [e, fupd_same] at hj
      cases hj
      exact ⟨.non, by rw [e]; exact valV_pos rfl, rfl⟩
    · rw [fupd_ne e] at hj
      cases hj
theorem e12 {α β : Type} {o : Option α} {y : Option β} (e : o.isSome = y.isSome) : (o.isSome = true → y ≠ none) ∧ (o.isSome = false → y = none) := by
  cases y with
  | none => exact ⟨fun z => (by rw [e] at z; cases z), fun _ => rfl⟩
  | some y => exact ⟨fun _ z => (by cases z), fun z => by rw [e] at z; cases z⟩
/-- nothing more by one place -/
def Cl1 (up : Bool) (u : Mat) (rp : Nat → Option (Option Nat)) (cp : Nat → Option Nat) (q : Pl) : Prop :=
  (rp q.1 ≠ none → cp q.2 = none → ¬ (up = false ∨ 0 < u q.1 q.2)) ∧ (cp q.2 ≠ none → rp q.1 = none → ¬ (up = true ∨ 0 < u q.1 q.2))
def spReached (C : Addr) : Sp := fun vs H Q _ => ∃ (p : Addr) (r c : Nat) (ra : Nat → Addr) (pl : Pl) (up : Bool) (oth : List Pl) (Hf : Hp) (u : Mat), vs = [.ref p] ∧ Fz C p r ra pl up oth Hf ∧ Mv r c ra Hf u H ∧ pl.1 < r ∧ r ≤ 6 ∧ c ≤ 6 ∧
  (∀ i k, (i, k) ∈ oth → i < r ∧ k < c) ∧
  ∀ (H' : Hp) (t dr dc : Addr) (rp : Nat → Option (Option Nat)) (cp : Nat → Option Nat) (ro ka : Nat → Nat) (n : Nat), Tree up oth u pl.1 rp cp ro ka n → Closed up oth u rp cp → RSt H dr dc r c rp cp H' → H' t = some (.tup [.ref dr, .ref dc]) → Q (.ref t) H'
theorem scReached : FnScope ["self", "rows", "columns", "fresh", "i", "k"] ["self"] (defScope sReached) := ⟨rfl, rfl, rfl, by decide +kernel, rfl, by decide +kernel, by decide +kernel⟩
section
variable {P : Program} {w : PySem.World} {K : PySem.W.Frag} {mg : Str → Option Value} {base : Heap} {C : Addr}
theorem ok_reached {f : Addr} {fd : FuncData} (F : Fun K "reached" "Moves.reached" sReached f fd) (T : Mt K C) : FnOk P w K mg base CX0 1 f fd ["self"] (spReached C) := by
  refine F.ok scReached (fun vs H Q E h => ?_) (fun cdv A outer s H vs Q E hr h => ?_)
  · obtain ⟨p, r, c, ra, pl, up, oth, Hf, u, rfl, _⟩ := h
    rfl
  · obtain ⟨p, r, c, ra, pl, up, oth, Hf, u, rfl, Z, M, hi, r6, c6, hv, q⟩ := h
    have hu : (A.deeper (envOfC "Moves.reached" (defScope sReached) s.heap.objs.size f cdv)).units + 1 < cLine := by
      have := hr.un
      omega
    refine ⟨_, pss_cons (ps_set (i := 1) scReached.nd rfl (.inl rfl) (pe_disp (pps_cons (pe_ix ix_tup (pe_fld (pv 0) rfl) pe_int (fun _ _ => rfl)) pe_non pps_nil) rfl rfl (by simp) (by decide)))
      (pss_cons (ps_set (i := 2) scReached.nd rfl (.inl rfl) pe_dnewK)
      (pss_cons (ps_set (i := 3) scReached.nd rfl (.inl rfl) pe_bl)
      (pss_cons (ps_while PassesOwn.never (pt_val (pv 3))
        (pss_cons (ps_set (i := 3) scReached.nd rfl (.inl rfl) pe_bl)
        (pss_one (ps_for PassesOwn.never rfl (pi_list (pe_fld (pv 0) rfl)) (pg_tup rfl (pgs_cons (pg_name (i := 4) scReached.nd rfl (.inl rfl)) (pgs_cons (pg_name (i := 5) scReached.nd rfl (.inl rfl)) pgs_nil)))
          (pss_cons (ps_if (PW.pt (pw_and (pt_cmp (pc_din hu (pv 4) (pv 1))) (pw_and (pt_cmp (pc_dnotin hu (pv 5) (pv 2))) (pw_and1 (PW.pt (pw_or (pt_not (pt_val (pe_fld (pv 0) rfl))) (pw_or1 (pt_cmpR op_gt (pe_ix ix_list (pe_ix ix_list (pe_fld (pv 0) rfl) (pv 4) (fun _ _ => rfl)) (pv 5) (fun _ _ => rfl)) pe_int (nomark _)))))))))
            (pss_cons (ps_dput hu (pv 2) (pv 5) (pe_tup (pa_cons (pv 4) (pa_cons (pv 5) pa_nil))) rfl) (pss_one (ps_set (i := 3) scReached.nd rfl (.inl rfl) pe_bl))) pss_nil)
          (pss_one (ps_if (PW.pt (pw_and (pt_cmp (pc_din hu (pv 5) (pv 2))) (pw_and (pt_cmp (pc_dnotin hu (pv 4) (pv 1))) (pw_and1 (PW.pt (pw_or (pt_val (pe_fld (pv 0) rfl)) (pw_or1 (pt_cmpR op_gt (pe_ix ix_list (pe_ix ix_list (pe_fld (pv 0) rfl) (pv 4) (fun _ _ => rfl)) (pv 5) (fun _ _ => rfl)) pe_int (nomark _)))))))))
            (pss_cons (ps_dput hu (pv 1) (pv 4) (pe_tup (pa_cons (pv 4) (pa_cons (pv 5) pa_nil))) rfl) (pss_one (ps_set (i := 3) scReached.nd rfl (.inl rfl) pe_bl))) pss_nil)))))))
      (pss_one (ps_ret (pe_tup (pa_cons (pv 1) (pa_cons (pv 2) pa_nil)))))))), ?_⟩
    obtain ⟨dx, wa, pv', oa, hp, hw, dp, doo⟩ := Z.ob
    have hp := M.sm _ _ hp
    have hw := M.sm _ _ hw
    obtain ⟨pa, rfl, hpa⟩ := (dp.same M.sm).pair
    obtain ⟨oa', zs, eo, hoa, hzl, _, hzs⟩ := id (DT.list (f := pD) (doo.same M.sm))
    cases eo
    refine fun dr nr => ?_
    refine ⟨_, rfl, p, C, dx, _, _, rfl, (upd_ne (ne_of_none hp nr)).trans hp, T.cl, T.nP, mf_p, pa, _, _, _, rfl, rfl, SqT.of ((upd_ne (ne_of_none hpa nr)).trans hpa), atI_nat (j := 0) rfl, upd_same, [(Sum.inl (pl.1 : Int), .non)], rfl, (by show 1 ≤ 15; decide), ?_⟩
    rw [upd_upd]
    refine fun dc nc => ?_
    have R0 := RSt.start (c := c) nr nc hi
    have ne : dr ≠ dc := fun z => by
      rw [← z] at nc
      have h2 : upd H dr (.dK [(Sum.inl (pl.1 : Int), V.non)]) dr = none := nc
      rw [upd_same] at h2
      cases h2
    have nc' : H dc = none := by
      have h2 : upd H dr (.dK [(Sum.inl (pl.1 : Int), V.non)]) dc = none := nc
      rw [upd_ne ne.symm] at h2
      exact h2
    let W : Nat → L2.St → Hp → Prop := fun m σ H' => ∃ rp cp ro ka n b vi vk, σ = [some (.ref p), some (.ref dr), some (.ref dc), some (.bl b), vi, vk] ∧ RSt H dr dc r c rp cp H' ∧ Tree up oth u pl.1 rp cp ro ka n ∧ (b = false → Closed up oth u rp cp) ∧ un r rp + un c cp + (if b = true then 1 else 0) = m
    refine ⟨W, ⟨_, _, _, _, _, _, true, _, _, rfl, R0, Tree.start up oth u pl.1, (fun z => by cases z), rfl⟩, fun m σ H' hW => ?_⟩
    obtain ⟨rp, cp, ro, ka, n, b, vi, vk, rfl, R, Tr, hc, hm⟩ := hW
    refine ⟨_, rfl, b, rfl, ite2 (fun hb => ?_) (fun hb => ?_)⟩
    · subst hb
      refine ⟨fun σ' H' => ∃ m', m' < m ∧ W m' σ' H', fun _ _ h => h, ?_⟩
      refine ⟨_, rfl, p, C, dx, _, _, rfl, R.sm _ _ hp, T.cl, T.nO, mf_o, oa, rfl, ⟨zs, SqL.of (R.sm _ _ hoa)⟩, ?_⟩
      refine for_list (K := K) (a := oa) (xs := zs) (fun j σ H' => ∃ rp cp ro ka n b vi vk, σ = [some (.ref p), some (.ref dr), some (.ref dc), some (.bl b), vi, vk] ∧ RSt H dr dc r c rp cp H' ∧ Tree up oth u pl.1 rp cp ro ka n ∧ (b = false → ∀ q, q ∈ oth.take j → Cl1 up u rp cp q) ∧ un r rp + un c cp + (if b = true then 1 else 0) < m)
        ⟨rp, cp, ro, ka, n, false, vi, vk, rfl, R, Tr, (fun _ q hq => by simp at hq), by simp at hm ⊢; omega⟩ (fun j σ H' _ hP => ?_) (fun j x σ H' hx hP => ?_) (fun σ H' hP => ?_)
      · obtain ⟨_, _, _, _, _, _, _, _, _, R', _⟩ := hP
        exact SqL.of (R'.sm _ _ hoa)
      · obtain ⟨rp, cp, ro, ka, n, b, vi, vk, rfl, R, Tr, hc, hm⟩ := hP
        have hj : j < oth.length := by
          have := (List.getElem?_eq_some_iff.mp hx).1
          omega
        obtain ⟨x', ex, dx'⟩ := hzs j oth[j] (List.getElem?_eq_getElem hj)
        rw [hx] at ex
        cases ex
        obtain ⟨b0, rfl, hb0⟩ := dx'.pair
        generalize eq0 : oth[j] = q0 at hb0
        obtain ⟨i, k⟩ := q0
        have hmem : (i, k) ∈ oth := by
          rw [← eq0]
          exact List.getElem_mem hj
        obtain ⟨hi', hk'⟩ := hv i k hmem
        have tk : oth.take (j + 1) = oth.take j ++ [(i, k)] := by
          rw [List.take_add_one, List.getElem?_eq_getElem hj, eq0]
          rfl
        have hrow := M.row i hi'
        have hcell : (((List.range c).map (u i)).map V.int)[k]? = some (.int (u i k)) := by
          rw [List.getElem?_map, map_range_get hk']
          rfl
        refine ⟨b0, _, rfl, SqT.of (R.sm _ _ hb0), rfl, _, _, rfl, _, _, rfl, rfl, ?_⟩
        obtain ⟨o1, g1, e1, _⟩ := R.rw.get i
        obtain ⟨o2, g2, e2, _⟩ := R.cl.get k
        refine tAnd_go (b1 := o1.isSome) (b2 := (!o2.isSome && (!up || decide (0 < u i k)))) (fun Q' q' => ⟨_, rfl, _, rfl, dr, o1, rfl, g1, _, rfl, q'⟩) (fun _ Q' q' => ?_) ?_
        · refine tAnd_go (b1 := !o2.isSome) (b2 := (!up || decide (0 < u i k))) (fun Q' q' => ⟨_, rfl, _, rfl, dc, o2, rfl, g2, _, rfl, q'⟩) (fun _ Q' q' => ?_) q'
          refine tOr_go (b1 := !up) (b2 := decide (0 < u i k)) (fun Q' q' => ⟨_, rfl, p, C, dx, _, _, rfl, R.sm _ _ hp, T.cl, T.nU, mf_u, _, rfl, q'⟩) (fun _ Q' q' => ?_) q'
          exact ⟨_, rfl, p, C, dx, _, _, rfl, R.sm _ _ hp, T.cl, T.nW, mf_w, _, rfl, wa, _, _, _, rfl, rfl, SqL.of (R.sm _ _ hw), atI_nat (map_range_get hi'), _, rfl, ra i, _, _, _, rfl, rfl, SqL.of (R.sm _ _ hrow), atI_nat hcell, _, _, rfl, rfl, _, rfl, q'⟩
        · refine ite2 (fun h => ?_) (fun h => ?_)
          · simp only [Bool.and_eq_true, Bool.or_eq_true, Bool.not_eq_true', decide_eq_true_eq] at h
            obtain ⟨h1, h2, h3⟩ := h
            refine ⟨_, rfl, _, rfl, (by show 2 ≤ sizeLine; decide), fun b1 nb1 => ?_⟩
            obtain ⟨H4, hput, S⟩ := (R.same (same_new (o := .tup [.int (i : Int), .int (k : Int)]) nb1)).putC nr nc' ne c6 hk' ((e12 e2).2 h2) (i := i) upd_same
            refine ⟨_, rfl, _, rfl, dc, H4, rfl, hput, ?_⟩
            have T2 := Tr.addCol ((e12 e1).1 h1) ((e12 e2).2 h2) hmem fun z => h3.resolve_left fun y => by rw [z] at y; cases y
            have hc2 : true = false → ∀ q, q ∈ oth.take j → Cl1 up u rp (fupd cp k (some i)) q := fun z => by cases z
            have hh : true = false → rp i ≠ none → fupd cp k (some i) k = none → ¬ (up = false ∨ 0 < u i k) := fun z => by cases z
            have hm2 : un r rp + un c (fupd cp k (some i)) + (if true = true then 1 else 0) < m := by
              have := un_upd (v := i) hk' ((e12 e2).2 h2)
              rw [if_pos rfl]
              omega
            dsimp only [tAsg, tC, gName]
            obtain ⟨o3, g3, e3, _⟩ := S.cl.get k
            obtain ⟨o4, g4, e4, _⟩ := S.rw.get i
            refine tAnd_go (b1 := o3.isSome) (b2 := (!o4.isSome && (up || decide (0 < u i k)))) (fun Q' q' => ⟨_, rfl, _, rfl, dc, o3, rfl, g3, _, rfl, q'⟩) (fun _ Q' q' => ?_) ?_
            · refine tAnd_go (b1 := !o4.isSome) (b2 := (up || decide (0 < u i k))) (fun Q' q' => ⟨_, rfl, _, rfl, dr, o4, rfl, g4, _, rfl, q'⟩) (fun _ Q' q' => ?_) q'
              refine tOr_go (b1 := up) (b2 := decide (0 < u i k)) (fun Q' q' => ⟨_, rfl, p, C, dx, _, _, rfl, S.sm _ _ hp, T.cl, T.nU, mf_u, _, rfl, q'⟩) (fun _ Q' q' => ?_) q'
              exact ⟨_, rfl, p, C, dx, _, _, rfl, S.sm _ _ hp, T.cl, T.nW, mf_w, _, rfl, wa, _, _, _, rfl, rfl, SqL.of (S.sm _ _ hw), atI_nat (map_range_get hi'), _, rfl, ra i, _, _, _, rfl, rfl, SqL.of (S.sm _ _ hrow), atI_nat hcell, _, _, rfl, rfl, _, rfl, q'⟩
            · refine ite2 (fun h => ?_) (fun h => ?_)
              · simp only [Bool.and_eq_true, Bool.or_eq_true, Bool.not_eq_true', decide_eq_true_eq] at h
                obtain ⟨h1, h2, h3⟩ := h
                refine ⟨_, rfl, _, rfl, (by show 2 ≤ sizeLine; decide), fun b3 nb3 => ?_⟩
                obtain ⟨H5, hput5, S5⟩ := (S.same (same_new (o := .tup [.int (i : Int), .int (k : Int)]) nb3)).putR nr nc' ne r6 hi' ((e12 e4).2 h2) (k := k) upd_same
                refine ⟨_, rfl, _, rfl, dr, H5, rfl, hput5, ?_⟩
                have T3 := T2.addRow ((e12 e3).1 h1) ((e12 e4).2 h2) hmem fun z => h3.resolve_left fun y => by rw [z] at y; cases y
                refine ⟨_, _, _, _, _, true, _, _, rfl, S5, T3, (fun z => by cases z), ?_⟩
                have := un_upd (v := some k) hi' ((e12 e4).2 h2)
                rw [if_pos rfl]
                omega
              · refine ⟨_, _, _, _, _, _, _, _, rfl, S, T2, (fun z q hq => ?_), hm2⟩
                rw [tk, List.mem_append, List.mem_singleton] at hq
                rcases hq with hq | rfl
                · exact hc2 z q hq
                · refine ⟨hh z, fun h1 h2 h3 => h ?_⟩
                  have e5 : o3.isSome = true := by
                    cases e6 : o3.isSome with
                    | true => rfl
                    | false => exact absurd ((e12 e3).2 e6) h1
                  have e7 : o4.isSome = false := by
                    cases e6 : o4.isSome with
                    | false => rfl
                    | true => exact absurd h2 ((e12 e4).1 e6)
                  rw [e5, e7]
                  simp only [Bool.not_false, Bool.true_and, Bool.or_eq_true, decide_eq_true_eq]
                  exact h3
          · have S := R
            have T2 := Tr
            have hc2 := hc
            have hm2 := hm
            have hh : b = false → rp i ≠ none → cp k = none → ¬ (up = false ∨ 0 < u i k) := fun _ h1 h2 h3 => h (by
              have e5 : o1.isSome = true := by
                cases e6 : o1.isSome with
                | true => rfl
                | false => exact absurd ((e12 e1).2 e6) h1
              have e7 : o2.isSome = false := by
                cases e6 : o2.isSome with
                | false => rfl
                | true => exact absurd h2 ((e12 e2).1 e6)
              rw [e5, e7]
              simp only [Bool.not_false, Bool.true_and, Bool.or_eq_true, decide_eq_true_eq, Bool.not_eq_true']
              exact h3)
            dsimp only [tNext]
            obtain ⟨o3, g3, e3, _⟩ := S.cl.get k
            obtain ⟨o4, g4, e4, _⟩ := S.rw.get i
            refine tAnd_go (b1 := o3.isSome) (b2 := (!o4.isSome && (up || decide (0 < u i k)))) (fun Q' q' => ⟨_, rfl, _, rfl, dc, o3, rfl, g3, _, rfl, q'⟩) (fun _ Q' q' => ?_) ?_
            · refine tAnd_go (b1 := !o4.isSome) (b2 := (up || decide (0 < u i k))) (fun Q' q' => ⟨_, rfl, _, rfl, dr, o4, rfl, g4, _, rfl, q'⟩) (fun _ Q' q' => ?_) q'
              refine tOr_go (b1 := up) (b2 := decide (0 < u i k)) (fun Q' q' => ⟨_, rfl, p, C, dx, _, _, rfl, S.sm _ _ hp, T.cl, T.nU, mf_u, _, rfl, q'⟩) (fun _ Q' q' => ?_) q'
              exact ⟨_, rfl, p, C, dx, _, _, rfl, S.sm _ _ hp, T.cl, T.nW, mf_w, _, rfl, wa, _, _, _, rfl, rfl, SqL.of (S.sm _ _ hw), atI_nat (map_range_get hi'), _, rfl, ra i, _, _, _, rfl, rfl, SqL.of (S.sm _ _ hrow), atI_nat hcell, _, _, rfl, rfl, _, rfl, q'⟩
            · refine ite2 (fun h => ?_) (fun h => ?_)
              · simp only [Bool.and_eq_true, Bool.or_eq_true, Bool.not_eq_true', decide_eq_true_eq] at h
                obtain ⟨h1, h2, h3⟩ := h
                refine ⟨_, rfl, _, rfl, (by show 2 ≤ sizeLine; decide), fun b3 nb3 => ?_⟩
                obtain ⟨H5, hput5, S5⟩ := (S.same (same_new (o := .tup [.int (i : Int), .int (k : Int)]) nb3)).putR nr nc' ne r6 hi' ((e12 e4).2 h2) (k := k) upd_same
                refine ⟨_, rfl, _, rfl, dr, H5, rfl, hput5, ?_⟩
                have T3 := T2.addRow ((e12 e3).1 h1) ((e12 e4).2 h2) hmem fun z => h3.resolve_left fun y => by rw [z] at y; cases y
                refine ⟨_, _, _, _, _, true, _, _, rfl, S5, T3, (fun z => by cases z), ?_⟩
                have := un_upd (v := some k) hi' ((e12 e4).2 h2)
                rw [if_pos rfl]
                omega
              · refine ⟨_, _, _, _, _, _, _, _, rfl, S, T2, (fun z q hq => ?_), hm2⟩
                rw [tk, List.mem_append, List.mem_singleton] at hq
                rcases hq with hq | rfl
                · exact hc2 z q hq
                · refine ⟨hh z, fun h1 h2 h3 => h ?_⟩
                  have e5 : o3.isSome = true := by
                    cases e6 : o3.isSome with
                    | true => rfl
                    | false => exact absurd ((e12 e3).2 e6) h1
                  have e7 : o4.isSome = false := by
                    cases e6 : o4.isSome with
                    | false => rfl
                    | true => exact absurd h2 ((e12 e4).1 e6)
                  rw [e5, e7]
                  simp only [Bool.not_false, Bool.true_and, Bool.or_eq_true, decide_eq_true_eq]
                  exact h3
      · obtain ⟨rp, cp, ro, ka, n, b, vi, vk, rfl, R, Tr, hc, hm⟩ := hP
        refine ⟨_, hm, rp, cp, ro, ka, n, b, vi, vk, rfl, R, Tr, fun z i k hq => ?_, rfl⟩
        refine hc z (i, k) ?_
        rw [List.take_of_length_le (by omega)]
        exact hq
    · have hb' : b = false := by
        cases b with
        | true => exact absurd rfl hb
        | false => rfl
      refine ⟨_, rfl, _, rfl, (by show 2 ≤ sizeLine; decide), fun t nt => ?_⟩
      exact q _ t dr dc rp cp ro ka n Tr (hc hb') (R.same (same_new nt)) upd_same
end
end Cv

/-! Countveil walks 7: Moves.way. -/
namespace Cv
open PySem PySem.Spec PyProof.Rows L2
theorem nodup_len {α : Type} [DecidableEq α] : ∀ {l m : List α}, l.Nodup → (∀ x, x ∈ l → x ∈ m) → l.length ≤ m.length
  | [], _, _, _ => Nat.zero_le _
  | x :: l, m, nd, h => by
    obtain ⟨h1, h2⟩ := List.nodup_cons.mp nd
    have hx : x ∈ m := h x List.mem_cons_self
    have ih := nodup_len (l := l) (m := m.erase x) h2 fun y hy => (List.mem_erase_of_ne (fun z => h1 (by rw [← z]; exact hy))).mpr (h y (List.mem_cons_of_mem _ hy))
    rw [List.length_erase_of_mem hx] at ih
    have : 0 < m.length := List.length_pos_of_mem hx
    rw [List.length_cons]
    omega
theorem Way.len {up : Bool} {oth : List Pl} {u : Mat} {pi : Nat} {rp : Nat → Option (Option Nat)} {cp : Nat → Option Nat} {ro ka : Nat → Nat} {n k : Nat} {l : List (Pl × Bool)} (T : Tree up oth u pi rp cp ro ka n) (W : Way rp cp k l) : l.length ≤ 2 * oth.length := by
  have h := nodup_len (m := oth.map (fun q => (q, true)) ++ oth.map fun q => (q, false)) (W.nodup T) fun x hx => by
    obtain ⟨q, b⟩ := x
    have hq := (W.cells T q b hx).1
    rw [List.mem_append]
    cases b with
    | true => exact .inl (List.mem_map.mpr ⟨q, hq, rfl⟩)
    | false => exact .inr (List.mem_map.mpr ⟨q, hq, rfl⟩)
  rw [List.length_append, List.length_map, List.length_map] at h
  omega
def wD (x : Pl × Bool) : PyData := .tuple [pD x.1, .bool x.2]
theorem DT.ofW {H : Hp} {a b : Addr} {q : Pl} {d : Bool} (h : H a = some (.tup [.ref b, .bl d])) (h2 : H b = some (.tup [.int q.1, .int q.2])) : DT H (.ref a) (wD (q, d)) := .tup h (.cons (DT.ofPair h2) (.cons (.bl d) .nil))
theorem DT.w {H : Hp} {v : V} {x : Pl × Bool} (d : DT H v (wD x)) : ∃ a b, v = .ref a ∧ H a = some (.tup [.ref b, .bl x.2]) ∧ H b = some (.tup [.int x.1.1, .int x.1.2]) := by
  obtain ⟨a, xs, rfl, h, t⟩ := d.inTup
  cases t with
  | cons h1 t =>
    cases t with
    | cons h2 t =>
      cases t
      cases h2
      obtain ⟨b, rfl, hb⟩ := h1.pair
      exact ⟨a, b, rfl, h, hb⟩
theorem DTs.wls {H H' : Hp} (s : ∀ b ys, H b = some (.tup ys) → H' b = some (.tup ys)) : ∀ {l : List (Pl × Bool)} {ys : List V}, DTs H ys (l.map wD) → DTs H' ys (l.map wD)
  | [], _, .nil => .nil
  | q :: l, _, .cons h t => by
    obtain ⟨a, b, rfl, ha, hb⟩ := h.w
    exact .cons (DT.ofW (s _ _ ha) (s _ _ hb)) (DTs.wls s t)
theorem push_w {H H' : Hp} {Fa y1 y2 : Addr} {xs : List V} {acc : List (Pl × Bool)} {q : Pl} {b : Bool} (sm : Same H (hide Fa H')) (hF : H' Fa = some (.lst xs)) (hT : DTs (hide Fa H') xs (acc.map wD)) (ny1 : H' y1 = none) (ny2 : upd H' y1 (.tup [.int q.1, .int q.2]) y2 = none) :
    Same H (hide Fa (upd (upd (upd H' y1 (.tup [.int q.1, .int q.2])) y2 (.tup [.ref y1, .bl b])) Fa (.lst (xs ++ [.ref y2])))) ∧
    DTs (hide Fa (upd (upd (upd H' y1 (.tup [.int q.1, .int q.2])) y2 (.tup [.ref y1, .bl b])) Fa (.lst (xs ++ [.ref y2])))) (xs ++ [.ref y2]) ((acc ++ [(q, b)]).map wD) := by
  have s1 := same_new (o := .tup [.int q.1, .int q.2]) ny1
  have s2 := same_new (o := .tup [.ref y1, .bl b]) ny2
  have F1 : y1 ≠ Fa := (ne_of_none hF ny1).symm
  have F2 : y2 ≠ Fa := (ne_of_none (s1 _ _ hF) ny2).symm
  have n12 : y1 ≠ y2 := fun z => by
    rw [← z, upd_same] at ny2
    cases ny2
  rw [hide_upd, hide_upd_ne F2, hide_upd_ne F1]
  have s3 : Same (hide Fa H') (upd (upd (hide Fa H') y1 (.tup [.int q.1, .int q.2])) y2 (.tup [.ref y1, .bl b])) := by
    refine (same_new (by rw [hide_ne F1]; exact ny1)).trans (same_new ?_)
    rw [upd_ne n12.symm] at ny2 ⊢
    rw [hide_ne F2]
    exact ny2
  refine ⟨sm.trans s3, ?_⟩
  rw [List.map_append]
  exact (hT.same s3).append (.cons (DT.ofW upd_same ((upd_ne n12).trans upd_same)) .nil)
def spWay (C : Addr) : Sp := fun vs H Q _ => ∃ (p : Addr) (r c : Nat) (ra : Nat → Addr) (pl : Pl) (up : Bool) (oth : List Pl) (Hf Hb : Hp) (u : Mat) (dr dc : Addr) (rp : Nat → Option (Option Nat)) (cp : Nat → Option Nat) (ro ka : Nat → Nat) (n : Nat), vs = [.ref p, .ref dr, .ref dc] ∧
  Fz C p r ra pl up oth Hf ∧ Same Hf H ∧ Tree up oth u pl.1 rp cp ro ka n ∧ RSt Hb dr dc r c rp cp H ∧ oth.length ≤ 100 ∧ cp pl.2 ≠ none ∧
  ∀ (H' : Hp) (a : Addr) (ys : List V) (l : List (Pl × Bool)), Same H H' → H a = none → Way rp cp pl.2 l → H' a = some (.lst ys) → DTs H' ys (l.map wD) → Q (.ref a) H'
theorem scWay : FnScope ["self", "rows", "columns", "found", "k", "i"] ["self", "rows", "columns"] (defScope sWay) := ⟨rfl, rfl, rfl, by decide +kernel, rfl, by decide +kernel, by decide +kernel⟩
section
variable {P : Program} {w : PySem.World} {K : PySem.W.Frag} {mg : Str → Option Value} {base : Heap} {C : Addr}
theorem ok_way {f : Addr} {fd : FuncData} (F : Fun K "way" "Moves.way" sWay f fd) (T : Mt K C) : FnOk P w K mg base CX0 1 f fd ["self", "rows", "columns"] (spWay C) := by
  refine F.ok scWay (fun vs H Q E h => ?_) (fun cdv A outer s H vs Q E hr h => ?_)
  · obtain ⟨p, r, c, ra, pl, up, oth, Hf, Hb, u, dr, dc, rp, cp, ro, ka, n, rfl, _⟩ := h
    rfl
  · obtain ⟨p, r, c, ra, pl, up, oth, Hf, Hb, u, dr, dc, rp, cp, ro, ka, n, rfl, Z, sf, Tr, R, o100, hcp, q⟩ := h
    have hu : (A.deeper (envOfC "Moves.way" (defScope sWay) s.heap.objs.size f cdv)).units + 1 < cLine := by
      have := hr.un
      omega
    refine ⟨_, pss_cons (ps_set (i := 3) scWay.nd rfl (.inl rfl) (pe_lst pa_nil))
      (pss_cons (ps_set (i := 4) scWay.nd rfl (.inl rfl) (pe_ix ix_tup (pe_fld (pv 0) rfl) pe_int (fun _ _ => rfl)))
      (pss_one (ps_while PassesOwn.never (pt_val pe_bl)
        (pss_cons (ps_set (i := 5) scWay.nd rfl (.inl rfl) (pe_ix ix_tup (pe_dget hu (pv 2) (pv 4) (fun _ _ => rfl)) pe_int (fun _ _ => rfl)))
        (pss_cons (ps_expr (pe_bm PySem.F.plainAttrs_list PySem.F.slot_list_append PySem.F.type_list_append mt_append (pv 3) (pa_cons (pe_tup (pa_cons (pe_tup (pa_cons (pv 5) (pa_cons (pv 4) pa_nil))) (pa_cons pe_bl pa_nil))) pa_nil)))
        (pss_cons (ps_if (pt_cmp (pc_isN (pe_dget hu (pv 1) (pv 5) (fun _ _ => rfl)))) (pss_one (ps_ret (pv 3))) pss_nil)
        (pss_cons (ps_set (i := 4) scWay.nd rfl (.inl rfl) (pe_ix ix_tup (pe_dget hu (pv 1) (pv 5) (fun _ _ => rfl)) pe_int (fun _ _ => rfl)))
        (pss_one (ps_expr (pe_bm PySem.F.plainAttrs_list PySem.F.slot_list_append PySem.F.type_list_append mt_append (pv 3) (pa_cons (pe_tup (pa_cons (pe_tup (pa_cons (pv 5) (pa_cons (pv 4) pa_nil))) (pa_cons pe_bl pa_nil))) pa_nil))))))))))), ?_⟩
    obtain ⟨dx, wa, pv', oa, hp, hw, dp, doo⟩ := Z.ob
    have hp := sf _ _ hp
    obtain ⟨pa, rfl, hpa⟩ := (dp.same sf).pair
    refine ⟨Nat.zero_le _, fun Fa nF => ?_⟩
    have sF := same_new (o := .lst []) nF
    refine ⟨_, rfl, p, C, dx, _, _, rfl, sF _ _ hp, T.cl, T.nP, mf_p, pa, _, _, _, rfl, rfl, SqT.of (sF _ _ hpa), atI_nat (j := 1) rfl, ?_⟩
    let W : Nat → L2.St → Hp → Prop := fun m σ H' => ∃ k acc xs vi, σ = [some (.ref p), some (.ref dr), some (.ref dc), some (.ref Fa), some (.int (k : Nat)), vi] ∧ Same H (hide Fa H') ∧ H' Fa = some (.lst xs) ∧ DTs (hide Fa H') xs (acc.map wD) ∧ (∀ l, Way rp cp k l → Way rp cp pl.2 (acc ++ l)) ∧ cp k ≠ none ∧ ka k = m
    refine ⟨W, ⟨_, pl.2, [], [], none, rfl, ?_, upd_same, .nil, fun l h => h, hcp, rfl⟩, fun m σ H' hW => ?_⟩
    · rw [hide_upd, hide_none nF]
      exact Same.refl _
    obtain ⟨k, acc, xs, vi, rfl, sm, hF, hT, hway, hk, hm⟩ := hW
    refine ⟨true, rfl, iteT ?_⟩
    refine ⟨fun σ' H' => ∃ m', m' < m ∧ W m' σ' H', fun _ _ h => h, ?_⟩
    have room : xs.length + 2 ≤ 1000 := by
      obtain ⟨l, hl⟩ := Tr.way _ k (Nat.le_refl _) hk
      have h1 := (hway l hl).len Tr
      have h2 := hT.length
      rw [List.length_append] at h1
      rw [List.length_map] at h2
      omega
    have big : (1000 : Nat) < sizeLine := by
      rw [sizeLine_eq]
      decide
    have st : Same H H' := sm.trans hide_same
    have R1 := R.same st
    cases ec : cp k with
    | none => exact absurd ec hk
    | some i =>
    obtain ⟨t1, t2, t3, t4⟩ := Tr.colv k i ec
    obtain ⟨o2, g2, _, v2⟩ := R1.cl.get k
    obtain ⟨v, rfl, b2, rfl, hb2⟩ := v2 i ec
    refine ⟨_, rfl, _, rfl, dc, .ref b2, rfl, g2, b2, _, _, _, rfl, rfl, SqT.of hb2, atI_nat (j := 0) rfl, ?_⟩
    refine ⟨_, rfl, .inl ⟨rfl, _, SqL.of hF⟩, _, rfl, _, rfl, (by show 2 ≤ sizeLine; decide), fun y1 ny1 => ⟨by show 2 ≤ sizeLine; decide, fun y2 ny2 => ?_⟩⟩
    have s1 := same_new (o := .tup [.int (i : Int), .int (k : Int)]) ny1
    have s2 := same_new (o := .tup [.ref y1, .bl true]) ny2
    have F1 : y1 ≠ Fa := (ne_of_none hF ny1).symm
    have F2 : y2 ≠ Fa := (ne_of_none (s1 _ _ hF) ny2).symm
    refine ⟨Fa, xs, _, rfl, rfl, s2 _ _ (s1 _ _ hF), by omega, ?_⟩
    obtain ⟨sm3, hT3⟩ := push_w (q := (i, k)) (b := true) sm hF hT ny1 ny2
    have hF3 : upd (upd (upd H' y1 (.tup [.int ((i, k) : Pl).1, .int ((i, k) : Pl).2])) y2 (.tup [.ref y1, .bl true])) Fa (.lst (xs ++ [.ref y2])) Fa = some (.lst (xs ++ [.ref y2])) := upd_same
    have st3 := sm3.trans hide_same
    have R3 := R.same st3
    obtain ⟨o4, g4, e4, v4⟩ := R3.rw.get i
    cases er : rp i with
    | none => exact absurd er t2
    | some x =>
      obtain ⟨v, rfl, hv⟩ := v4 x er
      cases x with
      | none =>
        have hv : v = .non := hv
        subst hv
        refine ⟨_, rfl, _, rfl, dr, .non, rfl, g4, _, rfl, iteT ?_⟩
        refine ⟨_, rfl, q _ Fa _ _ st3 nF (hway _ (.last ec er)) hF3 (hT3.same hide_same)⟩
      | some k2 =>
        obtain ⟨b4, rfl, hb4⟩ := hv
        obtain ⟨r1, r2, r3, _⟩ := Tr.rowv i k2 er
        refine ⟨_, rfl, _, rfl, dr, _, rfl, g4, _, rfl, iteF ?_⟩
        refine ⟨_, rfl, _, rfl, dr, _, rfl, g4, b4, _, _, _, rfl, rfl, SqT.of hb4, atI_nat (j := 1) rfl, ?_⟩
        refine ⟨_, rfl, .inl ⟨rfl, _, SqL.of hF3⟩, _, rfl, _, rfl, (by show 2 ≤ sizeLine; decide), fun z1 nz1 => ⟨by show 2 ≤ sizeLine; decide, fun z2 nz2 => ?_⟩⟩
        have s4 := same_new (o := .tup [.int (i : Int), .int (k2 : Int)]) nz1
        have s5 := same_new (o := .tup [.ref z1, .bl false]) nz2
        refine ⟨Fa, _, _, rfl, rfl, s5 _ _ (s4 _ _ hF3), (by rw [List.length_append, List.length_singleton]; omega), ?_⟩
        obtain ⟨sm6, hT6⟩ := push_w (q := (i, k2)) (b := false) sm3 hF3 hT3 nz1 nz2
        refine ⟨ka k2, by omega, k2, _, _, _, rfl, sm6, upd_same, hT6, fun l hl => ?_, r2, rfl⟩
        have := hway _ (.step ec er hl)
        rw [List.append_assoc, List.append_assoc]
        exact this
end
end Cv

/-! Countveil walks 8: Moves.move. -/
namespace Cv
open PySem PySem.Spec PyProof.Rows L2
/-- a method of the class and its promise -/
structure HasM (P : Program) (w : PySem.World) (K : PySem.W.Frag) (mg : Str → Option Value) (base : Heap) (k : Nat) (C : Addr) (m : Str) (ps : List Str) (sp : Sp) : Prop where
  ex : ∃ (f : Addr) (fd : FuncData), Meth K C m f ∧ Binds K fd ps [] ∧ FnOk P w K mg base CX0 k f fd ps sp
theorem G_append {up : Bool} {i k : Nat} : ∀ (a b : List (Pl × Bool)), G up (a ++ b) i k = G up a i k + G up b i k
  | [], b => by
    show G up b i k = 0 + G up b i k
    omega
  | x :: a, b => by
    show sg up x.2 * cell x.1 i k + G up (a ++ b) i k = sg up x.2 * cell x.1 i k + G up a i k + G up b i k
    rw [G_append a b]
    omega
/-- the numbers behind some steps -/
def stepU (up : Bool) (u : Mat) (m : Int) (l : List (Pl × Bool)) : Mat := fun i k => u i k + m * G up l i k
theorem stepU_nil {up : Bool} {u : Mat} {m : Int} : stepU up u m [] = u := by
  funext i k
  show u i k + m * 0 = u i k
  omega
theorem stepU_snoc {up : Bool} {u : Mat} {m : Int} {l : List (Pl × Bool)} {i k : Nat} {b : Bool} : stepU up u m (l ++ [((i, k), b)]) = put2 (stepU up u m l) i k (stepU up u m l i k + m * sg up b) := by
  funext x y
  by_cases e : (x, y) = (i, k)
  · cases e
    rw [put2_same]
    show u i k + m * G up (l ++ [((i, k), b)]) i k = u i k + m * G up l i k + m * sg up b
    rw [G_append, Int.mul_add]
    show u i k + (m * G up l i k + m * (sg up b * cell (i, k) i k + 0)) = _
    rw [show cell (i, k) i k = 1 from cell_same _, Int.mul_one, Int.add_zero]
    omega
  · rw [put2_ne e]
    show u x y + m * G up (l ++ [((i, k), b)]) x y = u x y + m * G up l x y
    rw [G_append, Int.mul_add]
    show u x y + (m * G up l x y + m * (sg up b * cell (i, k) x y + 0)) = _
    rw [cell_ne e, Int.mul_zero, Int.add_zero, Int.mul_zero]
    omega
theorem moved_put {up : Bool} {u : Mat} {m : Int} {l : List (Pl × Bool)} {i k : Nat} : moved up l (i, k) m u = put2 (stepU up u m l) i k (stepU up u m l i k - m * sg up true) := by
  funext x y
  by_cases e : (x, y) = (i, k)
  · cases e
    rw [put2_same]
    show u i k + m * G up l i k - m * (sg up true * cell (i, k) i k) = u i k + m * G up l i k - m * sg up true
    rw [show cell (i, k) i k = 1 from cell_same _, Int.mul_one]
  · rw [put2_ne e]
    show u x y + m * G up l x y - m * (sg up true * cell (i, k) x y) = u x y + m * G up l x y
    rw [cell_ne e, Int.mul_zero, Int.mul_zero]
    omega
theorem sg_neg {up b : Bool} {m : Int} (h : b = up) : m * sg up b = -m := by
  unfold sg
  rw [if_pos h]
  omega
theorem sg_pos {up b : Bool} {m : Int} (h : ¬ b = up) : m * sg up b = m := by
  unfold sg
  rw [if_neg h]
  omega
/-- a world that can't be bettered at the place -/
def Best (up : Bool) (r c : Nat) (g : Mat) (h : List Pl) (pl : Pl) (x : Int) : Prop := (up = true → IsHigh r c g h pl x) ∧ (up = false → IsLow r c g h pl x)
section
variable {t : TT} {ta tb : TE} {σ : L2.St} {H : Hp} {Q : VK} {b : Bool}
theorem tIf_lst {zs : List V} (h1 : ∀ Q' : Bool → Hp → Prop, Q' b H → t σ H Q') (h2 : b = true → ∀ Q' : VK, (∀ p, H p = none → Q' (.ref p) (upd H p (.lst zs))) → ta σ H Q') (h3 : b = false → ∀ Q' : VK, (∀ p, H p = none → Q' (.ref p) (upd H p (.lst zs))) → tb σ H Q')
    (q : ∀ p, H p = none → Q (.ref p) (upd H p (.lst zs))) : tIf t ta tb σ H Q := by
  refine h1 _ ?_
  cases b with
  | true => exact h2 rfl _ q
  | false => exact h3 rfl _ q
theorem tIf_val {v : V} (h1 : ∀ Q' : Bool → Hp → Prop, Q' b H → t σ H Q') (h2 : b = true → ∀ Q' : VK, Q' v H → ta σ H Q') (h3 : b = false → ∀ Q' : VK, Q' v H → tb σ H Q') (q : Q v H) : tIf t ta tb σ H Q := by
  refine h1 _ ?_
  cases b with
  | true => exact h2 rfl _ q
  | false => exact h3 rfl _ q
end
theorem ixN_nat {n k : Nat} (h : k < n) : ixN n (k : Int) = some k := by
  unfold ixN
  rw [if_pos (by omega), if_pos (by omega)]
  rfl
theorem less_data (up : Bool) : ∀ l : List (Pl × Bool), (l.map fun x => if x.2 = up then some (pD x.1) else none).filterMap id = ((l.filter fun x => decide (x.2 = up)).map (·.1)).map pD
  | [] => rfl
  | x :: l => by
    have ih := less_data up l
    by_cases e : x.2 = up
    · rw [List.map_cons, List.filterMap_cons, if_pos e, List.filter_cons_of_pos (by simp [e]), List.map_cons, List.map_cons]
      show pD x.1 :: _ = _
      rw [ih]
    · rw [List.map_cons, List.filterMap_cons, if_neg e, List.filter_cons_of_neg (by simp [e])]
      exact ih
theorem map_get {α β : Type} {f : α → β} {l : List α} {i : Nat} {o : β} (h : (l.map f)[i]? = some o) : ∃ x, l[i]? = some x ∧ o = f x := by
  rw [List.getElem?_map] at h
  cases e : l[i]? with
  | none =>
    rw [e] at h
    cases h
  | some x =>
    rw [e] at h
    exact ⟨x, rfl, (Option.some.inj h).symm⟩
def spMove (C : Addr) : Sp := fun vs H Q _ => ∃ (p : Addr) (r c : Nat) (ra : Nat → Addr) (pl : Pl) (up : Bool) (h : List Pl) (Hf : Hp) (g : Mat), vs = [.ref p] ∧ Fz C p r ra pl up (others h pl) Hf ∧ Mv r c ra Hf g H ∧ r ≤ 6 ∧ c ≤ 6 ∧ h.length ≤ 100 ∧
  (∀ i k, (i, k) ∈ h → i < r ∧ k < c) ∧ pl ∈ h ∧ (∀ i k, i < r → k < c → 0 ≤ g i k) ∧
  ∀ (H' : Hp) (t a b : Addr) (xs ys : List Int) (u : Mat), Mv r c ra Hf u H' → Best up r c g h pl (u pl.1 pl.2) → H' t = some (.tup [.ref a, .ref b]) → H' a = some (.lst (xs.map V.int)) → H' b = some (.lst (ys.map V.int)) → Q (.ref t) H'
theorem scMove : FnScope ["self", "rows", "columns", "cells", "by_row", "less", "i", "k", "much", "cell"] ["self"] (defScope sMove) := ⟨rfl, rfl, rfl, by decide +kernel, rfl, by decide +kernel, by decide +kernel⟩
section
variable {P : Program} {w : PySem.World} {K : PySem.W.Frag} {mg : Str → Option Value} {base : Heap} {C : Addr}
theorem ok_move {f : Addr} {fd : FuncData} (F : Fun K "move" "Moves.move" sMove f fd) (G : Gb mg) (T : Mt K C) (hR : HasM P w K mg base 1 C "reached" ["self"] (spReached C)) (hW : HasM P w K mg base 1 C "way" ["self", "rows", "columns"] (spWay C)) (hS : HasM P w K mg base 1 C "standing" ["self"] (spStanding C)) :
    FnOk P w K mg base CX0 2 f fd ["self"] (spMove C) := by
  obtain ⟨fR, fdR, mR, bR, oR⟩ := hR.ex
  obtain ⟨fW, fdW, mW, bW, oW⟩ := hW.ex
  obtain ⟨fS, fdS, mS, bS, oS⟩ := hS.ex
  refine F.ok scMove (fun vs H Q E h => ?_) (fun cdv A outer s H vs Q E hr h => ?_)
  · obtain ⟨p, r, c, ra, pl, up, h, Hf, g, rfl, _⟩ := h
    rfl
  · obtain ⟨p, r, c, ra, pl, up, h, Hf, g, rfl, Z, M, r6, c6, h100, hv, hp, hg, q⟩ := h
    have hu : (A.deeper (envOfC "Moves.move" (defScope sMove) s.heap.objs.size f cdv)).units + 1 < cLine := by
      have := hr.un
      omega
    refine ⟨_, pss_cons (ps_asg (pe_meth0 (pv 0) T.cl mR oR hr bR .nil pass0) (pg_tup rfl (pgs_cons (pg_name (i := 1) scMove.nd rfl (.inl rfl)) (pgs_cons (pg_name (i := 2) scMove.nd rfl (.inl rfl)) pgs_nil))))
      (pss_cons (ps_while PassesOwn.never (PW.pt (pw_and (pt_cmp (pc_din hu (pe_ix ix_tup (pe_fld (pv 0) rfl) pe_int (fun _ _ => rfl)) (pv 2))) (pw_and1 (PW.pt (pw_or (pt_val (pe_fld (pv 0) rfl)) (pw_or1 (pt_cmpR op_gt (pe_meth0 (pv 0) T.cl mS oS hr bS .nil pass0) pe_int (nomark _))))))))
        (pss_cons (ps_set (i := 3) scMove.nd rfl (.inl rfl) (pe_meth (pv 0) T.cl mW oW hr bW .nil pass0 (pa_cons (pv 1) (pa_cons (pv 2) pa_nil))))
        (pss_cons (ps_setLc (i := 5) (own := [("cell", 9), ("by_row", 4)]) (g := gTup K 2 (gCons (gName 9) (gCons (gName 4) gNil))) (tt := tTest (tOp rEq (tVar 4) (tFld K (tVar 0) "up"))) rfl scMove.nd rfl rfl (sw_true rfl rfl rfl (by decide +kernel)) (pi_list (pv 3)) (blkOk_by (N := ["self", "rows", "columns", "cells", "by_row", "less", "i", "k", "much", "cell"]) (sc := defScope sMove) (by decide +kernel))
          (fun _ _ _ _ _ => pg_tup rfl (pgs_cons (pg_name (i := 9) scMove.nd rfl (.inl rfl)) (pgs_cons (pg_name (i := 4) scMove.nd rfl (.inl rfl)) pgs_nil))) (fun _ _ _ _ _ => pts_one (pt_cmpR op_eq (pv 4) (pe_fld (pv 0) rfl) (nomark _))) (fun _ _ _ _ _ => pv 9))
        (pss_cons (ps_set (i := 8) scMove.nd rfl (.inl rfl) (pe_callB (cr_min rfl) (by rfl) G.min b_min (pa_cons (pe_op op_cat (pe_lc (own := [("i", 6), ("k", 7)]) (g := gTup K 2 (gCons (gName 6) (gCons (gName 7) gNil))) (tt := tYes) (te := tOp (rIxL K) (tOp (rIxL K) (tFld K (tVar 0) "world") (tVar 6)) (tVar 7)) rfl scMove.nd (pi_list (pv 5)) (blkOk_by (N := ["self", "rows", "columns", "cells", "by_row", "less", "i", "k", "much", "cell"]) (sc := defScope sMove) (by decide +kernel))
            (fun _ _ _ _ _ => pg_tup rfl (pgs_cons (pg_name (i := 6) scMove.nd rfl (.inl rfl)) (pgs_cons (pg_name (i := 7) scMove.nd rfl (.inl rfl)) pgs_nil))) (fun _ _ _ _ _ => pts_nil) (fun _ _ _ _ _ => pe_ix ix_list (pe_ix ix_list (pe_fld (pv 0) rfl) (pv 6) (fun _ _ => rfl)) (pv 7) (fun _ _ => rfl)))
            (pe_ifExp (pt_val (pe_fld (pv 0) rfl)) (pe_lst pa_nil) (pe_lst (pa_cons (pe_meth0 (pv 0) T.cl mS oS hr bS .nil pass0) pa_nil)))) pa_nil)))
        (pss_cons (ps_for PassesOwn.never rfl (pi_list (pv 3)) (pg_tup rfl (pgs_cons (pg_tup rfl (pgs_cons (pg_name (i := 6) scMove.nd rfl (.inl rfl)) (pgs_cons (pg_name (i := 7) scMove.nd rfl (.inl rfl)) pgs_nil))) (pgs_cons (pg_name (i := 4) scMove.nd rfl (.inl rfl)) pgs_nil)))
          (pss_one (ps_augS (pe_ix ix_list (pe_fld (pv 0) rfl) (pv 6) (fun _ _ => rfl)) (pv 7) get_list (pe_ifExp (pt_cmpR op_eq (pv 4) (pe_fld (pv 0) rfl) (nomark _)) (pe_un un_neg (pv 8)) (pv 8)) ip_add set_list)))
        (pss_cons (ps_augS (pe_ix ix_list (pe_fld (pv 0) rfl) (pe_ix ix_tup (pe_fld (pv 0) rfl) pe_int (fun _ _ => rfl)) (fun _ _ => rfl)) (pe_ix ix_tup (pe_fld (pv 0) rfl) pe_int (fun _ _ => rfl)) get_list (pe_ifExp (pt_val (pe_fld (pv 0) rfl)) (pv 8) (pe_un un_neg (pv 8))) ip_add set_list)
        (pss_one (ps_asg (pe_meth0 (pv 0) T.cl mR oR hr bR .nil pass0) (pg_tup rfl (pgs_cons (pg_name (i := 1) scMove.nd rfl (.inl rfl)) (pgs_cons (pg_name (i := 2) scMove.nd rfl (.inl rfl)) pgs_nil)))))))))))
      (pss_one (ps_ret (pe_tup (pa_cons (pe_callB (call_sortedDI rfl) (by rfl) G.sorted b_sorted (pa_cons (pv 1) pa_nil)) (pa_cons (pe_callB (call_sortedDI rfl) (by rfl) G.sorted b_sorted (pa_cons (pv 2) pa_nil)) pa_nil)))))), ?_⟩
    have hvo : ∀ i k, (i, k) ∈ others h pl → i < r ∧ k < c := fun i k z => hv i k (mem_others.mp z).1
    have lo : (others h pl).length ≤ 100 := Nat.le_trans (List.length_filter_le _ _) h100
    obtain ⟨dx, wa, pv', oa, hp0, hw0, dp0, doo⟩ := Z.ob
    obtain ⟨pa, rfl, hpa0⟩ := dp0.pair
    obtain ⟨hi, hk⟩ := hv pl.1 pl.2 hp
    have nR : (mf wa (V.ref pa) up oa).lookup ("reached" : Str) = none := mf_no (by decide +kernel) (by decide +kernel) (by decide +kernel) (by decide +kernel)
    have nW : (mf wa (V.ref pa) up oa).lookup ("way" : Str) = none := mf_no (by decide +kernel) (by decide +kernel) (by decide +kernel) (by decide +kernel)
    have nS : (mf wa (V.ref pa) up oa).lookup ("standing" : Str) = none := mf_no (by decide +kernel) (by decide +kernel) (by decide +kernel) (by decide +kernel)
    have big : (1000 : Nat) < sizeLine := by
      rw [sizeLine_eq]
      decide
    refine ⟨_, rfl, p, dx, _, rfl, M.sm _ _ hp0, nR, p, r, c, ra, pl, up, others h pl, Hf, g, rfl, Z, M, hi, r6, c6, hvo, fun H1 t dr dc rp cp ro ka n Tr Cl R ht => ⟨t, _, rfl, SqT.of ht, rfl, _, _, rfl, _, _, rfl, rfl, ?_⟩⟩
    let W : Nat → L2.St → Hp → Prop := fun m σ H' => ∃ (u : Mat) (Hb : Hp) (dr dc : Addr) (rp : Nat → Option (Option Nat)) (cp : Nat → Option Nat) (ro ka : Nat → Nat) (n : Nat) (v3 v4 v5 v6 v7 v8 v9 : Option V),
      σ = [some (.ref p), some (.ref dr), some (.ref dc), v3, v4, v5, v6, v7, v8, v9] ∧ Mv r c ra Hf u H' ∧ Wld r c g h u ∧ Tree up (others h pl) u pl.1 rp cp ro ka n ∧ Closed up (others h pl) u rp cp ∧ RSt Hb dr dc r c rp cp H' ∧ (if up = true then S c (g pl.1) - u pl.1 pl.2 else u pl.1 pl.2).toNat = m
    refine ⟨W, ⟨_, g, H, dr, dc, rp, cp, ro, ka, n, _, _, _, _, _, _, _, rfl, M.same R.sm, Wld.self hg, Tr, Cl, R, rfl⟩, fun m σ H' hW => ?_⟩
    clear R Cl Tr ht
    clear H1 t dr dc rp cp ro ka n
    obtain ⟨u, Hb, dr, dc, rp, cp, ro, ka, n, v3, v4, v5, v6, v7, v8, v9, rfl, M1, WL, Tr, Cl, R, hm⟩ := hW
    obtain ⟨o, go, eo, _⟩ := R.cl.get pl.2
    refine tAnd_go (b1 := o.isSome) (b2 := (up || decide (0 < u pl.1 pl.2))) (fun Q' q' => ⟨_, rfl, p, C, dx, _, _, rfl, M1.sm _ _ hp0, T.cl, T.nP, mf_p, pa, _, _, _, rfl, rfl, SqT.of (M1.sm _ _ hpa0), atI_nat (j := 1) rfl, _, rfl, dc, o, rfl, go, _, rfl, q'⟩) (fun _ Q' q' => ?_) ?_
    · refine tOr_go (b1 := up) (b2 := decide (0 < u pl.1 pl.2)) (fun Q' q' => ⟨_, rfl, p, C, dx, _, _, rfl, M1.sm _ _ hp0, T.cl, T.nU, mf_u, _, rfl, q'⟩) (fun _ Q' q' => ?_) q'
      exact ⟨_, rfl, p, dx, _, rfl, M1.sm _ _ hp0, nS, p, r, c, ra, pl, up, others h pl, Hf, u, rfl, Z, M1, hi, hk, _, _, rfl, rfl, _, rfl, q'⟩
    refine ite2 (fun hb => ?_) (fun hb => ?_)
    · simp only [Bool.and_eq_true, Bool.or_eq_true, decide_eq_true_eq] at hb
      obtain ⟨b1, b2⟩ := hb
      have hcp := (e12 eo).1 b1
      refine ⟨fun σ' H' => ∃ m', m' < m ∧ W m' σ' H', fun _ _ h => h, ?_⟩
      refine ⟨_, rfl, p, dx, _, rfl, M1.sm _ _ hp0, nW, _, rfl, _, rfl, p, r, c, ra, pl, up, others h pl, Hf, Hb, u, dr, dc, rp, cp, ro, ka, n, rfl, Z, M1.sm, Tr, R, lo, hcp, fun H2 ca ys l s2 nca hway hca hys => ?_⟩
      have M2 := M1.same s2
      have WC := hway.cells Tr
      have hys' : ∀ (j : Nat) (x : V), ys[j]? = some x → ∀ x0, l[j]? = some x0 → ∃ a b, x = .ref a ∧ H2 a = some (.tup [.ref b, .bl x0.2]) ∧ H2 b = some (.tup [.int x0.1.1, .int x0.1.2]) := fun j x hx x0 h0 => by
        obtain ⟨x', e1, e2⟩ := hys.get (i := j) (d := wD x0) (by rw [List.getElem?_map, h0]; rfl)
        rw [hx] at e1
        cases e1
        exact e2.w
      have ly : ys.length = l.length := by
        have := hys.length
        rwa [List.length_map] at this
      have l200 : l.length ≤ 200 := by
        have := hway.len Tr
        omega
      -- less
      refine ⟨_, rfl, ca, rfl, ⟨_, SqL.of hca⟩, fun D hD => ?_⟩
      refine lcD_list hca (l.map fun x => if x.2 = up then some (pD x.1) else none) (by rw [List.length_map, ly]) (by rw [List.length_map]; omega) hD (fun j ob x H' Kt Kf ho hx sm sm2 n2 hn hs => ?_) (fun zs H3 s3 h1 h2 => ?_)
      · obtain ⟨x0, e0, rfl⟩ := map_get ho
        obtain ⟨a, b, rfl, ha, hb⟩ := hys' j x hx x0 e0
        refine ⟨a, _, rfl, SqT.of (sm2 _ _ ha), rfl, _, _, rfl, _, _, rfl, rfl, rfl, ?_⟩
        refine ⟨_, rfl, _, rfl, p, C, dx, _, _, rfl, sm2 _ _ (M2.sm _ _ hp0), T.cl, T.nU, mf_u, rfl, _, rfl, ?_⟩
        rw [dec_bl]
        by_cases e : x0.2 = up
        · rw [show (x0.2 == up) = true by rw [e]; exact beq_self_eq_true _]
          exact ⟨_, rfl, hs _ (if_pos e) _ _ (Same.refl _) (DT.ofPair (sm _ _ hb))⟩
        · rw [show (x0.2 == up) = false by simp [e]]
          exact hn (if_neg e) _ (Same.refl _)
      rw [less_data] at h2
      have M3 := M2.same s3
      have hca3 := s3 _ _ hca
      generalize eL : (l.filter fun x => decide (x.2 = up)).map (·.1) = L at h2
      have hL : ∀ q, q ∈ L ↔ (q, up) ∈ l := fun q => by
        rw [← eL, List.mem_map]
        constructor
        · rintro ⟨⟨q', b⟩, hx, rfl⟩
          rw [List.mem_filter, decide_eq_true_iff] at hx
          obtain ⟨h1, rfl⟩ := hx
          exact h1
        · intro hx
          exact ⟨(q, up), List.mem_filter.mpr ⟨hx, decide_eq_true rfl⟩, rfl⟩
      have lenL : L.length ≤ 200 := by
        rw [← eL, List.length_map]
        exact Nat.le_trans (List.length_filter_le _ _) l200
      have lz : zs.length = L.length := by
        have := h2.length
        rwa [List.length_map] at this
      -- much
      refine ⟨_, rfl, D, rfl, ⟨_, SqL.of h1⟩, fun D2 hD2 => ?_⟩
      refine lcD_list h1 ((L.map fun q => PyData.int (u q.1 q.2)).map some) (by rw [List.length_map, List.length_map, lz]) (by rw [List.length_map, List.length_map]; omega) hD2 (fun j ob x H' Kt Kf ho hx sm sm2 n2 hn hs => ?_) (fun us H4 s4 h3 h4 => ?_)
      · obtain ⟨⟨i, k⟩, e0, rfl⟩ := os_map ho
        obtain ⟨x', e1, e2⟩ := h2.get (i := j) (d := pD (i, k)) (by rw [List.getElem?_map, e0]; rfl)
        rw [hx] at e1
        cases e1
        obtain ⟨b, rfl, hb⟩ := (e2.same hide_same).pair
        have hq := (WC _ _ ((hL _).mp (List.mem_of_getElem? e0))).1
        obtain ⟨hi', hk'⟩ := hvo i k hq
        refine ⟨b, _, rfl, SqT.of (sm2 _ _ hb), rfl, _, _, rfl, _, _, rfl, rfl, rfl, ?_⟩
        refine ⟨_, rfl, p, C, dx, _, _, rfl, sm2 _ _ (M3.sm _ _ hp0), T.cl, T.nW, mf_w, _, rfl, wa, _, _, _, rfl, rfl, SqL.of (sm2 _ _ (M3.sm _ _ hw0)), atI_nat (map_range_get hi'), _, rfl, ra i, _, _, _, rfl, rfl, SqL.of (sm2 _ _ (M3.row _ hi')), atI_nat (by rw [List.getElem?_map, map_range_get hk']; rfl), ?_⟩
        exact hs _ rfl _ _ (Same.refl _) (.int _)
      rw [filterMap_some] at h4
      have e4 : L.map (fun q => PyData.int (u q.1 q.2)) = (L.map fun q => u q.1 q.2).map PyData.int := by rw [List.map_map]; rfl
      rw [e4] at h4
      rw [h4.toInts] at h3
      have M4 := M3.same s4
      have hca4 := s4 _ _ hca3
      refine tIf_lst (b := up) (zs := (if up = true then [] else [u pl.1 pl.2]).map V.int) (fun Q' q' => ⟨_, rfl, p, C, dx, _, _, rfl, M4.sm _ _ hp0, T.cl, T.nU, mf_u, _, rfl, q'⟩) (fun e Q' q' => ?_) (fun e Q' q' => ?_) (fun pz nz => ?_)
      · rw [if_pos e] at q'
        exact ⟨Nat.zero_le _, q'⟩
      · rw [e] at q'
        exact ⟨_, rfl, p, dx, _, rfl, M4.sm _ _ hp0, nS, p, r, c, ra, pl, up, others h pl, Hf, u, rfl, Z, M4, hi, hk, (by show 1 ≤ sizeLine; decide), q'⟩
      have s5 := same_new (o := .lst ((if up = true then [] else [u pl.1 pl.2]).map V.int)) nz
      refine ⟨D2, pz, _, _, rfl, rfl, s5 _ _ h3, upd_same, (by
        have : ((if up = true then [] else [u pl.1 pl.2]) : List Int).length ≤ 1 := by
          by_cases e : up = true
          · rw [if_pos e]
            exact Nat.zero_le _
          · rw [if_neg e]
            exact Nat.le_refl _
        simp only [List.length_map]
        omega), fun l2 nl2 => ?_⟩
      have s6 := same_new (o := .lst ((L.map fun q => u q.1 q.2).map V.int ++ (if up = true then [] else [u pl.1 pl.2]).map V.int)) nl2
      have s46 := s5.trans s6
      have M6 := M4.same s46
      have hca6 := s46 _ _ hca4
      have hne : 0 < ((L.map fun q => u q.1 q.2) ++ (if up = true then [] else [u pl.1 pl.2])).length := by
        by_cases e : up = true
        · have : ∃ q, (q, true) ∈ l := by
            cases hway with
            | last _ _ => exact ⟨_, List.mem_cons_self⟩
            | step _ _ _ => exact ⟨_, List.mem_cons_self⟩
          obtain ⟨q', hq'⟩ := this
          have := List.length_pos_of_mem ((hL q').mpr (by rw [e]; exact hq'))
          rw [List.length_append, List.length_map]
          omega
        · rw [if_neg e, List.length_append, List.length_singleton]
          omega
      refine ⟨l2, (L.map fun q => u q.1 q.2) ++ (if up = true then [] else [u pl.1 pl.2]), rfl, by rw [List.map_append]; exact SqL.of upd_same, hne, fun mu hmu hmin => ?_⟩
      have hl : ∀ q, (q, up) ∈ l → mu ≤ u q.1 q.2 := fun q hq => hmin _ (List.mem_append_left _ (List.mem_map.mpr ⟨q, (hL q).mpr hq, rfl⟩))
      have hsd : up = false → mu ≤ u pl.1 pl.2 := fun e => hmin _ (List.mem_append_right _ (by rw [e]; exact List.mem_cons_self))
      have mu0 : 0 < mu := by
        rw [List.mem_append] at hmu
        rcases hmu with hmu | hmu
        · obtain ⟨q', hq', rfl⟩ := List.mem_map.mp hmu
          exact (WC _ _ ((hL q').mp hq')).2 rfl
        · by_cases e : up = true
          · rw [if_pos e] at hmu
            cases hmu
          · rw [if_neg e, List.mem_singleton] at hmu
            rw [hmu]
            exact b2.resolve_left e
      -- the steps
      have nra : ∀ i, i < r → ca ≠ ra i := fun i hi' z => by
        have := M1.row i hi'
        rw [← z, nca] at this
        cases this
      have hysD : DTs _ ys (l.map wD) := hys.same (s3.trans (s4.trans s46))
      refine ⟨_, rfl, ca, rfl, ⟨ys, SqL.of hca6⟩, ?_⟩
      refine for_list (K := K) (a := ca) (xs := ys) (fun j σ H' => ∃ v4 v6 v7, σ = [some (.ref p), some (.ref dr), some (.ref dc), some (.ref ca), v4, some (.ref D), v6, v7, some (.int mu), v9] ∧ Mv r c ra Hf (stepU up u mu (l.take j)) H' ∧ H' ca = some (.lst ys) ∧ DTs H' ys (l.map wD))
        ⟨_, _, _, rfl, (by rw [List.take_zero, stepU_nil]; exact M6), hca6, hysD⟩ (fun j σ H' _ hP => ?_) (fun j x σ H' hx hP => ?_) (fun σ H' hP => ?_)
      · obtain ⟨_, _, _, _, _, h1, _⟩ := hP
        exact SqL.of h1
      · obtain ⟨v4, v6, v7, rfl, Mj, hcj, hyj⟩ := hP
        have hj : j < l.length := by
          have := (List.getElem?_eq_some_iff.mp hx).1
          omega
        obtain ⟨x', e1, e2⟩ := hyj.get (i := j) (d := wD l[j]) (by rw [List.getElem?_map, List.getElem?_eq_getElem hj]; rfl)
        rw [hx] at e1
        cases e1
        have tk : l.take (j + 1) = l.take j ++ [l[j]] := by
          rw [List.take_add_one, List.getElem?_eq_getElem hj]
          rfl
        have hmem : l[j] ∈ l := List.getElem_mem hj
        obtain ⟨a, b, rfl, ha, hb⟩ := e2.w
        generalize l[j] = x0 at tk hmem ha hb
        obtain ⟨⟨i, k⟩, by_row⟩ := x0
        obtain ⟨hi', hk'⟩ := hvo i k (WC _ _ hmem).1
        have hcell : (((List.range c).map (stepU up u mu (l.take j) i)).map V.int)[k]? = some (.int (stepU up u mu (l.take j) i k)) := by
          rw [List.getElem?_map, map_range_get hk']
          rfl
        refine ⟨a, _, rfl, SqT.of ha, rfl, _, _, rfl, ⟨b, _, rfl, SqT.of hb, rfl, _, _, rfl, _, _, rfl, rfl, _, _, rfl, rfl, ?_⟩⟩
        refine ⟨_, rfl, p, C, dx, _, _, rfl, Mj.sm _ _ hp0, T.cl, T.nW, mf_w, _, rfl, wa, _, _, _, rfl, rfl, SqL.of (Mj.sm _ _ hw0), atI_nat (map_range_get hi'), _, rfl, ra i, _, _, _, rfl, rfl, SqL.of (Mj.row _ hi'), atI_nat hcell, ?_⟩
        refine tIf_val (b := by_row == up) (v := .int (mu * sg up by_row)) (fun Q' q' => ⟨_, rfl, _, rfl, p, C, dx, _, _, rfl, Mj.sm _ _ hp0, T.cl, T.nU, mf_u, rfl, _, rfl, (by rw [dec_bl]; exact q')⟩) (fun e Q' q' => ?_) (fun e Q' q' => ?_) ?_
        · rw [sg_neg (eq_of_beq e)] at q'
          exact ⟨_, rfl, _, rfl, q'⟩
        · rw [sg_pos (fun z => by rw [z] at e; simp at e)] at q'
          exact ⟨_, rfl, q'⟩
        refine ⟨_, _, rfl, rfl, ra i, _, _, k, rfl, rfl, Mj.row _ hi', ixN_nat (by simp; exact hk'), ?_⟩
        have Mn := Mj.put Z hi' (k := k) (stepU up u mu (l.take j) i k + mu * sg up by_row)
        rw [← stepU_snoc, ← tk] at Mn
        refine ⟨_, _, _, rfl, Mn, (upd_ne (nra i hi')).trans hcj, DTs.wls (fun b ws hb => ?_) hyj⟩
        exact (upd_ne (ne_of hb (Mj.row _ hi') fun z => by cases z)).trans hb
      · obtain ⟨v4, v6, v7, rfl, Mj, hcj, hyj⟩ := hP
        rw [ly, List.take_length] at Mj
        have hcell : (((List.range c).map (stepU up u mu l pl.1)).map V.int)[pl.2]? = some (.int (stepU up u mu l pl.1 pl.2)) := by
          rw [List.getElem?_map, map_range_get hk]
          rfl
        refine ⟨_, rfl, p, C, dx, _, _, rfl, Mj.sm _ _ hp0, T.cl, T.nW, mf_w, _, rfl, p, C, dx, _, _, rfl, Mj.sm _ _ hp0, T.cl, T.nP, mf_p, pa, _, _, _, rfl, rfl, SqT.of (Mj.sm _ _ hpa0), atI_nat (j := 0) rfl, wa, _, _, _, rfl, rfl, SqL.of (Mj.sm _ _ hw0), atI_nat (map_range_get hi), ?_⟩
        refine ⟨_, rfl, p, C, dx, _, _, rfl, Mj.sm _ _ hp0, T.cl, T.nP, mf_p, pa, _, _, _, rfl, rfl, SqT.of (Mj.sm _ _ hpa0), atI_nat (j := 1) rfl, ra pl.1, _, _, _, rfl, rfl, SqL.of (Mj.row _ hi), atI_nat hcell, ?_⟩
        refine tIf_val (b := up) (v := .int (-(mu * sg up true))) (fun Q' q' => ⟨_, rfl, p, C, dx, _, _, rfl, Mj.sm _ _ hp0, T.cl, T.nU, mf_u, _, rfl, q'⟩) (fun e Q' q' => ?_) (fun e Q' q' => ?_) ?_
        · rw [sg_neg e.symm, Int.neg_neg] at q'
          exact ⟨_, rfl, q'⟩
        · rw [sg_pos (fun z => by rw [← z] at e; cases e)] at q'
          exact ⟨_, rfl, _, rfl, q'⟩
        refine ⟨_, _, rfl, rfl, ra pl.1, _, _, pl.2, rfl, rfl, Mj.row _ hi, ixN_nat (by simp; exact hk), ?_⟩
        have Mn := Mj.put Z hi (k := pl.2) (stepU up u mu l pl.1 pl.2 + -(mu * sg up true))
        rw [← Int.sub_eq_add_neg, ← moved_put] at Mn
        have WN : Wld r c g h (moved up l pl mu u) := WL.moved Tr hvo hway hp hi hk (fun q hq => mem_others.mp hq) (by omega) hl hsd
        have ev : moved up l pl mu u pl.1 pl.2 = u pl.1 pl.2 - mu * sg up true := moved_at Tr hway fun q hq => (mem_others.mp hq).2
        refine ⟨_, rfl, p, dx, _, rfl, Mn.sm _ _ hp0, nR, p, r, c, ra, pl, up, others h pl, Hf, moved up l pl mu u, rfl, Z, Mn, hi, r6, c6, hvo, fun H9 t dr' dc' rp' cp' ro' ka' n' Tr' Cl' R' ht' => ⟨t, _, rfl, SqT.of ht', rfl, _, _, rfl, _, _, rfl, rfl, ?_⟩⟩
        refine ⟨_, ?_, moved up l pl mu u, _, dr', dc', rp', cp', ro', ka', n', _, _, _, _, _, _, _, rfl, Mn.same R'.sm, WN, Tr', Cl', R', rfl⟩
        rw [ev, ← hm]
        have low : 0 ≤ moved up l pl mu u pl.1 pl.2 := WN.nn _ _ hi hk
        have upp : moved up l pl mu u pl.1 pl.2 ≤ S c (g pl.1) := by
          rw [← WN.row pl.1 hi]
          exact S_ge hk fun k' hk' _ => WN.nn _ _ hi hk'
        rw [ev] at low upp
        cases up with
        | true =>
          rw [if_pos rfl, if_pos rfl]
          have e : mu * sg true true = -mu := sg_neg rfl
          rw [e] at upp ⊢
          omega
        | false =>
          have e : mu * sg false true = mu := sg_pos (fun z => by cases z)
          rw [if_neg (by decide), if_neg (by decide)]
          rw [e] at low ⊢
          omega
    · have hbest : Best up r c g h pl (u pl.1 pl.2) := by
        have hR : rp pl.1 ≠ none := by rw [Tr.root]; exact fun z => nomatch z
        refine ⟨fun e => ?_, fun e => ?_⟩
        · subst e
          have hC : cp pl.2 = none := (e12 eo).2 (by
            cases e6 : o.isSome with
            | false => rfl
            | true => exact absurd (by rw [e6]; rfl) hb)
          exact ⟨⟨u, WL, rfl⟩, fun n' w' X => bound_up WL Cl hR hC hi hk (fun q h1 h2 => mem_others.mpr ⟨h1, h2⟩) X⟩
        · subst e
          by_cases h0 : 0 < u pl.1 pl.2
          · have hC : cp pl.2 = none := (e12 eo).2 (by
              cases e6 : o.isSome with
              | false => rfl
              | true => exact absurd (by rw [e6, decide_eq_true h0]; rfl) hb)
            exact ⟨⟨u, WL, rfl⟩, fun n' w' _ X => bound_down WL Cl hR hC hi hk (fun q h1 h2 => mem_others.mpr ⟨h1, h2⟩) X⟩
          · refine ⟨⟨u, WL, rfl⟩, fun n' w' _ X => ?_⟩
            have h1 := WL.nn pl.1 pl.2 hi hk
            have h2 := X.nn pl.1 pl.2 hi hk
            have e : u pl.1 pl.2 = 0 := by omega
            rw [e]
            omega
      obtain ⟨kr, k1, ⟨lr, k2⟩, k3, _⟩ := R.rw.ex
      obtain ⟨kc, j1, ⟨lc, j2⟩, j3, _⟩ := R.cl.ex
      have lk : lr.length = kr.length := by
        have := congrArg List.length k2
        simpa using this.symm
      have lj : lc.length = kc.length := by
        have := congrArg List.length j2
        simpa using this.symm
      refine ⟨_, rfl, dr, kr, _, rfl, .inl k1, k2, (by rw [List.length_map]; omega), fun xs a _ _ na => ?_⟩
      have sa := same_new (o := .lst (xs.map V.int)) na
      refine ⟨_, rfl, dc, kc, _, rfl, .inl (sa _ _ j1), j2, (by rw [List.length_map]; omega), fun zs b _ _ nb => ⟨by show 2 ≤ sizeLine; decide, fun t nt => ?_⟩⟩
      have sb := same_new (o := .lst (zs.map V.int)) nb
      have st := same_new (o := .tup [.ref a, .ref b]) nt
      exact q _ t a b xs zs u (M1.same ((sa.trans sb).trans st)) hbest upd_same (st _ _ (sb _ _ upd_same)) (st _ _ upd_same)
end
end Cv

/-! Countveil walks 9: paper_of, ends_of, first_told, safe_in, safe_wrong. -/
namespace Cv
open PySem PySem.Spec PyProof.Rows L2
abbrev sPaper : Stmt := topS 15
abbrev sTold : Stmt := topS 22
abbrev sEnds : Stmt := topS 23
abbrev sSafeIn : Stmt := topS 24
abbrev sSafeWrong : Stmt := topS 26
theorem scPaper : FnScope ["sheet", "place", "high", "rows", "columns", "low", "near", "far", "floor", "cells", "i", "k"] ["sheet", "place"] (defScope sPaper) := ⟨rfl, rfl, rfl, by decide +kernel, rfl, by decide +kernel, by decide +kernel⟩
theorem scTold : FnScope ["sheet", "guards", "n", "i", "k", "below", "above"] ["sheet", "guards"] (defScope sTold) := ⟨rfl, rfl, rfl, by decide +kernel, rfl, by decide +kernel, by decide +kernel⟩
theorem scEnds : FnScope ["sheet", "guard", "low", "high", "floor", "lid"] ["sheet", "guard"] (defScope sEnds) := ⟨rfl, rfl, rfl, by decide +kernel, rfl, by decide +kernel, by decide +kernel⟩
theorem scSafeIn : FnScope ["sheet", "guards", "told", "n", "guard", "i", "k", "below", "above", "low", "high", "worth"] ["sheet", "guards"] (defScope sSafeIn) := ⟨rfl, rfl, rfl, by decide +kernel, rfl, by decide +kernel, by decide +kernel⟩
theorem scSafeWrong : FnScope ["sheet", "guards"] ["sheet", "guards"] (defScope sSafeWrong) := ⟨rfl, rfl, rfl, by decide +kernel, rfl, by decide +kernel, by decide +kernel⟩
theorem Mv.grid {C p : Addr} {r c : Nat} {ra : Nat → Addr} {pl : Pl} {up : Bool} {oth : List Pl} {Hf H : Hp} {u : Mat} {w : Addr} (M : Mv r c ra Hf u H) (hw : H w = some (.lst ((List.range r).map fun i => V.ref (ra i)))) : DT H (.ref w) (gridD r c u) := by
  refine .lst hw ?_
  have all : ∀ (l : List Nat), (∀ i, i ∈ l → i < r) → DTs H (l.map fun i => V.ref (ra i)) (l.map fun i => rowD c (u i)) := by
    intro l
    induction l with
    | nil => exact fun _ => .nil
    | cons i l ih => exact fun h => .cons (DT.ofRow (M.row i (h i List.mem_cons_self))) (ih fun j hj => h j (List.mem_cons_of_mem _ hj))
  exact all _ fun i hi => List.mem_range.mp hi
theorem Hid.len {r c : Nat} {h : List Pl} (H : Hid r c h) : h.length ≤ r * c := by
  rw [← places_len c r]
  refine nodup_len ?_ fun x hx => mem_places.mpr (H.mem x hx)
  refine H.rise.imp fun {a b} hab e => ?_
  subst e
  rcases hab with z | ⟨_, z⟩ <;> omega
/-- both worlds of a place -/
def spPaper : Sp := fun vs H Q _ => ∃ (r c : Nat) (g : Mat) (h : List Pl) (pl : Pl) (x y : V), vs = [x, y] ∧ DT H x (sheetD r c g h) ∧ DT H y (pD pl) ∧ Gr r c g ∧ Hid r c h ∧ pl ∈ h ∧
  ∀ (H' : Hp) (t : Addr) (lo hi fl li : V) (wl wh : Mat), Same H H' → H' t = some (.tup [lo, hi, fl, li]) → DT H' lo (gridD r c wl) → DT H' hi (gridD r c wh) → IsLow r c g h pl (wl pl.1 pl.2) → IsHigh r c g h pl (wh pl.1 pl.2) → Q (.ref t) H'
section
variable {P : Program} {w : PySem.World} {K : PySem.W.Frag} {mg : Str → Option Value} {base : Heap} {C : Addr}
/-- the class as it is made -/
structure HasC (P : Program) (w : PySem.World) (K : PySem.W.Frag) (mg : Str → Option Value) (base : Heap) (k : Nat) (C : Addr) (x : Str) (ps : List Str) (sp : Sp) : Prop where
  ex : ∃ (f : Addr) (fd : FuncData), mg x = some (.ref C) ∧ Mk K C f ∧ Binds K fd ps [] ∧ FnOk P w K mg base CX0 k f fd ps sp
theorem ok_paper {f : Addr} {fd : FuncData} (F : Fun K "paper_of" "paper_of" sPaper f fd) (G : Gb mg) (T : Mt K C) (hI : HasC P w K mg base 1 C "Moves" ["self", "sheet", "place", "up"] (spInit C)) (hM : HasM P w K mg base 2 C "move" ["self"] (spMove C)) (hS : HasM P w K mg base 1 C "standing" ["self"] (spStanding C)) :
    FnOk P w K mg base CX0 3 f fd ["sheet", "place"] spPaper := by
  obtain ⟨fI, fdI, gI, mI, bI, oI⟩ := hI.ex
  obtain ⟨fM, fdM, mM, bM, oM⟩ := hM.ex
  obtain ⟨fS, fdS, mS, bS, oS⟩ := hS.ex
  refine F.ok scPaper (fun vs H Q E h => ?_) (fun cdv A outer s H vs Q E hr h => ?_)
  · obtain ⟨r, c, g, h, pl, x, y, rfl, _⟩ := h
    rfl
  · obtain ⟨r, c, g, h, pl, x, y, rfl, dx, dy, gr, hh, hm, q⟩ := h
    refine ⟨_, pss_cons (ps_set (i := 2) scPaper.nd rfl (.inl rfl) (pe_make mI oI hr (by rfl) gI bI .nil pass0 (pa_cons (pv 0) (pa_cons (pv 1) (pa_cons pe_bl pa_nil)))))
      (pss_cons (ps_asg (pe_meth0 (pv 2) T.cl mM oM hr bM .nil pass0) (pg_tup rfl (pgs_cons (pg_name (i := 3) scPaper.nd rfl (.inl rfl)) (pgs_cons (pg_name (i := 4) scPaper.nd rfl (.inl rfl)) pgs_nil))))
      (pss_cons (ps_set (i := 5) scPaper.nd rfl (.inl rfl) (pe_make mI oI hr (by rfl) gI bI .nil pass0 (pa_cons (pv 0) (pa_cons (pv 1) (pa_cons pe_bl pa_nil)))))
      (pss_cons (ps_asg (pe_meth0 (pv 5) T.cl mM oM hr bM .nil pass0) (pg_tup rfl (pgs_cons (pg_name (i := 6) scPaper.nd rfl (.inr rfl)) (pgs_cons (pg_name (i := 7) scPaper.nd rfl (.inr rfl)) pgs_nil))))
      (pss_cons (ps_set (i := 8) scPaper.nd rfl (.inl rfl) pe_non)
      (pss_cons (ps_if (pt_cmpR op_gt (pe_meth0 (pv 5) T.cl mS oS (hr.mono (by decide)) bS .nil pass0) pe_int (nomark _))
        (pss_cons (ps_set (i := 9) scPaper.nd rfl (.inl rfl) (pe_ix ix_tup (pv 0) pe_int (fun _ _ => rfl)))
        (pss_one (ps_set (i := 8) scPaper.nd rfl (.inl rfl) (pe_tup (pa_cons (pe_lc (own := [("i", 10)]) (g := gName 10) (tt := tTest (tOp (rIn K true) (tVar 10) (tVar 6))) rfl scPaper.nd (pi_range1 (by rfl) G.range (pa_cons (pe_callB cr_len (by rfl) G.len b_len (pa_cons (pv 9) pa_nil)) pa_nil)) (blkOk_by (N := ["sheet", "place", "high", "rows", "columns", "low", "near", "far", "floor", "cells", "i", "k"]) (sc := defScope sPaper) (by decide +kernel))
            (fun _ _ _ _ _ => pg_name (i := 10) scPaper.nd rfl (.inl rfl)) (fun _ _ _ _ _ => pts_one (pt_cmpR op_notIn_seq (pv 10) (pv 6) rfl)) (fun _ _ _ _ _ => pv 10))
          (pa_cons (pe_lc (own := [("k", 11)]) (g := gName 11) (tt := tTest (tOp (rIn K true) (tVar 11) (tVar 7))) rfl scPaper.nd (pi_range1 (by rfl) G.range (pa_cons (pe_callB cr_len (by rfl) G.len b_len (pa_cons (pe_ix ix_list (pv 9) pe_int (fun _ _ => rfl)) pa_nil)) pa_nil)) (blkOk_by (N := ["sheet", "place", "high", "rows", "columns", "low", "near", "far", "floor", "cells", "i", "k"]) (sc := defScope sPaper) (by decide +kernel))
            (fun _ _ _ _ _ => pg_name (i := 11) scPaper.nd rfl (.inl rfl)) (fun _ _ _ _ _ => pts_one (pt_cmpR op_notIn_seq (pv 11) (pv 7) rfl)) (fun _ _ _ _ _ => pv 11)) pa_nil)))))) pss_nil)
      (pss_one (ps_ret (pe_tup (pa_cons (pe_fld (pv 5) rfl) (pa_cons (pe_fld (pv 2) rfl) (pa_cons (pv 8) (pa_cons (pe_tup (pa_cons (pv 3) (pa_cons (pv 4) pa_nil))) pa_nil)))))))))))), ?_⟩
    have r6 := gr.r6
    have c6 := gr.c6
    have hv : ∀ i k, (i, k) ∈ h → i < r ∧ k < c := fun i k z => hh.mem (i, k) z
    have h100 : h.length ≤ 100 := by
      have h1 := hh.len
      have h2 : r * c ≤ 6 * 6 := Nat.mul_le_mul r6 c6
      omega
    have nM : ∀ {w o : Addr} {v : V} {b : Bool}, (mf w v b o).lookup ("move" : Str) = none := fun {w o v b} => mf_no (by decide +kernel) (by decide +kernel) (by decide +kernel) (by decide +kernel)
    have nS : ∀ {w o : Addr} {v : V} {b : Bool}, (mf w v b o).lookup ("standing" : Str) = none := fun {w o v b} => mf_no (by decide +kernel) (by decide +kernel) (by decide +kernel) (by decide +kernel)
    have mk0 : ∀ {H : Hp} {p dx : Addr}, H p = none → H dx = none → Same H (upd (upd H dx (.own p)) p (.ins C dx [])) := fun {H p dx} np nd b o e => by
      rw [upd_ne (ne_of_none e np), upd_ne (ne_of_none e nd)]
      exact e
    have big : (1000 : Nat) < sizeLine := by
      rw [sizeLine_eq]
      decide
    -- high
    refine ⟨_, rfl, _, rfl, fun p1 x1 np1 nx1 ne1 => ?_⟩
    refine ⟨H, p1, x1, r, c, g, h, x, y, pl, true, rfl, mk0 np1 nx1, np1, upd_same, dx, dy, r6, h100, fun H1 F1 ra1 s1 Z1 M1 => ⟨rfl, ?_⟩⟩
    obtain ⟨d1, w1, pv1, o1, hp1, hw1, _, _⟩ := id Z1.ob
    refine ⟨_, rfl, p1, d1, _, rfl, M1.sm _ _ hp1, nM, p1, r, c, ra1, pl, true, h, F1, g, rfl, Z1, M1, r6, c6, h100, hv, hm, gr.lo, fun H2 t2 a2 b2 xs2 ys2 u2 M2 best2 ht2 ha2 hb2 => ⟨t2, _, rfl, SqT.of ht2, rfl, _, _, rfl, _, _, rfl, rfl, ?_⟩⟩
    have sH2 : Same H H2 := s1.trans M2.sm
    -- low
    refine ⟨_, rfl, _, rfl, fun p3 x3 np3 nx3 ne3 => ?_⟩
    refine ⟨H2, p3, x3, r, c, g, h, x, y, pl, false, rfl, mk0 np3 nx3, np3, upd_same, dx.same sH2, dy.same sH2, r6, h100, fun H3 F3 ra3 s3 Z3 M3 => ⟨rfl, ?_⟩⟩
    obtain ⟨d3, w3, pv3, o3, hp3, hw3, _, _⟩ := id Z3.ob
    refine ⟨_, rfl, p3, d3, _, rfl, M3.sm _ _ hp3, nM, p3, r, c, ra3, pl, false, h, F3, g, rfl, Z3, M3, r6, c6, h100, hv, hm, gr.lo, fun H4 t4 a4 b4 xs4 ys4 u4 M4 best4 ht4 ha4 hb4 => ⟨t4, _, rfl, SqT.of ht4, rfl, _, _, rfl, _, _, rfl, rfl, ?_⟩⟩
    have sH24 : Same H2 H4 := s3.trans M4.sm
    have sH4 : Same H H4 := sH2.trans sH24
    have M2' := M2.same sH24
    have lohi := hv pl.1 pl.2 hm
    have fin : ∀ (fl : V) (H5 : Hp), Same H4 H5 → ∀ t1 t2, H5 t1 = none → upd H5 t1 (.tup [.ref a2, .ref b2]) t2 = none → Q (.ref t2) (upd (upd H5 t1 (.tup [.ref a2, .ref b2])) t2 (.tup [.ref w3, .ref w1, fl, .ref t1])) := fun fl H5 s5 t1 t2 n1 n2 => by
      have s6 := (s5.trans (same_new (o := .tup [.ref a2, .ref b2]) n1)).trans (same_new (o := .tup [.ref w3, .ref w1, fl, .ref t1]) n2)
      have M4' := M4.same s6
      have M2'' := M2'.same s6
      exact q _ t2 (.ref w3) (.ref w1) fl (.ref t1) u4 u2 (sH4.trans s6) upd_same (M4'.grid (C := C) (p := p3) (pl := pl) (up := false) (oth := others h pl) (M4'.sm _ _ hw3)) (M2''.grid (C := C) (p := p1) (pl := pl) (up := true) (oth := others h pl) (M2''.sm _ _ hw1)) (best4.2 rfl) (best2.1 rfl)
    refine ⟨_, rfl, p3, d3, _, rfl, M4.sm _ _ hp3, nS, p3, r, c, ra3, pl, false, _, F3, u4, rfl, Z3, M4, lohi.1, lohi.2, _, _, rfl, rfl, _, rfl, ?_⟩
    refine ite2 (fun hb => ?_) (fun hb => ?_)
    · obtain ⟨sa, gx, hx, rfl, hsa, dgx, dhx⟩ := dx.sheet
      obtain ⟨ga, rows, rfl, hga, hlen, hrow⟩ := id dgx.grid
      obtain ⟨b0, e0, h0⟩ := hrow 0 gr.r0
      refine ⟨_, rfl, sa, _, _, _, rfl, rfl, SqT.of (sH4 _ _ hsa), atI_nat (j := 0) rfl, ?_⟩
      refine ⟨_, rfl, ga, _, rfl, .inl (SqL.of (sH4 _ _ hga)), r, (by rw [hlen]), by omega, by omega, fun D hD => ?_⟩
      refine lcD_range (n := r) ((List.range r).map fun i => if inV (.int (i : Nat)) (xs4.map V.int) = true then none else some (.int (i : Nat))) (by rw [List.length_map, List.length_range]) (by rw [List.length_map, List.length_range]; omega) hD (fun i ob H' Kt Kf ho hi sm sm2 n2 hn hs => ?_) (fun zs H5 s5 h1 h2 => ?_)
      · obtain ⟨i', e1, rfl⟩ := map_get ho
        have ei : i' = i := by
          rw [List.getElem?_range hi] at e1
          exact (Option.some.inj e1).symm
        subst ei
        refine ⟨rfl, ?_⟩
        refine ⟨_, rfl, _, rfl, a4, _, rfl, .inl (SqL.of (sm2 _ _ ha4)), rfl, (by simp [flatV]), _, rfl, ?_⟩
        cases e : inV (.int (i' : Nat)) (xs4.map V.int) with
        | true => exact hn (if_pos e) _ (Same.refl _)
        | false => exact ⟨_, rfl, hs _ (if_neg (by rw [e]; decide)) _ _ (Same.refl _) (.int _)⟩
      refine ⟨_, rfl, ga, _, _, _, rfl, rfl, SqL.of (s5 _ _ (sH4 _ _ hga)), atI_nat (j := 0) e0, b0, _, rfl, .inl (SqL.of (s5 _ _ (sH4 _ _ h0))), c, (by rw [List.length_map, List.length_map, List.length_range]), by omega, by omega, fun D2 hD2 => ?_⟩
      refine lcD_range (n := c) ((List.range c).map fun i => if inV (.int (i : Nat)) (ys4.map V.int) = true then none else some (.int (i : Nat))) (by rw [List.length_map, List.length_range]) (by rw [List.length_map, List.length_range]; omega) hD2 (fun i ob H' Kt Kf ho hi sm sm2 n2 hn hs => ?_) (fun zs2 H6 s6 h3 h4 => ?_)
      · obtain ⟨i', e1, rfl⟩ := map_get ho
        have ei : i' = i := by
          rw [List.getElem?_range hi] at e1
          exact (Option.some.inj e1).symm
        subst ei
        refine ⟨rfl, ?_⟩
        refine ⟨_, rfl, _, rfl, b4, _, rfl, .inl (SqL.of (sm2 _ _ (s5 _ _ hb4))), rfl, (by simp [flatV]), _, rfl, ?_⟩
        cases e : inV (.int (i' : Nat)) (ys4.map V.int) with
        | true => exact hn (if_pos e) _ (Same.refl _)
        | false => exact ⟨_, rfl, hs _ (if_neg (by rw [e]; decide)) _ _ (Same.refl _) (.int _)⟩
      refine ⟨by show 2 ≤ sizeLine; decide, fun t0 n0 => ?_⟩
      have s7 := (s5.trans s6).trans (same_new (o := .tup [.ref D, .ref D2]) n0)
      refine ⟨_, rfl, p3, C, d3, _, _, rfl, s7 _ _ (M4.sm _ _ hp3), T.cl, T.nW, mf_w, _, rfl, p1, C, d1, _, _, rfl, s7 _ _ (sH24 _ _ (M2.sm _ _ hp1)), T.cl, T.nW, mf_w, _, rfl, _, rfl, _, rfl, (by show 2 ≤ sizeLine; decide), fun t1 n1 => ⟨by show 4 ≤ sizeLine; decide, fun t2 n2 => ?_⟩⟩
      exact fin (.ref t0) _ s7 t1 t2 n1 n2
    · refine ⟨_, rfl, p3, C, d3, _, _, rfl, M4.sm _ _ hp3, T.cl, T.nW, mf_w, _, rfl, p1, C, d1, _, _, rfl, sH24 _ _ (M2.sm _ _ hp1), T.cl, T.nW, mf_w, _, rfl, _, rfl, _, rfl, (by show 2 ≤ sizeLine; decide), fun t1 n1 => ⟨by show 4 ≤ sizeLine; decide, fun t2 n2 => ?_⟩⟩
      exact fin .non H4 (Same.refl _) t1 t2 n1 n2
end
end Cv

/-! Countveil walks 10: ends_of, first_told, safe_in, safe_wrong. -/
namespace Cv
open PySem PySem.Spec PyProof.Rows L2
theorem low_iff {r c : Nat} {g : Mat} {h : List Pl} {p : Pl} {x b : Int} (L : IsLow r c g h p x) : (∃ w, Wld r c g h w ∧ w p.1 p.2 ≤ b) ↔ x ≤ b := by
  obtain ⟨⟨w0, W0, e0⟩, hmin⟩ := L
  constructor
  · rintro ⟨w, W, hw⟩
    have := hmin 1 w (by decide) (W.congr fun i k _ _ => (Int.one_mul _).symm)
    omega
  · intro hx
    exact ⟨w0, W0, by omega⟩
theorem high_iff {r c : Nat} {g : Mat} {h : List Pl} {p : Pl} {x b : Int} (L : IsHigh r c g h p x) : (∃ w, Wld r c g h w ∧ b ≤ w p.1 p.2) ↔ b ≤ x := by
  obtain ⟨⟨w0, W0, e0⟩, hmax⟩ := L
  constructor
  · rintro ⟨w, W, hw⟩
    have := hmax 1 w (W.congr fun i k _ _ => (Int.one_mul _).symm)
    omega
  · intro hx
    exact ⟨w0, W0, by omega⟩
def spEnds : Sp := fun vs H Q _ => ∃ (r c : Nat) (g : Mat) (h : List Pl) (q : Gd) (x y : V), vs = [x, y] ∧ DT H x (sheetD r c g h) ∧ DT H y (gdD q) ∧ Gr r c g ∧ Hid r c h ∧ (q.1, q.2.1) ∈ h ∧
  ∀ (H' : Hp) (t : Addr) (lo hi : V) (wl wh : Mat), Same H H' → H' t = some (.tup [lo, hi]) → DT H' lo (gridD r c wl) → DT H' hi (gridD r c wh) → IsLow r c g h (q.1, q.2.1) (wl q.1 q.2.1) → IsHigh r c g h (q.1, q.2.1) (wh q.1 q.2.1) → Q (.ref t) H'
def spTold : Sp := fun vs H Q _ => ∃ (r c : Nat) (g : Mat) (h : List Pl) (gs : List Gd) (x y : V), vs = [x, y] ∧ DT H x (sheetD r c g h) ∧ DT H y (gdsD gs) ∧
  ∀ (H' : Hp) (v : V), Same H H' → (v = .non ∧ (∀ q, q ∈ gs → (q.1, q.2.1) ∈ h)) ∨ (∃ n : Nat, v = .int n ∧ ∃ q, q ∈ gs ∧ (q.1, q.2.1) ∉ h) → Q v H'
def spSafeIn : Sp := fun vs H Q _ => ∃ (r c : Nat) (g : Mat) (h : List Pl) (gs : List Gd) (x y : V), vs = [x, y] ∧ DT H x (sheetD r c g h) ∧ DT H y (gdsD gs) ∧ Gr r c g ∧ Hid r c h ∧ GdsOk r c gs ∧
  ∀ (H' : Hp) (v : V), Same H H' → (v = .non ∧ Safe r c g h gs) ∨ (∃ a, v = .ref a ∧ ¬ Safe r c g h gs) → Q v H'
section
variable {P : Program} {w : PySem.World} {K : PySem.W.Frag} {mg : Str → Option Value} {base : Heap}
theorem ok_ends {f : Addr} {fd : FuncData} (F : Fun K "ends_of" "ends_of" sEnds f fd) (hP : Has P w K mg base 3 "paper_of" ["sheet", "place"] spPaper) : FnOk P w K mg base CX0 4 f fd ["sheet", "guard"] spEnds := by
  obtain ⟨fP, fdP, gP, kP, bP, oP⟩ := hP.ex
  refine F.ok scEnds (fun vs H Q E h => ?_) (fun cdv A outer s H vs Q E hr h => ?_)
  · obtain ⟨r, c, g, h, q, x, y, rfl, _⟩ := h
    rfl
  · obtain ⟨r, c, g, h, gd, x, y, rfl, dx, dy, gr, hh, hm, q⟩ := h
    refine ⟨_, pss_cons (ps_asg (pe_call oP hr (by rfl) gP kP bP .nil pass0 (pa_cons (pv 0) (pa_cons (pe_slice sl_tup (pv 1) po_none (po_some pe_int)) pa_nil))) (pg_tup rfl (pgs_cons (pg_name (i := 2) scEnds.nd rfl (.inl rfl)) (pgs_cons (pg_name (i := 3) scEnds.nd rfl (.inl rfl)) (pgs_cons (pg_name (i := 4) scEnds.nd rfl (.inl rfl)) (pgs_cons (pg_name (i := 5) scEnds.nd rfl (.inl rfl)) pgs_nil))))))
      (pss_one (ps_ret (pe_tup (pa_cons (pv 2) (pa_cons (pv 3) pa_nil))))), ?_⟩
    obtain ⟨a, rfl, ha⟩ := dy.guard
    refine ⟨_, rfl, _, rfl, 2, rfl, a, _, rfl, SqT.of ha, cut_ne _ _ _ _, fun p np => ?_⟩
    rw [cut2]
    have s1 := same_new (o := .tup [V.int (gd.1 : Nat), V.int (gd.2.1 : Nat)]) np
    refine ⟨r, c, g, h, (gd.1, gd.2.1), _, _, rfl, dx.same s1, DT.ofPair upd_same, gr, hh, hm, fun H2 t lo hi fl li wl wh s2 ht dl dh iL iH => ?_⟩
    refine ⟨t, _, rfl, SqT.of ht, rfl, _, _, rfl, _, _, rfl, _, _, rfl, _, _, rfl, rfl, ?_⟩
    refine ⟨_, rfl, _, rfl, (by show 2 ≤ sizeLine; decide), fun t2 n2 => ?_⟩
    have s3 := same_new (o := .tup [lo, hi]) n2
    exact q _ t2 lo hi wl wh ((s1.trans s2).trans s3) upd_same (dl.same s3) (dh.same s3) iL iH
theorem ok_told {f : Addr} {fd : FuncData} (F : Fun K "first_told" "first_told" sTold f fd) (G : Gb mg) : FnOk P w K mg base CX0 1 f fd ["sheet", "guards"] spTold := by
  refine F.ok scTold (fun vs H Q E h => ?_) (fun cdv A outer s H vs Q E hr h => ?_)
  · obtain ⟨r, c, g, h, gs, x, y, rfl, _⟩ := h
    rfl
  · obtain ⟨r, c, g, h, gs, x, y, rfl, dx, dy, q⟩ := h
    have hu : (A.deeper (envOfC "first_told" (defScope sTold) s.heap.objs.size f cdv)).units + 65 < cLine := by
      have := hr.un
      omega
    refine ⟨_, pss_cons (ps_for PassesOwn.never rfl (pi_enum (by rfl) G.enum (pa_cons (pv 1) pa_nil)) (pg_tup rfl (pgs_cons (pg_name (i := 2) scTold.nd rfl (.inl rfl)) (pgs_cons (pg_tup rfl (pgs_cons (pg_name (i := 3) scTold.nd rfl (.inl rfl)) (pgs_cons (pg_name (i := 4) scTold.nd rfl (.inl rfl)) (pgs_cons (pg_name (i := 5) scTold.nd rfl (.inl rfl)) (pgs_cons (pg_name (i := 6) scTold.nd rfl (.inl rfl)) pgs_nil))))) pgs_nil)))
        (pss_one (ps_if (pt_cmpR (op_notInD hu) (pe_tup (pa_cons (pv 3) (pa_cons (pv 4) pa_nil))) (pe_ix ix_tup (pv 0) pe_int (fun _ _ => rfl)) rfl) (pss_one (ps_ret (pv 2))) pss_nil)))
      (pss_one (ps_ret pe_non)), ?_⟩
    obtain ⟨a, gx, hx, rfl, ha, dgx, dhx⟩ := dx.sheet
    obtain ⟨e, zs, rfl, he, hzl, _, hzs⟩ := id (DT.list (f := gdD) dy)
    obtain ⟨e2, ws, rfl, he2, hwl, hws, _⟩ := id (DT.list (f := pD) dhx)
    refine ⟨_, rfl, e, _, rfl, SqL.of he, ?_⟩
    refine for_enum (K := K) (a := e) (xs := zs) (fun i σ H3 => ∃ v2 v3 v4 v5 v6, σ = [some (.ref a), some (.ref e), v2, v3, v4, v5, v6] ∧ Same H H3 ∧ ∀ q, q ∈ gs.take i → (q.1, q.2.1) ∈ h) ⟨_, _, _, _, _, rfl, Same.refl _, fun q hq => by simp at hq⟩ (fun i σ H3 hP => by
      obtain ⟨_, _, _, _, _, _, s3, _⟩ := hP
      exact s3 _ _ he) (fun i x T σ H3 hx hP nT => ?_) (fun σ H3 hP => ?_)
    · obtain ⟨v2, v3, v4, v5, v6, rfl, s3, hin⟩ := hP
      have hi : i < gs.length := by
        have := (List.getElem?_eq_some_iff.mp hx).1
        omega
      have tk : gs.take (i + 1) = gs.take i ++ [gs[i]] := by
        rw [List.take_add_one, List.getElem?_eq_getElem hi]
        rfl
      have hmem : gs[i] ∈ gs := List.getElem_mem hi
      obtain ⟨x', ex, dx'⟩ := hzs i _ (List.getElem?_eq_getElem hi)
      rw [hx] at ex
      cases ex
      obtain ⟨b, rfl, hb⟩ := dx'.guard
      generalize gs[i] = gd at hb tk hmem
      have s4 := s3.trans (same_new (o := .tup [.int (i : Nat), .ref b]) nT)
      refine ⟨T, _, rfl, SqT.of upd_same, rfl, _, _, rfl, _, _, rfl, ⟨b, _, rfl, SqT.of (s4 _ _ hb), rfl, _, _, rfl, _, _, rfl, _, _, rfl, _, _, rfl, rfl, rfl, ?_⟩⟩
      refine ⟨_, rfl, _, rfl, (by show 2 ≤ sizeLine; decide), fun p np => ?_⟩
      have s5 := s4.trans (same_new (o := .tup [.int (gd.1 : Int), .int (gd.2.1 : Int)]) np)
      refine ⟨_, rfl, a, _, _, _, rfl, rfl, SqT.of (s5 _ _ ha), atI_nat (j := 1) rfl, ?_⟩
      have dh5 : DT _ (.ref e2) (hD h) := dhx.same s5
      refine ⟨pD (gd.1, gd.2.1), h.map pD, (DT.ofPair (p := (gd.1, gd.2.1)) upd_same).dp, dh5.dp, shaped_pD _, shaped_hD _, _, rfl, ?_⟩
      rw [any_pD]
      by_cases hmh : (gd.1, gd.2.1) ∈ h
      · rw [decide_eq_true hmh]
        refine iteF ?_
        refine ⟨_, _, _, _, _, rfl, s5, fun q' hq => ?_⟩
        rw [tk, List.mem_append, List.mem_singleton] at hq
        rcases hq with hq | rfl
        · exact hin q' hq
        · exact hmh
      · rw [decide_eq_false hmh]
        refine iteT ?_
        exact ⟨_, rfl, q _ _ s5 (.inr ⟨i, rfl, gd, hmem, hmh⟩)⟩
    · obtain ⟨v2, v3, v4, v5, v6, rfl, s3, hin⟩ := hP
      refine q _ .non s3 (.inl ⟨rfl, fun q' hq => hin q' ?_⟩)
      rw [List.take_of_length_le (by omega)]
      exact hq
theorem ok_safeIn {f : Addr} {fd : FuncData} (F : Fun K "safe_in" "safe_in" sSafeIn f fd) (G : Gb mg) (hT : Has P w K mg base 1 "first_told" ["sheet", "guards"] spTold) (hE : Has P w K mg base 4 "ends_of" ["sheet", "guard"] spEnds) : FnOk P w K mg base CX0 5 f fd ["sheet", "guards"] spSafeIn := by
  obtain ⟨fT, fdT, gT, kT, bT, oT⟩ := hT.ex
  obtain ⟨fE, fdE, gE, kE, bE, oE⟩ := hE.ex
  refine F.ok scSafeIn (fun vs H Q E h => ?_) (fun cdv A outer s H vs Q E hr h => ?_)
  · obtain ⟨r, c, g, h, gs, x, y, rfl, _⟩ := h
    rfl
  · obtain ⟨r, c, g, h, gs, x, y, rfl, dx, dy, gr, hh, ok, q⟩ := h
    refine ⟨_, pss_cons (ps_set (i := 2) scSafeIn.nd rfl (.inl rfl) (pe_call oT (hr.mono (by decide)) (by rfl) gT kT bT .nil pass0 (pa_cons (pv 0) (pa_cons (pv 1) pa_nil))))
      (pss_cons (ps_if (pt_cmp (pc_notN (pv 2))) (pss_one (ps_ret (pe_tup (pa_cons pe_str (pa_cons (pv 2) pa_nil))))) pss_nil)
      (pss_cons (ps_for PassesOwn.never rfl (pi_enum (by rfl) G.enum (pa_cons (pv 1) pa_nil)) (pg_tup rfl (pgs_cons (pg_name (i := 3) scSafeIn.nd rfl (.inl rfl)) (pgs_cons (pg_name (i := 4) scSafeIn.nd rfl (.inl rfl)) pgs_nil)))
        (pss_cons (ps_asg (pv 4) (pg_tup rfl (pgs_cons (pg_name (i := 5) scSafeIn.nd rfl (.inl rfl)) (pgs_cons (pg_name (i := 6) scSafeIn.nd rfl (.inl rfl)) (pgs_cons (pg_name (i := 7) scSafeIn.nd rfl (.inl rfl)) (pgs_cons (pg_name (i := 8) scSafeIn.nd rfl (.inl rfl)) pgs_nil))))))
        (pss_cons (ps_asg (pe_call oE hr (by rfl) gE kE bE .nil pass0 (pa_cons (pv 0) (pa_cons (pv 4) pa_nil))) (pg_tup rfl (pgs_cons (pg_name (i := 9) scSafeIn.nd rfl (.inl rfl)) (pgs_cons (pg_name (i := 10) scSafeIn.nd rfl (.inl rfl)) pgs_nil))))
        (pss_cons (ps_set (i := 11) scSafeIn.nd rfl (.inl rfl) (pe_ix ix_list (pe_ix ix_list (pe_ix ix_tup (pv 0) pe_int (fun _ _ => rfl)) (pv 5) (fun _ _ => rfl)) (pv 6) (fun _ _ => rfl)))
        (pss_cons (ps_if (pt_cmpR op_gt (pe_ix ix_list (pe_ix ix_list (pv 9) (pv 5) (fun _ _ => rfl)) (pv 6) (fun _ _ => rfl)) (pe_op op_sub (pv 11) (pv 7)) (nomark _))
          (pss_one (ps_ret (pe_tup (pa_cons pe_str (pa_cons (pv 3) (pa_cons (pe_ix ix_list (pe_ix ix_list (pv 9) (pv 5) (fun _ _ => rfl)) (pv 6) (fun _ _ => rfl)) pa_nil)))))) pss_nil)
        (pss_one (ps_if (pt_cmpR op_lt (pe_ix ix_list (pe_ix ix_list (pv 10) (pv 5) (fun _ _ => rfl)) (pv 6) (fun _ _ => rfl)) (pe_op op_add (pv 11) (pv 8)) (nomark _))
          (pss_one (ps_ret (pe_tup (pa_cons pe_str (pa_cons (pv 3) (pa_cons (pe_ix ix_list (pe_ix ix_list (pv 10) (pv 5) (fun _ _ => rfl)) (pv 6) (fun _ _ => rfl)) pa_nil)))))) pss_nil)))))))
      (pss_one (ps_ret pe_non)))), ?_⟩
    obtain ⟨a, gx, hx, rfl, ha, dgx, dhx⟩ := id dx.sheet
    obtain ⟨e, zs, rfl, he, hzl, _, hzs⟩ := id (DT.list (f := gdD) dy)
    obtain ⟨ga, rows, rfl, hga, hlen, hrow⟩ := id dgx.grid
    refine ⟨_, rfl, _, rfl, r, c, g, h, gs, _, _, rfl, dx, dy, fun H2 v s2 hv => ?_⟩
    rcases hv with ⟨rfl, hall⟩ | ⟨n, rfl, q0, hq0, hn0⟩
    · refine ⟨_, rfl, _, rfl, iteF ?_⟩
      refine ⟨_, rfl, e, _, rfl, SqL.of (s2 _ _ he), ?_⟩
      refine for_enum (K := K) (a := e) (xs := zs) (fun i σ H3 => ∃ v3 v4 v5 v6 v7 v8 v9 v10 v11, σ = [some (.ref a), some (.ref e), some .non, v3, v4, v5, v6, v7, v8, v9, v10, v11] ∧ Same H H3 ∧ Safe r c g h (gs.take i)) ⟨_, _, _, _, _, _, _, _, _, rfl, s2, fun q hq => by simp at hq⟩ (fun i σ H3 hP => by
        obtain ⟨_, _, _, _, _, _, _, _, _, _, s3, _⟩ := hP
        exact s3 _ _ he) (fun i x T σ H3 hx hP nT => ?_) (fun σ H3 hP => ?_)
      · obtain ⟨v3, v4, v5, v6, v7, v8, v9, v10, v11, rfl, s3, hin⟩ := hP
        have hi : i < gs.length := by
          have := (List.getElem?_eq_some_iff.mp hx).1
          omega
        have tk : gs.take (i + 1) = gs.take i ++ [gs[i]] := by
          rw [List.take_add_one, List.getElem?_eq_getElem hi]
          rfl
        have hmem : gs[i] ∈ gs := List.getElem_mem hi
        obtain ⟨x', ex, dx'⟩ := hzs i _ (List.getElem?_eq_getElem hi)
        rw [hx] at ex
        cases ex
        generalize gs[i] = gd at dx' tk hmem
        obtain ⟨b, rfl, hb⟩ := id dx'.guard
        have okg := ok.ok gd hmem
        have hhm := hall gd hmem
        have s4 := s3.trans (same_new (o := .tup [.int (i : Nat), .ref b]) nT)
        refine ⟨T, _, rfl, SqT.of upd_same, rfl, _, _, rfl, _, _, rfl, rfl, ?_⟩
        refine ⟨_, rfl, b, _, rfl, SqT.of (s4 _ _ hb), rfl, _, _, rfl, _, _, rfl, _, _, rfl, _, _, rfl, rfl, ?_⟩
        refine ⟨_, rfl, _, rfl, r, c, g, h, gd, _, _, rfl, dx.same s4, dx'.same s4, gr, hh, hhm, fun H5 t lo hi' wl wh s5 ht dl dh iL iH => ⟨t, _, rfl, SqT.of ht, rfl, _, _, rfl, _, _, rfl, rfl, ?_⟩⟩
        have s6 := s4.trans s5
        obtain ⟨brow, eb, hbrow⟩ := hrow gd.1 okg.i
        obtain ⟨la, lrows, rfl, hla, hllen, hlrow⟩ := dl.grid
        obtain ⟨lb, el, hlb⟩ := hlrow gd.1 okg.i
        obtain ⟨ua, urows, rfl, hua, hulen, hurow⟩ := dh.grid
        obtain ⟨ub, eu, hub⟩ := hurow gd.1 okg.i
        have at_ : ∀ (u : Mat), (((List.range c).map (u gd.1)).map V.int)[gd.2.1]? = some (.int (u gd.1 gd.2.1)) := fun u => by
          rw [List.getElem?_map, map_range_get okg.k]
          rfl
        refine ⟨_, rfl, a, _, _, _, rfl, rfl, SqT.of (s6 _ _ ha), atI_nat (j := 0) rfl, _, rfl, ga, _, _, _, rfl, rfl, SqL.of (s6 _ _ hga), atI_nat eb, _, rfl, brow, _, _, _, rfl, rfl, SqL.of (s6 _ _ hbrow), atI_nat (at_ g), ?_⟩
        refine ⟨_, rfl, _, rfl, la, _, _, _, rfl, rfl, SqL.of hla, atI_nat el, _, rfl, lb, _, _, _, rfl, rfl, SqL.of hlb, atI_nat (at_ wl), _, rfl, _, rfl, _, _, rfl, rfl, _, _, rfl, rfl, _, rfl, ?_⟩
        refine ite2 (fun hc => ?_) (fun hc => ?_)
        · refine ⟨_, rfl, _, rfl, _, rfl, la, _, _, _, rfl, rfl, SqL.of hla, atI_nat el, _, rfl, lb, _, _, _, rfl, rfl, SqL.of hlb, atI_nat (at_ wl), (by show 3 ≤ sizeLine; decide), fun p np => ?_⟩
          refine q _ _ (s6.trans (same_new np)) (.inr ⟨p, rfl, fun hs => ?_⟩)
          have := (low_iff iL).mp (hs gd hmem).2.1
          have h2 := of_decide_eq_true hc
          exact absurd h2 (by omega)
        · refine ⟨_, rfl, _, rfl, ua, _, _, _, rfl, rfl, SqL.of hua, atI_nat eu, _, rfl, ub, _, _, _, rfl, rfl, SqL.of hub, atI_nat (at_ wh), _, rfl, _, rfl, _, _, rfl, rfl, _, _, rfl, rfl, _, rfl, ?_⟩
          refine ite2 (fun hd => ?_) (fun hd => ?_)
          · refine ⟨_, rfl, _, rfl, _, rfl, ua, _, _, _, rfl, rfl, SqL.of hua, atI_nat eu, _, rfl, ub, _, _, _, rfl, rfl, SqL.of hub, atI_nat (at_ wh), (by show 3 ≤ sizeLine; decide), fun p np => ?_⟩
            refine q _ _ (s6.trans (same_new np)) (.inr ⟨p, rfl, fun hs => ?_⟩)
            have := (high_iff iH).mp (hs gd hmem).2.2
            have h2 := of_decide_eq_true hd
            exact absurd h2 (by omega)
          · refine ⟨_, _, _, _, _, _, _, _, _, rfl, s6, fun q' hq => ?_⟩
            rw [tk, List.mem_append, List.mem_singleton] at hq
            rcases hq with hq | rfl
            · exact hin q' hq
            · have h1 : ¬ _ := fun z => hc (decide_eq_true z)
              have h2 : ¬ _ := fun z => hd (decide_eq_true z)
              exact ⟨hhm, (low_iff iL).mpr (by omega), (high_iff iH).mpr (by omega)⟩
      · obtain ⟨v3, v4, v5, v6, v7, v8, v9, v10, v11, rfl, s3, hin⟩ := hP
        rw [List.take_of_length_le (by omega)] at hin
        exact q _ .non s3 (.inl ⟨rfl, hin⟩)
    · refine ⟨_, rfl, _, rfl, iteT ?_⟩
      refine ⟨_, rfl, (by show 2 ≤ sizeLine; decide), fun p np => ?_⟩
      exact q _ _ (s2.trans (same_new np)) (.inr ⟨p, rfl, fun hs => hn0 (hs q0 hq0).1⟩)
theorem ok_safeWrong {f : Addr} {fd : FuncData} (F : Fun K "safe_wrong" "safe_wrong" sSafeWrong f fd) (hA : Has P w K mg base 6 "must_be_asked" ["sheet", "guards"] spMustAsk) (hS : Has P w K mg base 5 "safe_in" ["sheet", "guards"] spSafeIn) : FnOk P w K mg base CX0 7 f fd ["sheet", "guards"] spSafeIn := by
  obtain ⟨fA, fdA, gA, kA, bA, oA⟩ := hA.ex
  obtain ⟨fS, fdS, gS, kS, bS, oS⟩ := hS.ex
  refine F.ok scSafeWrong (fun vs H Q E h => ?_) (fun cdv A outer s H vs Q E hr h => ?_)
  · obtain ⟨r, c, g, h, gs, x, y, rfl, _⟩ := h
    rfl
  · obtain ⟨r, c, g, h, gs, x, y, rfl, dx, dy, gr, hh, ok, q⟩ := h
    refine ⟨_, pss_cons (ps_expr (pe_call oA hr (by rfl) gA kA bA .nil pass0 (pa_cons (pv 0) (pa_cons (pv 1) pa_nil))))
      (pss_one (ps_ret (pe_call oS (hr.mono (by decide)) (by rfl) gS kS bS .nil pass0 (pa_cons (pv 0) (pa_cons (pv 1) pa_nil))))), ?_⟩
    refine ⟨_, rfl, _, rfl, r, c, g, h, gs, _, _, rfl, dx, dy, gr, hh, ok, fun H2 s2 => ?_⟩
    refine ⟨_, rfl, _, rfl, r, c, g, h, gs, _, _, rfl, dx.same s2, dy.same s2, gr, hh, ok, fun H3 v s3 hv => ?_⟩
    exact q H3 v (s2.trans s3) hv
end
end Cv

/-! Countveil walks 11: places_of, lists_of. -/
namespace Cv
open PySem PySem.Spec PyProof.Rows L2
/-! ### the lists in order -/
def lsLe (a b : List Pl) : Bool := PySem.W.dataLe false kk (a.map pD) (b.map pD)
def listsOf (ps : List Pl) : List (List Pl) := (subs ps).mergeSort lsLe
theorem mem_listsOf {ps h : List Pl} : h ∈ listsOf ps ↔ h.Sublist ps := by
  unfold listsOf
  rw [List.mem_mergeSort, mem_subs]
theorem lsLe_len {a b : List Pl} (h : lsLe a b = true) : a.length ≤ b.length := by
  have e : lsLe a b = !PySem.W.dataLt (kk (b.map pD)) (kk (a.map pD)) := rfl
  rw [e] at h
  refine Nat.le_of_not_lt fun lt => ?_
  have q : PySem.W.dataLt (kk (b.map pD)) (kk (a.map pD)) = true := by
    have al : PySem.W.alike (.int ((b.map pD).length : Nat)) (.int ((a.map pD).length : Nat)) = true := by simp [PySem.W.alike]
    have t := PySem.W.dataLe_ii (β := Unit) (fun _ => 0) (fun _ => 0)
    unfold kk
    show PyProof.Rows.lexLt PyProof.Rows.itemOrd (PySem.W.keyToksAll _) (PySem.W.keyToksAll _) = true
    rw [PySem.W.dataLt_cons al, if_neg]
    · show PyProof.Rows.lexLt PyProof.Rows.itemOrd [.inl ((b.map pD).length : Int)] [.inl ((a.map pD).length : Int)] = true
      simp [PyProof.Rows.lexLt, PyProof.Rows.itemLt]
      omega
    · simp [PyData.eqv]
      omega
  rw [q] at h
  cases h
theorem lsLe_total : PySem.W.TotalLe lsLe := by
  have t := PySem.W.sortLe_total (PyProof.Rows.listOrd PyProof.Rows.itemOrd) false fun (b : List Pl) => PySem.W.keyToks (kk (b.map pD))
  exact t
theorem listsOf_byLen (ps : List Pl) : ByLen (listsOf ps) := by
  have p : (listsOf ps).Pairwise fun a b => lsLe a b = true := by
    refine List.pairwise_mergeSort (fun a b c h1 h2 => lsLe_total.trans a b c h1 h2) (fun a b => ?_) _
    rw [Bool.or_eq_true]
    exact lsLe_total.total a b
  intro i j h h' hij hi hj
  rcases Nat.lt_or_eq_of_le hij with lt | rfl
  · obtain ⟨li, ei⟩ := List.getElem?_eq_some_iff.mp hi
    obtain ⟨lj, ej⟩ := List.getElem?_eq_some_iff.mp hj
    have := (List.pairwise_iff_getElem.mp p) i j li lj lt
    rw [ei, ej] at this
    exact lsLe_len this
  · rw [hi] at hj
    cases hj
    exact Nat.le_refl _
theorem alikeAll_pD : ∀ a b : List Pl, PySem.W.alikeAll (a.map pD) (b.map pD) = true
  | [], _ => by simp [PySem.W.alikeAll]
  | _ :: _, [] => by simp [PySem.W.alikeAll]
  | p :: a, q :: b => by
    have ih := alikeAll_pD a b
    show PySem.W.alikeAll (pD p :: a.map pD) (pD q :: b.map pD) = true
    rw [PySem.W.alikeAll, ih]
    simp [pD, PySem.W.alike, PySem.W.alikeAll]
theorem alike_kk (a b : List Pl) : PySem.W.alike (kk (a.map pD)) (kk (b.map pD)) = true := by
  have := alikeAll_pD a b
  simp [kk, PySem.W.alike, PySem.W.alikeAll, this]
theorem alike_lists (L : List (List Pl)) : PySem.W.AllAlike ((L.map (List.map pD)).map kk) := by
  rw [List.map_map]
  exact PySem.W.AllAlike.of (enc := kk ∘ List.map pD) alike_kk
theorem dep_kk (h : List Pl) : (kk (h.map pD)).depth ≤ 8 := by
  have := dep_pDs h
  simp only [kk, PyData.depth, PyData.depthAll]
  omega
theorem sorted_lists (ps : List Pl) : (((subs ps).map (List.map pD)).mergeSort (PySem.W.dataLe false kk)).map PyData.list = (listsOf ps).map hD := by
  unfold listsOf
  rw [← List.map_mergeSort (r := lsLe) (s := PySem.W.dataLe false kk) (f := List.map pD) (fun a _ b _ => rfl), List.map_map]
  rfl
/-! ### a def whose code object is told -/
structure FunC (K : PySem.W.Frag) (x qual : Str) (st : Stmt) (f : Addr) (fd : FuncData) (c : Addr) : Prop where
  ex : ∃ (oc : Value) (od : Option Addr) (kV doc pm : Value) (an : Option Addr) (ct : Value) (osl : Array (Option Value)),
    fd = PySem.W.fnOf x qual (defArgs st) (defBody st) (defScope st) .none kV doc pm an (.ref c) ct ∧ K.lookup f = some ⟨oc, od, .func fd, osl⟩ ∧ PySem.W.codeIn K (.ref c) qual = true
  kp : PySem.W.keepIn K (.ref f) = true
theorem FunC.fun {K : PySem.W.Frag} {x qual : Str} {st : Stmt} {f c : Addr} {fd : FuncData} (F : FunC K x qual st f fd c) : Fun K x qual st f fd := by
  obtain ⟨oc, od, kV, doc, pm, an, ct, osl, h1, h2, h3⟩ := F.ex
  exact ⟨⟨oc, od, kV, doc, pm, an, .ref c, ct, osl, h1, h2, h3⟩, F.kp⟩
section
variable {P : Program} {w : PySem.World} {K : PySem.W.Frag} {mg : Str → Option Value} {base : Heap}
theorem FunC.ok {x qual : Str} {st : Stmt} {f c : Addr} {fd : FuncData} {N ps : List Str} {k : Nat} {sp : Sp} (F : FunC K x qual st f fd c) (S : FnScope N ps (defScope st)) (len : ∀ vs H Q E, sp vs H Q E → vs.length = ps.length)
    (hbody : ∀ (A : Around) (outer : List Env) (s : Shared) (H : Hp) (vs : List V) (Q : VK) (E : XK), Room k (A.deeper (envOfC qual (defScope st) s.heap.objs.size f (.ref c))) → sp vs H Q E →
      ∃ t, PSs (cxOf CX0 P w K mg base N qual (defScope st) f (.ref c) A outer s H E).nox (defBody st) t ∧ t { nx := fun _ H' => Q .non H', rt := Q } (start N vs) H) : FnOk P w K mg base CX0 (k + 1) f fd ps sp := by
  obtain ⟨oc, od, kV, doc, pm, an, ct, osl, rfl, lk, hcd⟩ := F.ex
  refine fn_of lk hcd S len fun A outer s H vs Q E hr hsp => ?_
  obtain ⟨t, h, q⟩ := hbody A outer s H vs Q E hr hsp
  exact ⟨t, h.nox, q⟩
end
abbrev sPlaces : Stmt := topS 27
abbrev sLists : Stmt := topS 30
theorem scPlaces : FnScope ["cells", "i", "k"] ["cells"] (defScope sPlaces) := ⟨rfl, rfl, rfl, by decide +kernel, rfl, by decide +kernel, by decide +kernel⟩
theorem scLists : FnScope ["places", "found", "place", "one"] ["places"] (defScope sLists) := ⟨rfl, rfl, rfl, by decide +kernel, rfl, by decide +kernel, by decide +kernel⟩
def spPlaces : Sp := fun vs H Q _ => ∃ (r c : Nat) (g : Mat) (x : V), vs = [x] ∧ DT H x (gridD r c g) ∧ 0 < r ∧ r ≤ 6 ∧ c ≤ 6 ∧ ∀ (H' : Hp) (a : Addr) (ys : List V), Same H H' → H a = none → H' a = some (.lst ys) → DTs H' ys ((places r c).map pD) → Q (.ref a) H'
theorem DTs.hideL {H : Hp} {L c : Addr} {xs ws : List V} (hL : H L = some (.lst (.ref c :: xs))) (hc : H c = some (.lst ws)) : ∀ {Ls : List (List Pl)} {ys : List V}, DTs H ys (Ls.map hD) → DTs (hide L H) ys (Ls.map hD)
  | [], _, .nil => .nil
  | h :: Ls, _, .cons d t => by
    obtain ⟨b, zs, rfl, hb, dz⟩ := d.inList
    have nb : b ≠ L := fun z => by
      rw [z, hL] at hb
      cases hb
      cases h with
      | nil => cases dz
      | cons p h =>
        cases dz with
        | cons d1 _ =>
          obtain ⟨c', e, h2⟩ := d1.pair
          cases e
          rw [hc] at h2
          cases h2
    refine .cons (.lst ((hide_ne nb).trans hb) (DTs.pls (fun b' us hb' => ?_) dz)) (DTs.hideL hL hc t)
    exact (hide_ne (ne_of hb' hL fun z => by cases z)).trans hb'
theorem subs_snoc (ps : List Pl) (p : Pl) : subs (ps ++ [p]) = subs ps ++ (subs ps).map (· ++ [p]) := by
  unfold subs subsFrom
  rw [List.foldl_append]
  rfl
def lamQ : Str := (Str.ofString "lists_of" ++ Str.ofString ".<locals>.") ++ Str.ofString "<lambda>"
def spLists (T : List (Addr × Str)) : Sp := fun vs H Q _ => ∃ (ps : List Pl) (x : V), vs = [x] ∧ DT H x (hD ps) ∧ ps.length ≤ 16 ∧ LamX.Tabs T H ∧ ∀ (H' : Hp) (a : Addr) (ys : List V), Ext H H' → LamX.Tabs T H' → H' a = some (.lst ys) → DTs H' ys ((listsOf ps).map hD) → Q (.ref a) H'
section
variable {P : Program} {w : PySem.World} {K : PySem.W.Frag} {mg : Str → Option Value} {base : Heap}
theorem ok_places {f : Addr} {fd : FuncData} (F : Fun K "places_of" "places_of" sPlaces f fd) (G : Gb mg) : FnOk P w K mg base CX0 1 f fd ["cells"] spPlaces := by
  refine F.ok scPlaces (fun vs H Q E h => ?_) (fun cdv A outer s H vs Q E hr h => ?_)
  · obtain ⟨r, c, g, x, rfl, _⟩ := h
    rfl
  · obtain ⟨r, c, g, x, rfl, dx, r0, r6, c6, q⟩ := h
    refine ⟨_, pss_one (ps_ret (pe_lc2 (own := [("i", 1), ("k", 2)]) (vs1 := [2]) (wi1 := iRng1 (tCons (tCB (rLen2 K) (tCons (tOp (rIxL K) (tVar 0) (tC (.int 0))) tNil)) tNil)) (g := gName 1) (g1 := gName 2) (tt := tYes) (tt1 := tYes) rfl scPlaces.nd (pi_range1 (by rfl) G.range (pa_cons (pe_callB cr_len (by rfl) G.len b_len (pa_cons (pv 0) pa_nil)) pa_nil)) (blkOk_by (N := ["cells", "i", "k"]) (sc := defScope sPlaces) (by decide +kernel)) (by decide)
        (fun _ _ _ _ _ => pg_name (i := 1) scPlaces.nd rfl (Or.inl rfl)) (fun _ _ _ _ _ => pts_nil) (fun _ _ _ _ _ => pi_range1 (by rfl) G.range (pa_cons (pe_callB cr_len (by rfl) G.len b_len (pa_cons (pe_ix ix_list (pv 0) pe_int (fun _ _ => rfl)) pa_nil)) pa_nil)) (fun _ _ _ _ _ => pg_name (i := 2) scPlaces.nd rfl (Or.inl rfl)) (fun _ _ _ _ _ => pts_nil)
        (fun _ _ _ _ _ => pe_tup (pa_cons (pv 1) (pa_cons (pv 2) pa_nil))))), ?_⟩
    obtain ⟨a, xs, rfl, ha, hlen, hrow⟩ := dx.grid
    obtain ⟨b0, e0, h0⟩ := hrow 0 r0
    refine ⟨_, rfl, a, _, rfl, .inl (SqL.of ha), r, (by rw [hlen]), by omega, by omega, fun D hD => ?_⟩
    refine lc2D r c (fun i k => pD (i, k)) (by rw [sizeLine_eq]; have : r * c ≤ 6 * 6 := Nat.mul_le_mul r6 c6; omega) hD (fun H' s3 => Nat.le_refl _) (fun i H' hi s3 => hi) (fun i H' x H'' R hi s3 n3 hy hR => ?_) (fun ys H' s3 h1 h2 => ?_)
    · have sm := s3.trans (hide_same (D := D) (H := H'))
      obtain ⟨rfl, rfl⟩ := hy
      refine ⟨rfl, ?_⟩
      refine ⟨_, rfl, a, _, _, _, rfl, rfl, SqL.of (sm _ _ ha), atI_nat (j := 0) e0, b0, _, rfl, .inl (SqL.of (sm _ _ h0)), c, (by rw [List.length_map, List.length_map, List.length_range]), by omega, by omega, ?_⟩
      refine hR _ _ _ ⟨Same.refl _, fun H5 s5 => Nat.le_refl _, fun j H5 hj s5 => hj, fun j H5 y H6 Kt hj s5 n5 hy5 hK => ?_⟩
      obtain ⟨rfl, rfl⟩ := hy5
      refine ⟨rfl, ?_⟩
      refine ⟨_, rfl, _, rfl, (by show 2 ≤ sizeLine; decide), fun p np => ?_⟩
      refine hK _ _ (same_new np) ?_
      have nD : p ≠ D := fun z => by
        rw [z] at np
        exact n5 np
      refine DT.ofPair (p := (i, j)) ?_
      rw [hide_ne nD, upd_same, Int.zero_add, Int.zero_add]
    · refine q H' D ys (s3.trans hide_same) hD h1 ?_
      have e : (List.range r).flatMap (fun i => (List.range c).map fun k => pD (i, k)) = (places r c).map pD := by
        unfold places
        rw [List.map_flatMap]
        refine congrArg (fun z => List.flatMap z (List.range r)) ?_
        funext i
        rw [List.map_map]
        rfl
      rw [e] at h2
      exact h2.same hide_same
theorem ok_lists {f c Pt : Addr} {fd : FuncData} {T : List (Addr × Str)} (F : FunC K "lists_of" "lists_of" sLists f fd c) (G : Gb mg) (TB : LamX.TabB base mg c Pt) (hT : (Pt, lamQ) ∈ T) (hu : ∀ q ∈ T, q.1 = Pt → q.2 = lamQ) : FnOk P w K mg base CX0 2 f fd ["places"] (spLists T) := by
  refine F.ok scLists (fun vs H Q E h => ?_) (fun A outer s H vs Q E hr h => ?_)
  · obtain ⟨ps, x, rfl, _⟩ := h
    rfl
  · obtain ⟨ps, x, rfl, dx, l16, tabs, q⟩ := h
    refine ⟨_, pss_cons (ps_set (i := 1) scLists.nd rfl (.inl rfl) (pe_lst (pa_cons (pe_lst pa_nil) pa_nil)))
      (pss_cons (ps_for PassesOwn.never rfl (pi_list (pv 0)) (pg_name (i := 2) scLists.nd rfl (Or.inr rfl))
        (pss_one (ps_aug (i := 1) (ti := rExt2) scLists.nd rfl (.inl rfl) (pe_lc (own := [("one", 3)]) (g := gName 3) (tt := tYes) rfl scLists.nd (pi_list (pv 1)) (blkOk_by (N := ["places", "found", "place", "one"]) (sc := defScope sLists) (by decide +kernel))
          (fun _ _ _ _ _ => pg_name (i := 3) scLists.nd rfl (Or.inl rfl)) (fun _ _ _ _ _ => pts_nil) (fun _ _ _ _ _ => pe_op op_cat (pv 3) (pe_lst (pa_cons (pv 2) pa_nil)))) iop_ext)))
      (pss_one (ps_ret (pe_sortLam (T := T) (by rfl) G.sorted G.len (pv 1) TB rfl hT hu hr)))), ?_⟩
    obtain ⟨a, zs, rfl, ha, hzl, _, hzs⟩ := id (DT.list (f := pD) dx)
    refine ⟨Nat.zero_le _, fun l nl => ⟨by show 1 ≤ sizeLine; decide, fun L nL => ?_⟩⟩
    have sl := same_new (o := .lst []) nl
    have bigL : ∀ j, (subs (ps.take j)).length ≤ 65536 := fun j => by
      rw [subs_len]
      have : (ps.take j).length ≤ 16 := Nat.le_trans (List.take_sublist j ps).length_le l16
      exact Nat.pow_le_pow_right (by decide) this
    refine ⟨_, rfl, a, rfl, ⟨_, SqL.of ((same_new nL) _ _ (sl _ _ ha))⟩, ?_⟩
    refine for_list (K := K) (a := a) (xs := zs) (fun j σ H' => ∃ xs v2 v3, σ = [some (.ref a), some (.ref L), v2, v3] ∧ Same H (hide L H') ∧ H' L = some (.lst xs) ∧ DTs (hide L H') xs ((subs (ps.take j)).map hD))
      ⟨_, _, _, rfl, ?_, upd_same, ?_⟩ (fun j σ H' _ hP => ?_) (fun j x σ H' hx hP => ?_) (fun σ H' hP => ?_)
    · rw [hide_upd, hide_none nL]
      exact sl
    · rw [hide_upd, hide_none nL, List.take_zero]
      exact .cons (.lst upd_same .nil) .nil
    · obtain ⟨_, _, _, _, sm, _⟩ := hP
      exact SqL.of (hide_same _ _ (sm _ _ ha))
    · obtain ⟨xs, v2, v3, rfl, sm, hL, hT'⟩ := hP
      have hj : j < ps.length := by
        have := (List.getElem?_eq_some_iff.mp hx).1
        omega
      obtain ⟨x', ex, dx'⟩ := hzs j _ (List.getElem?_eq_getElem hj)
      rw [hx] at ex
      cases ex
      have tk : ps.take (j + 1) = ps.take j ++ [ps[j]] := by
        rw [List.take_add_one, List.getElem?_eq_getElem hj]
        rfl
      have lenx := hT'.length
      rw [List.length_map] at lenx
      have b1 := bigL j
      have szL : (200000 : Nat) < sizeLine := by
        rw [sizeLine_eq]
        decide
      refine ⟨_, rfl, _, rfl, L, rfl, ⟨_, SqL.of hL⟩, fun D hD => ?_⟩
      refine lcD_list hL (((subs (ps.take j)).map fun h => Cv.hD (h ++ [ps[j]])).map some) (by rw [List.length_map, List.length_map]; exact lenx.symm) (by rw [List.length_map, List.length_map]; omega) hD (fun i o y H2 Kt Kf ho hy s2 s2' n2 hn hs => ?_) (fun ys H3 s3 h1 h2 => ?_)
      · obtain ⟨h, eh, rfl⟩ := os_map ho
        obtain ⟨y', ey, dy⟩ := hT'.get (i := i) (d := Cv.hD h) (by rw [List.getElem?_map, eh]; rfl)
        rw [hy] at ey
        cases ey
        obtain ⟨b, ws, rfl, hb, dws⟩ := dy.inList
        have hb' := hide_same _ _ hb
        have hlen : ws.length ≤ 16 := by
          have h3 := dws.length
          rw [List.length_map] at h3
          have h4 := (mem_subs.mp (List.mem_of_getElem? eh)).length_le
          have h5 := List.length_take_le j ps
          omega
        refine ⟨rfl, ?_⟩
        refine ⟨_, rfl, _, rfl, (by show 1 ≤ sizeLine; decide), fun p1 np1 => ?_⟩
        have s4 := same_new (o := .lst [x]) np1
        have nb1 := s2' _ _ hb'
        refine ⟨b, p1, ws, _, rfl, rfl, s4 _ _ nb1, upd_same, (by rw [List.length_singleton]; omega), fun p2 np2 => ?_⟩
        have s5 := same_new (o := .lst (ws ++ [x])) np2
        have pD2 : p2 ≠ D := fun z => by
          rw [z] at np2
          cases e : H2 D with
          | none => exact n2 e
          | some o =>
            rw [s4 _ _ e] at np2
            cases np2
        refine hs _ rfl _ _ (s4.trans s5) (.lst ((hide_ne pD2).trans upd_same) ?_)
        rw [List.map_append]
        have sH : Same (hide L H') (hide D (upd (upd H2 p1 (.lst [x])) p2 (.lst (ws ++ [x])))) := (hide_same).trans (s2.trans (hide_mono (s4.trans s5)))
        exact (dws.same sH).append (.cons (dx'.same (sm.trans sH)) .nil)
      · obtain ⟨h0, hh0⟩ : ∃ h0, (subs (ps.take j))[0]? = some h0 := by
          have : 0 < (subs (ps.take j)).length := by
            rw [subs_len]
            exact Nat.two_pow_pos _
          exact ⟨_, List.getElem?_eq_getElem this⟩
        obtain ⟨y0, ey0, dy0⟩ := hT'.get (i := 0) (d := Cv.hD h0) (by rw [List.getElem?_map, hh0]; rfl)
        obtain ⟨c0, ws0, rfl, hc0, _⟩ := dy0.inList
        have hL3 := s3 _ _ hL
        have lenY := h2.length
        rw [filterMap_some, List.length_map] at lenY
        rw [filterMap_some] at h2
        refine ⟨L, D, xs, ys, rfl, rfl, hL3, h1, by omega, ?_⟩
        refine ⟨_, _, _, rfl, ?_, upd_same, ?_⟩
        · rw [hide_upd]
          exact sm.trans (hide_mono s3)
        · rw [hide_upd, tk, subs_snoc, List.map_append]
          refine (hT'.same (hide_mono s3)).append ?_
          rw [List.map_map]
          cases xs with
          | nil => cases ey0
          | cons x0 xs =>
            cases ey0
            have e : (subs (ps.take j)).map (fun h => Cv.hD (h ++ [ps[j]])) = ((subs (ps.take j)).map (· ++ [ps[j]])).map Cv.hD := by
              rw [List.map_map]
              rfl
            rw [e] at h2
            have h3 := DTs.hideL hL3 (s3 _ _ (hide_same _ _ hc0)) (h2.same hide_same)
            rw [List.map_map] at h3
            exact h3
    · obtain ⟨xs, v2, v3, rfl, sm, hL, hT'⟩ := hP
      rw [List.take_of_length_le (by omega)] at hT'
      have s1 := sm.trans (hide_same (D := L) (H := H'))
      refine ⟨_, rfl, L, xs, (subs ps).map (List.map pD), rfl, tabs.ext s1, hL, ?_, alike_lists _, fun b hb => ?_, fun Hb p ys e tb np dys => ?_⟩
      · rw [List.map_map]
        exact hT'.same hide_same
      · obtain ⟨h, _, rfl⟩ := List.mem_map.mp hb
        exact dep_kk h
      · rw [sorted_lists] at dys
        have s2 := same_new (o := .lst ys) np
        exact q _ p ys (((Ext.of s1).trans e).trans (.of s2)) (tb.ext s2) upd_same (dys.same s2)
end
end Cv

/-! Countveil walks 12: pattern, is_lone, fewest. -/
namespace Cv
open PySem PySem.Spec PyProof.Rows L2
abbrev sPattern : Stmt := topS 29
abbrev sLone : Stmt := topS 31
abbrev sFewest : Stmt := topS 32
theorem scPattern : FnScope ["cells", "guards", "hidden", "place", "fewer", "one"] ["cells", "guards"] (defScope sPattern) := ⟨rfl, rfl, rfl, by decide +kernel, rfl, by decide +kernel, by decide +kernel⟩
theorem scLone : FnScope ["hidden", "rows", "columns", "i", "k"] ["hidden"] (defScope sLone) := ⟨rfl, rfl, rfl, by decide +kernel, rfl, by decide +kernel, by decide +kernel⟩
theorem scFewest : FnScope ["cells", "guards", "wanted", "hidden", "guard", "place"] ["cells", "guards"] (defScope sFewest) := ⟨rfl, rfl, rfl, by decide +kernel, rfl, by decide +kernel, by decide +kernel⟩
theorem count_cast (a : Nat) : ∀ l : List Nat, (l.map fun (n : Nat) => (n : Int)).count (a : Int) = l.count a
  | [] => rfl
  | b :: l => by
    rw [List.map_cons, List.count_cons, List.count_cons, count_cast a l]
    by_cases e : b = a
    · subst e
      simp
    · have e2 : ¬ ((b : Int) = (a : Int)) := by omega
      simp [e, e2]
def loneB (h : List Pl) (q : Pl) : Bool := decide ((h.map Prod.fst).count q.1 = 1) || decide ((h.map Prod.snd).count q.2 = 1)
theorem lone_any (h : List Pl) : (h.map (loneB h)).any id = true ↔ Lone h := by
  rw [List.any_eq_true]
  constructor
  · rintro ⟨b, hb, e⟩
    obtain ⟨q, hq, rfl⟩ := List.mem_map.mp hb
    refine ⟨q, hq, ?_⟩
    have e : loneB h q = true := e
    unfold loneB at e
    simpa using e
  · rintro ⟨q, hq, e⟩
    refine ⟨_, List.mem_map.mpr ⟨q, hq, rfl⟩, ?_⟩
    show loneB h q = true
    unfold loneB
    simpa using e
def spPattern : Sp := fun vs H Q _ => ∃ (r c : Nat) (g : Mat) (gs : List Gd) (x y : V), vs = [x, y] ∧ DT H x (gridD r c g) ∧ DT H y (gdsD gs) ∧ Gr r c g ∧ GdsOk r c gs ∧
  ∀ (H' : Hp) (v : V), Same H H' → (v = .non ∧ ¬ Safe r c g (places r c) gs) ∨ (∃ h, DT H' v (hD h) ∧ h.Sublist (places r c) ∧ Safe r c g h gs) → Q v H'
def spLone : Sp := fun vs H Q _ => ∃ (h : List Pl) (x : V), vs = [x] ∧ DT H x (hD h) ∧ h.length ≤ 100 ∧ ∀ (H' : Hp) (b : Bool), Same H H' → (b = true ↔ Lone h) → Q (.bl b) H'
/-- a list of places, or None -/
def ODT (H : Hp) (v : V) : Option (List Pl) → Prop
  | none => v = .non
  | some h => DT H v (hD h)
def spFewest (T : List (Addr × Str)) : Sp := fun vs H Q _ => ∃ (r c : Nat) (g : Mat) (gs : List Gd) (x y : V), vs = [x, y] ∧ DT H x (gridD r c g) ∧ DT H y (gdsD gs) ∧ Gr r c g ∧ GdsOk r c gs ∧ r * c ≤ 16 ∧ LamX.Tabs T H ∧
  ∀ (H' : Hp) (v : V) (o : Option (List Pl)), Ext H H' → LamX.Tabs T H' → First (listsOf (places r c)) (fun h => Safe r c g h gs) o → ODT H' v o → Q v H'
section
variable {P : Program} {w : PySem.World} {K : PySem.W.Frag} {mg : Str → Option Value} {base : Heap}
theorem ok_pattern {f : Addr} {fd : FuncData} (F : Fun K "pattern" "pattern" sPattern f fd) (hC : Has P w K mg base 6 "must_be_cells" ["cells", "guards"] spMustCells) (hP : Has P w K mg base 1 "places_of" ["cells"] spPlaces) (hS : Has P w K mg base 5 "safe_in" ["sheet", "guards"] spSafeIn) :
    FnOk P w K mg base CX0 7 f fd ["cells", "guards"] spPattern := by
  obtain ⟨fC, fdC, gC, kC, bC, oC⟩ := hC.ex
  obtain ⟨fP, fdP, gP, kP, bP, oP⟩ := hP.ex
  obtain ⟨fS, fdS, gS, kS, bS, oS⟩ := hS.ex
  refine F.ok scPattern (fun vs H Q E h => ?_) (fun cdv A outer s H vs Q E hr h => ?_)
  · obtain ⟨r, c, g, gs, x, y, rfl, _⟩ := h
    rfl
  · obtain ⟨r, c, g, gs, x, y, rfl, dx, dy, gr, ok, q⟩ := h
    have hu : (A.deeper (envOfC "pattern" (defScope sPattern) s.heap.objs.size f cdv)).units + 64 < cLine := by
      have := hr.un
      omega
    refine ⟨_, pss_cons (ps_expr (pe_call oC hr (by rfl) gC kC bC .nil pass0 (pa_cons (pv 0) (pa_cons (pv 1) pa_nil))))
      (pss_cons (ps_set (i := 2) scPattern.nd rfl (.inl rfl) (pe_call oP (hr.mono (by decide)) (by rfl) gP kP bP .nil pass0 (pa_cons (pv 0) pa_nil)))
      (pss_cons (ps_if (pt_cmp (pc_notN (pe_call oS (hr.mono (by decide)) (by rfl) gS kS bS .nil pass0 (pa_cons (pe_tup (pa_cons (pv 0) (pa_cons (pv 2) pa_nil))) (pa_cons (pv 1) pa_nil))))) (pss_one (ps_ret pe_non)) pss_nil)
      (pss_cons (ps_for PassesOwn.never rfl (pi_list (pe_call oP (hr.mono (by decide)) (by rfl) gP kP bP .nil pass0 (pa_cons (pv 0) pa_nil))) (pg_name (i := 3) scPattern.nd rfl (Or.inr rfl))
        (pss_cons (ps_setLc (i := 4) (own := [("one", 5)]) (g := gName 5) (tt := tTest (tOp (rNeD K) (tVar 5) (tVar 3))) rfl scPattern.nd rfl rfl (sw_true rfl rfl rfl (by decide +kernel)) (pi_list (pv 2)) (blkOk_by (N := ["cells", "guards", "hidden", "place", "fewer", "one"]) (sc := defScope sPattern) (by decide +kernel))
          (fun _ _ _ _ _ => pg_name (i := 5) scPattern.nd rfl (Or.inl rfl)) (fun _ _ _ _ _ => pts_one (pt_cmpR (op_neD hu) (pv 5) (pv 3) (nomark _))) (fun _ _ _ _ _ => pv 5))
        (pss_one (ps_if (pt_cmp (pc_isN (pe_call oS (hr.mono (by decide)) (by rfl) gS kS bS .nil pass0 (pa_cons (pe_tup (pa_cons (pv 0) (pa_cons (pv 4) pa_nil))) (pa_cons (pv 1) pa_nil))))) (pss_one (ps_set (i := 2) scPattern.nd rfl (.inl rfl) (pv 4))) pss_nil))))
      (pss_one (ps_ret (pv 2)))))), ?_⟩
    have r6 := gr.r6
    have c6 := gr.c6
    have rc : r * c ≤ 6 * 6 := Nat.mul_le_mul r6 c6
    have big : (1000 : Nat) < sizeLine := by
      rw [sizeLine_eq]
      decide
    refine ⟨_, rfl, _, rfl, r, c, g, gs, _, _, rfl, dx, dy, gr, ok, fun H1 s1 => ?_⟩
    refine ⟨_, rfl, r, c, g, _, rfl, dx.same s1, gr.r0, r6, c6, fun H2 pa ps s2 npa hpa dps => ?_⟩
    have s12 := s1.trans s2
    refine ⟨_, rfl, _, rfl, (by show 2 ≤ sizeLine; decide), fun t nt => ?_⟩
    have s3 := s12.trans (same_new (o := .tup [x, .ref pa]) nt)
    refine ⟨_, rfl, r, c, g, places r c, gs, _, _, rfl, DT.ofSheet upd_same (dx.same s3) ((DT.lst hpa dps).same (same_new nt)), dy.same s3, gr, Hid.of (List.Sublist.refl _), ok, fun H4 v s4 hv => ?_⟩
    have s34 := s3.trans s4
    rcases hv with ⟨rfl, hsafe⟩ | ⟨a, rfl, hns⟩
    · refine ⟨_, rfl, iteF ?_⟩
      refine ⟨_, rfl, r, c, g, _, rfl, dx.same s34, gr.r0, r6, c6, fun H5 pb zs s5 npb hpb dzs => ?_⟩
      have lz := dzs.length
      rw [List.length_map] at lz
      have dpa : DT H5 (.ref pa) (hD (places r c)) := (DT.lst hpa dps).same ((same_new nt).trans (s4.trans s5))
      refine ⟨pb, rfl, ⟨_, SqL.of hpb⟩, ?_⟩
      refine for_list (K := K) (a := pb) (xs := zs) (fun j σ H' => ∃ v h v3 v4 v5, σ = [some x, some y, some v, v3, v4, v5] ∧ Same H5 H' ∧ DT H' v (hD h) ∧ h.Sublist (places r c) ∧ Safe r c g h gs)
        ⟨_, _, _, _, _, rfl, Same.refl _, dpa, List.Sublist.refl _, hsafe⟩ (fun j σ H' _ hP => ?_) (fun j z σ H' hz hP => ?_) (fun σ H' hP => ?_)
      · obtain ⟨_, _, _, _, _, _, sm, _⟩ := hP
        exact SqL.of (sm _ _ hpb)
      · obtain ⟨v, h, v3, v4, v5, rfl, sm, dv, hsub, hs⟩ := hP
        obtain ⟨d, ed, dz⟩ := dzs.at_ hz
        obtain ⟨pl, epl, rfl⟩ := map_get ed
        obtain ⟨ha, hws, rfl, hha, hhl, _, hhat⟩ := id (DT.list (f := pD) dv)
        have lh : h.length ≤ 36 := by
          have h1 := hsub.length_le
          rw [places_len] at h1
          omega
        refine ⟨_, rfl, ha, rfl, ⟨_, SqL.of hha⟩, fun D hD => ?_⟩
        refine lcD_list hha (h.map fun q => if q ≠ pl then some (pD q) else none) (by rw [List.length_map, hhl]) (by rw [List.length_map]; omega) hD (fun i o z' H2' Kt Kf ho hz' sm2 sm2' n2 hn hk => ?_) (fun us H3' s3' h1 h2 => ?_)
        · obtain ⟨q', eq', rfl⟩ := map_get ho
          obtain ⟨z2, e1, dz2⟩ := hhat i q' eq'
          rw [hz'] at e1
          cases e1
          refine ⟨rfl, ?_⟩
          refine ⟨_, rfl, _, rfl, _, _, (dz2.same sm2').dp, ((dz.same sm).same sm2').dp, shaped_pD _, shaped_pD _, _, rfl, ?_⟩
          rw [eqv_pD]
          by_cases e : q' = pl
          · rw [decide_eq_true e]
            exact hn (if_neg fun z => z e) _ (Same.refl _)
          · rw [decide_eq_false e]
            exact ⟨_, rfl, hk _ (if_pos e) _ _ (Same.refl _) (dz2.same sm2)⟩
        · rw [others_data] at h2
          have sm3 := (s34.trans s5).trans (sm.trans s3')
          refine ⟨_, rfl, _, rfl, (by show 2 ≤ sizeLine; decide), fun t2 nt2 => ?_⟩
          have s6 := sm3.trans (same_new (o := .tup [x, .ref D]) nt2)
          have dD : DT H3' (.ref D) (Cv.hD (others h pl)) := .lst h1 (h2.same hide_same)
          have hsub2 : (others h pl).Sublist (places r c) := List.filter_sublist.trans hsub
          refine ⟨_, rfl, r, c, g, others h pl, gs, _, _, rfl, DT.ofSheet upd_same (dx.same s6) (dD.same (same_new nt2)), dy.same s6, gr, Hid.of hsub2, ok, fun H7 v7 s7 hv7 => ?_⟩
          have s57 := sm.trans (s3'.trans ((same_new nt2).trans s7))
          rcases hv7 with ⟨rfl, hsafe2⟩ | ⟨a7, rfl, _⟩
          · refine ⟨_, rfl, iteT ?_⟩
            exact ⟨_, rfl, _, _, _, _, _, rfl, s57, dD.same ((same_new nt2).trans s7), hsub2, hsafe2⟩
          · refine ⟨_, rfl, iteF ?_⟩
            exact ⟨_, _, _, _, _, rfl, s57, dv.same (s3'.trans ((same_new nt2).trans s7)), hsub, hs⟩
      · obtain ⟨v, h, v3, v4, v5, rfl, sm, dv, hsub, hs⟩ := hP
        exact ⟨_, rfl, q _ v ((s34.trans s5).trans sm) (.inr ⟨h, dv, hsub, hs⟩)⟩
    · refine ⟨_, rfl, iteT ?_⟩
      exact q _ _ s34 (.inl ⟨rfl, hns⟩)
theorem ok_lone {f : Addr} {fd : FuncData} (F : Fun K "is_lone" "is_lone" sLone f fd) (G : Gb mg) : FnOk P w K mg base CX0 1 f fd ["hidden"] spLone := by
  refine F.ok scLone (fun vs H Q E h => ?_) (fun cdv A outer s H vs Q E hr h => ?_)
  · obtain ⟨h, x, rfl, _⟩ := h
    rfl
  · obtain ⟨h, x, rfl, dx, l100, q⟩ := h
    refine ⟨_, pss_cons (ps_set (i := 1) scLone.nd rfl (.inr rfl) (pe_lc (own := [("i", 3), ("k", 4)]) (g := gTup K 2 (gCons (gName 3) (gCons (gName 4) gNil))) (tt := tYes) rfl scLone.nd (pi_list (pv 0)) (blkOk_by (N := ["hidden", "rows", "columns", "i", "k"]) (sc := defScope sLone) (by decide +kernel))
          (fun _ _ _ _ _ => pg_tup rfl (pgs_cons (pg_name (i := 3) scLone.nd rfl (Or.inl rfl)) (pgs_cons (pg_name (i := 4) scLone.nd rfl (Or.inl rfl)) pgs_nil))) (fun _ _ _ _ _ => pts_nil) (fun _ _ _ _ _ => pv 3)))
      (pss_cons (ps_set (i := 2) scLone.nd rfl (.inr rfl) (pe_lc (own := [("i", 3), ("k", 4)]) (g := gTup K 2 (gCons (gName 3) (gCons (gName 4) gNil))) (tt := tYes) rfl scLone.nd (pi_list (pv 0)) (blkOk_by (N := ["hidden", "rows", "columns", "i", "k"]) (sc := defScope sLone) (by decide +kernel))
          (fun _ _ _ _ _ => pg_tup rfl (pgs_cons (pg_name (i := 3) scLone.nd rfl (Or.inl rfl)) (pgs_cons (pg_name (i := 4) scLone.nd rfl (Or.inl rfl)) pgs_nil))) (fun _ _ _ _ _ => pts_nil) (fun _ _ _ _ _ => pv 4)))
      (pss_one (ps_ret (pe_callB (cr_any rfl) (by rfl) G.any b_any (pa_cons (pe_lc (own := [("i", 3), ("k", 4)]) (g := gTup K 2 (gCons (gName 3) (gCons (gName 4) gNil))) (tt := tYes)
          (te := tOrV (tOp rEq (tBM K "list" (rCntI K) (tVar 1) (tCons (tVar 3) tNil)) (tC (.int 1))) (tOp rEq (tBM K "list" (rCntI K) (tVar 2) (tCons (tVar 4) tNil)) (tC (.int 1)))) rfl scLone.nd (pi_list (pv 0)) (blkOk_by (N := ["hidden", "rows", "columns", "i", "k"]) (sc := defScope sLone) (by decide +kernel))
          (fun _ _ _ _ _ => pg_tup rfl (pgs_cons (pg_name (i := 3) scLone.nd rfl (Or.inl rfl)) (pgs_cons (pg_name (i := 4) scLone.nd rfl (Or.inl rfl)) pgs_nil))) (fun _ _ _ _ _ => pts_nil)
          (fun _ _ _ _ _ => pe_or (pe_cmpR op_eq (pe_bm PySem.F.plainAttrs_list PySem.F.slot_list_count PySem.F.type_list_count mt_lcount (pv 1) (pa_cons (pv 3) pa_nil)) pe_int (nomark _)) (pe_one (pe_cmpR op_eq (pe_bm PySem.F.plainAttrs_list PySem.F.slot_list_count PySem.F.type_list_count mt_lcount (pv 2) (pa_cons (pv 4) pa_nil)) pe_int (nomark _))))) pa_nil))))), ?_⟩
    obtain ⟨a, xs, rfl, ha, hlen, _, hat⟩ := id (DT.list (f := pD) dx)
    have big : (1000 : Nat) < sizeLine := by
      rw [sizeLine_eq]
      decide
    have get2 : ∀ {H' : Hp}, Same H H' → ∀ (j : Nat) (x : V), xs[j]? = some x → ∀ q, h[j]? = some q → ∃ b, x = .ref b ∧ H' b = some (.tup [.int q.1, .int q.2]) := fun {H'} sm j x hx q hq => by
      obtain ⟨x', e1, e2⟩ := hat j q hq
      rw [hx] at e1
      cases e1
      obtain ⟨b, rfl, hb⟩ := e2.pair
      exact ⟨b, rfl, sm _ _ hb⟩
    refine ⟨_, rfl, a, rfl, ⟨_, SqL.of ha⟩, fun D1 hD1 => ?_⟩
    refine lcD_list ha ((h.map fun q => PyData.int q.1).map some) (by rw [List.length_map, List.length_map, hlen]) (by rw [List.length_map, List.length_map]; omega) hD1 (fun j o x H' Kt Kf ho hx sm sm2 n2 hn hs => ?_) (fun ys1 H1 s1 h1 h2 => ?_)
    · obtain ⟨q0, eq0, rfl⟩ := os_map ho
      obtain ⟨b, rfl, hb⟩ := get2 sm2 j x hx q0 eq0
      refine ⟨b, _, rfl, SqT.of hb, rfl, _, _, rfl, _, _, rfl, rfl, rfl, ?_⟩
      exact ⟨_, rfl, hs _ rfl _ _ (Same.refl _) (.int _)⟩
    rw [filterMap_some, show h.map (fun q => PyData.int q.1) = (h.map fun q => (q.1 : Int)).map PyData.int by rw [List.map_map]; rfl] at h2
    rw [h2.toInts] at h1
    refine ⟨_, rfl, a, rfl, ⟨_, SqL.of (s1 _ _ ha)⟩, fun D2 hD2 => ?_⟩
    refine lcD_list (s1 _ _ ha) ((h.map fun q => PyData.int q.2).map some) (by rw [List.length_map, List.length_map, hlen]) (by rw [List.length_map, List.length_map]; omega) hD2 (fun j o x H' Kt Kf ho hx sm sm2 n2 hn hs => ?_) (fun ys2 H2 s2 h3 h4 => ?_)
    · obtain ⟨q0, eq0, rfl⟩ := os_map ho
      obtain ⟨b, rfl, hb⟩ := get2 (s1.trans sm2) j x hx q0 eq0
      refine ⟨b, _, rfl, SqT.of hb, rfl, _, _, rfl, _, _, rfl, rfl, rfl, ?_⟩
      exact ⟨_, rfl, hs _ rfl _ _ (Same.refl _) (.int _)⟩
    rw [filterMap_some, show h.map (fun q => PyData.int q.2) = (h.map fun q => (q.2 : Int)).map PyData.int by rw [List.map_map]; rfl] at h4
    rw [h4.toInts] at h3
    have s12 := s1.trans s2
    have h1' := s2 _ _ h1
    refine ⟨_, rfl, a, rfl, ⟨_, SqL.of (s12 _ _ ha)⟩, fun D3 hD3 => ?_⟩
    refine lcD_list (s12 _ _ ha) ((h.map fun q => PyData.bool (loneB h q)).map some) (by rw [List.length_map, List.length_map, hlen]) (by rw [List.length_map, List.length_map]; omega) hD3 (fun j o x H' Kt Kf ho hx sm sm2 n2 hn hs => ?_) (fun ys3 H3 s3 h5 h6 => ?_)
    · obtain ⟨q0, eq0, rfl⟩ := os_map ho
      obtain ⟨b, rfl, hb⟩ := get2 (s12.trans sm2) j x hx q0 eq0
      refine ⟨b, _, rfl, SqT.of hb, rfl, _, _, rfl, _, _, rfl, rfl, rfl, ?_⟩
      have e1 : (h.map fun q => (q.1 : Int)).count (q0.1 : Int) = (h.map Prod.fst).count q0.1 := by
        rw [← count_cast, List.map_map]
        rfl
      have e2 : (h.map fun q => (q.2 : Int)).count (q0.2 : Int) = (h.map Prod.snd).count q0.2 := by
        rw [← count_cast, List.map_map]
        rfl
      have i1 : ∀ n : Nat, decide (V.int (n : Nat) = V.int 1) = decide (n = 1) := fun n => by
        rw [Bool.eq_iff_iff, decide_eq_true_iff, decide_eq_true_iff]
        constructor
        · intro z
          have := V.int.inj z
          omega
        · intro z
          rw [z]
          rfl
      refine ⟨_, rfl, .inl ⟨rfl, _, SqL.of (sm2 _ _ h1')⟩, _, rfl, D1, _, _, rfl, rfl, SqL.of (sm2 _ _ h1'), rfl, _, rfl, ?_⟩
      rw [e1, i1]
      have fin : loneB h q0 = (decide ((h.map Prod.fst).count q0.1 = 1) || decide ((h.map Prod.snd).count q0.2 = 1)) := rfl
      cases c1 : decide ((h.map Prod.fst).count q0.1 = 1) with
      | true =>
        refine iteT ?_
        rw [c1, Bool.true_or] at fin
        exact hs _ (by rw [fin]) _ _ (Same.refl _) (.bl true)
      | false =>
        refine iteF ?_
        rw [c1, Bool.false_or] at fin
        refine ⟨_, rfl, .inl ⟨rfl, _, SqL.of (sm2 _ _ h3)⟩, _, rfl, D2, _, _, rfl, rfl, SqL.of (sm2 _ _ h3), rfl, ?_⟩
        rw [e2, i1]
        exact hs _ rfl _ _ (Same.refl _) (by rw [fin]; exact .bl _)
    rw [filterMap_some, show h.map (fun q => PyData.bool (loneB h q)) = (h.map (loneB h)).map PyData.bool by rw [List.map_map]; rfl] at h6
    rw [h6.toBls] at h5
    refine ⟨D3, _, rfl, SqL.of h5, ?_⟩
    exact q _ _ (s12.trans s3) (lone_any h)
end
end Cv

/-! Countveil walks 13: fewest. -/
namespace Cv
open PySem PySem.Spec PyProof.Rows L2
theorem First.ex (P : List Pl → Prop) : ∀ L : List (List Pl), ∃ o, First L P o
  | [] => ⟨none, fun h hm => by cases hm⟩
  | a :: L => by
    by_cases ha : P a
    · exact ⟨some a, 0, rfl, ha, fun j hj => absurd hj (Nat.not_lt_zero _)⟩
    · obtain ⟨o, F⟩ := First.ex P L
      cases o with
      | none => exact ⟨none, fun h hm hp => by
          rcases List.mem_cons.mp hm with rfl | hm
          · exact ha hp
          · exact F h hm hp⟩
      | some h =>
        obtain ⟨i, e, p, f⟩ := F
        refine ⟨some h, i + 1, e, p, fun j hj h' e' => ?_⟩
        cases j with
        | zero =>
          cases e'
          exact ha
        | succ j => exact f j (by omega) h' e'
theorem First.ofLone {r c : Nat} {g : Mat} {gs : List Gd} {L : List (List Pl)} (B : ByLen L) (hL : ∀ h, h ∈ L ↔ h.Sublist (places r c)) (hp : ∀ x, x ∈ gs → 0 < x.2.2.1 + x.2.2.2) {o : Option (List Pl)} (F : First L (fun h => Safe r c g h gs ∧ ¬ Lone h) o) : First L (fun h => Safe r c g h gs) o := by
  obtain ⟨o', F'⟩ := First.ex (fun h => Safe r c g h gs) L
  rw [First.unique F (F'.lone B hL hp)]
  exact F'
section
variable {P : Program} {w : PySem.World} {K : PySem.W.Frag} {mg : Str → Option Value} {base : Heap}
theorem ok_fewest {f : Addr} {fd : FuncData} {T : List (Addr × Str)} (F : Fun K "fewest" "fewest" sFewest f fd) (G : Gb mg) (hC : Has P w K mg base 6 "must_be_cells" ["cells", "guards"] spMustCells) (hP : Has P w K mg base 1 "places_of" ["cells"] spPlaces) (hS : Has P w K mg base 5 "safe_in" ["sheet", "guards"] spSafeIn)
    (hL : Has P w K mg base 2 "lists_of" ["places"] (spLists T)) (hO : Has P w K mg base 1 "is_lone" ["hidden"] spLone) : FnOk P w K mg base CX0 7 f fd ["cells", "guards"] (spFewest T) := by
  obtain ⟨fC, fdC, gC, kC, bC, oC⟩ := hC.ex
  obtain ⟨fP, fdP, gP, kP, bP, oP⟩ := hP.ex
  obtain ⟨fS, fdS, gS, kS, bS, oS⟩ := hS.ex
  obtain ⟨fL, fdL, gL, kL, bL, oL⟩ := hL.ex
  obtain ⟨fO, fdO, gO, kO, bO, oO⟩ := hO.ex
  obtain ⟨tm, gm⟩ := G.small
  refine F.ok scFewest (fun vs H Q E h => ?_) (fun cdv A outer s H vs Q E hr h => ?_)
  · obtain ⟨r, c, g, gs, x, y, rfl, _⟩ := h
    rfl
  · obtain ⟨r, c, g, gs, x, y, rfl, dx, dy, gr, ok, rc16, tabs, q⟩ := h
    have hu : (A.deeper (envOfC "fewest" (defScope sFewest) s.heap.objs.size f cdv)).units + 65 < cLine := by
      have := hr.un
      omega
    refine ⟨_, pss_cons (ps_expr (pe_call oC hr (by rfl) gC kC bC .nil pass0 (pa_cons (pv 0) (pa_cons (pv 1) pa_nil))))
      (pss_cons (ps_if (pt_cmpR op_gt (pe_callB cr_len (by rfl) G.len b_len (pa_cons (pe_call oP (hr.mono (by decide)) (by rfl) gP kP bP .nil pass0 (pa_cons (pv 0) pa_nil)) pa_nil)) (pe_glob (v := .int 16) (by rfl) gm ⟨_, rfl⟩) (nomark _)) pss_never pss_nil)
      (pss_cons (ps_setLc (i := 2) (own := [("guard", 4)]) (g := gName 4) (tt := tYes) (te := tSl (rSlT K) (tVar 4) tNoPart (tPart (tC (.int 2)))) rfl scFewest.nd rfl rfl (sw_true rfl rfl rfl (by decide +kernel)) (pi_list (pv 1)) (blkOk_by (N := ["cells", "guards", "wanted", "hidden", "guard", "place"]) (sc := defScope sFewest) (by decide +kernel))
          (fun _ _ _ _ _ => pg_name (i := 4) scFewest.nd rfl (Or.inl rfl)) (fun _ _ _ _ _ => pts_nil) (fun _ _ _ _ _ => pe_slice (r := rSlT K) sl_tup (pv 4) po_none (po_some pe_int)))
      (pss_cons (ps_for PassesOwn.never rfl (pi_list (pe_call oL (hr.mono (by decide)) (by rfl) gL kL bL .nil pass0 (pa_cons (pe_call oP (hr.mono (by decide)) (by rfl) gP kP bP .nil pass0 (pa_cons (pv 0) pa_nil)) pa_nil))) (pg_name (i := 3) scFewest.nd rfl (Or.inr rfl))
        (pss_one (ps_if (PW.pt (pw_and (pt_val (pe_callB (cr_all rfl) (by rfl) G.all b_all (pa_cons (pe_lc (own := [("place", 5)]) (g := gName 5) (tt := tYes) (te := tOp (rInD K) (tVar 5) (tVar 3)) rfl scFewest.nd (pi_list (pv 2)) (blkOk_by (N := ["cells", "guards", "wanted", "hidden", "guard", "place"]) (sc := defScope sFewest) (by decide +kernel))
            (fun _ _ _ _ _ => pg_name (i := 5) scFewest.nd rfl (Or.inl rfl)) (fun _ _ _ _ _ => pts_nil) (fun _ _ _ _ _ => pe_cmpR (op_inD hu) (pv 5) (pv 3) rfl)) pa_nil)))
            (pw_and1 (pt_not (pt_val (pe_call oO (hr.mono (by decide)) (by rfl) gO kO bO .nil pass0 (pa_cons (pv 3) pa_nil)))))))
          (pss_one (ps_if (pt_cmp (pc_isN (pe_call oS (hr.mono (by decide)) (by rfl) gS kS bS .nil pass0 (pa_cons (pe_tup (pa_cons (pv 0) (pa_cons (pv 3) pa_nil))) (pa_cons (pv 1) pa_nil))))) (pss_one (ps_ret (pv 3))) pss_nil)) pss_nil)))
      (pss_one (ps_ret pe_non))))), ?_⟩
    have r6 := gr.r6
    have c6 := gr.c6
    have big : (1000000 : Nat) < sizeLine := by
      rw [sizeLine_eq]
      decide
    refine ⟨_, rfl, _, rfl, r, c, g, gs, _, _, rfl, dx, dy, gr, ok, fun H1 s1 => ?_⟩
    refine ⟨_, rfl, r, c, g, _, rfl, dx.same s1, gr.r0, r6, c6, fun H2 pa ps s2 npa hpa dps => ?_⟩
    have lps := dps.length
    rw [List.length_map, places_len] at lps
    refine ⟨pa, _, rfl, .inl (SqL.of hpa), _, _, rfl, rfl, false, congrArg V.bl (decide_eq_false (by omega)), iteF ?_⟩
    have s12 := s1.trans s2
    obtain ⟨ga, gxs, rfl, hga, hgl, _, hgat⟩ := id (DT.list (f := gdD) dy)
    have l8 := ok.len
    refine ⟨_, rfl, ga, rfl, ⟨_, SqL.of (s12 _ _ hga)⟩, fun D hD => ?_⟩
    refine lcD_list (s12 _ _ hga) ((gs.map fun q => pD (q.1, q.2.1)).map some) (by rw [List.length_map, List.length_map, hgl]) (by rw [List.length_map, List.length_map]; omega) hD (fun j o z H' Kt Kf ho hz sm sm2 n2 hn hs => ?_) (fun us H3 s3 h1 h2 => ?_)
    · obtain ⟨q0, eq0, rfl⟩ := os_map ho
      obtain ⟨z', e1, dz⟩ := hgat j q0 eq0
      rw [hz] at e1
      cases e1
      obtain ⟨b, rfl, hb⟩ := (dz.same (s12.trans sm2)).guard
      refine ⟨rfl, ?_⟩
      refine ⟨_, rfl, 2, rfl, b, _, rfl, SqT.of hb, cut_ne _ _ _ _, fun p np => ?_⟩
      rw [cut2]
      have pD2 : p ≠ D := fun e => by
        rw [e] at np
        exact n2 np
      exact hs _ rfl _ _ (same_new np) (DT.ofPair (p := (q0.1, q0.2.1)) ((hide_ne pD2).trans upd_same))
    rw [filterMap_some] at h2
    have dW : DT H3 (.ref D) (.list (gs.map fun q => pD (q.1, q.2.1))) := .lst h1 (h2.same hide_same)
    have s13 := s12.trans s3
    refine ⟨_, rfl, r, c, g, _, rfl, dx.same s13, gr.r0, r6, c6, fun H4 pb qs s4 npb hpb dqs => ?_⟩
    have s14 := s13.trans s4
    refine ⟨places r c, _, rfl, .lst hpb dqs, by rw [places_len]; exact rc16, tabs.ext s14, fun H5 la ls e5 tabs5 hla dls => ⟨la, rfl, ⟨_, SqL.of hla⟩, ?_⟩⟩
    have e05 : Ext H H5 := (Ext.of s14).trans e5
    have lls := dls.length
    rw [List.length_map] at lls
    have dW5 : DT H5 (.ref D) (.list (gs.map fun q => pD (q.1, q.2.1))) := (dW.same s4).ext e5
    refine for_list (K := K) (a := la) (xs := ls) (fun j σ H' => ∃ v3 v4 v5, σ = [some x, some (.ref ga), some (.ref D), v3, v4, v5] ∧ Same H5 H' ∧ ∀ i, i < j → ∀ h, (listsOf (places r c))[i]? = some h → ¬ (Safe r c g h gs ∧ ¬ Lone h))
      ⟨_, _, _, rfl, Same.refl _, fun i hi => absurd hi (Nat.not_lt_zero _)⟩ (fun j σ H' _ hP => ?_) (fun j z σ H' hz hP => ?_) (fun σ H' hP => ?_)
    · obtain ⟨_, _, _, _, sm, _⟩ := hP
      exact SqL.of (sm _ _ hla)
    · obtain ⟨v3, v4, v5, rfl, sm, hno⟩ := hP
      obtain ⟨d, ed, dz⟩ := dls.at_ hz
      obtain ⟨h, eh, rfl⟩ := map_get ed
      have dz' := dz.same sm
      have hsub : h.Sublist (places r c) := mem_listsOf.mp (List.mem_of_getElem? eh)
      have lh : h.length ≤ 36 := by
        have h1 := hsub.length_le
        rw [places_len] at h1
        omega
      have dW' := dW5.same sm
      obtain ⟨wa, ws, ew, hwa, hwl, _, hwat⟩ := id (DT.list (f := fun q : Gd => pD (q.1, q.2.1)) dW')
      cases ew
      -- all places wanted are hidden
      have stay : ∀ {σ' H''}, Same H' H'' → (∃ v3 v4 v5, σ' = [some x, some (.ref ga), some (.ref D), v3, v4, v5]) → ¬ (Safe r c g h gs ∧ ¬ Lone h) → (∃ v3 v4 v5, σ' = [some x, some (.ref ga), some (.ref D), v3, v4, v5] ∧ Same H5 H'' ∧ ∀ i, i < j + 1 → ∀ h, (listsOf (places r c))[i]? = some h → ¬ (Safe r c g h gs ∧ ¬ Lone h)) := fun {σ' H''} s7 ⟨v3, v4, v5, e⟩ hn => ⟨v3, v4, v5, e, sm.trans s7, fun i hi h' eh' => by
        by_cases e : i = j
        · rw [e, eh] at eh'
          cases eh'
          exact hn
        · exact hno i (by omega) h' eh'⟩
      refine ⟨_, rfl, D, rfl, ⟨_, SqL.of hwa⟩, fun D3 hD3 => ?_⟩
      refine lcD_list hwa ((gs.map fun q => PyData.bool (decide ((q.1, q.2.1) ∈ h))).map some) (by rw [List.length_map, List.length_map, hwl]) (by rw [List.length_map, List.length_map]; omega) hD3 (fun i o y H6 Kt Kf ho hy s6 s6' n6 hn hs => ?_) (fun us H7 s7 h3 h4 => ?_)
      · obtain ⟨q0, eq0, rfl⟩ := os_map ho
        obtain ⟨y', e1, dy'⟩ := hwat i q0 eq0
        rw [hy] at e1
        cases e1
        refine ⟨rfl, ?_⟩
        refine ⟨_, rfl, _, rfl, pD (q0.1, q0.2.1), h.map pD, (dy'.same s6').dp, (dz'.same s6').dp, shaped_pD _, shaped_hD _, ?_⟩
        rw [any_pD]
        exact hs _ rfl _ _ (Same.refl _) (.bl _)
      rw [filterMap_some, show gs.map (fun q => PyData.bool (decide ((q.1, q.2.1) ∈ h))) = (gs.map fun q => decide ((q.1, q.2.1) ∈ h)).map PyData.bool by rw [List.map_map]; rfl] at h4
      rw [h4.toBls] at h3
      refine ⟨D3, _, rfl, SqL.of h3, _, rfl, ?_⟩
      refine ite2 (fun ha => ?_) (fun ha => ?_)
      · refine ⟨_, rfl, h, _, rfl, dz'.same s7, by omega, fun H8 bl s8 hbl => ⟨bl, rfl, ?_⟩⟩
        cases bl with
        | true =>
          refine iteF ?_
          exact stay (s7.trans s8) ⟨_, _, _, rfl⟩ fun z => z.2 (hbl.mp rfl)
        | false =>
          refine iteT ?_
          have nl : ¬ Lone h := fun z => by
            have := hbl.mpr z
            cases this
          refine ⟨_, rfl, _, rfl, (by show 2 ≤ sizeLine; decide), fun t nt => ?_⟩
          have s78 := s7.trans s8
          have s9 := s78.trans (same_new (o := .tup [x, z]) nt)
          have e09 : Ext H _ := e05.trans (.of (sm.trans s9))
          refine ⟨_, rfl, r, c, g, h, gs, _, _, rfl, DT.ofSheet upd_same (dx.ext e09) (dz'.same s9), dy.ext e09, gr, Hid.of hsub, ok, fun H10 v10 s10 hv => ?_⟩
          have s910 := s9.trans s10
          rcases hv with ⟨rfl, hsafe⟩ | ⟨a10, rfl, hns⟩
          · refine ⟨_, rfl, iteT ?_⟩
            refine ⟨_, rfl, ?_⟩
            refine q _ z (some h) (e05.trans (.of (sm.trans s910))) ((tabs5.ext sm).ext s910) (First.ofLone (listsOf_byLen _) (fun h => mem_listsOf) (fun x hx => (ok.ok x hx).s) ⟨j, eh, ⟨hsafe, nl⟩, fun i hi h' eh' => hno i hi h' eh'⟩) (dz'.same s910)
          · refine ⟨_, rfl, iteF ?_⟩
            exact stay s910 ⟨_, _, _, rfl⟩ fun z => hns z.1
      · refine stay s7 ⟨_, _, _, rfl⟩ fun z => ha ?_
        rw [List.all_eq_true]
        intro b hb
        obtain ⟨q0, hq0, rfl⟩ := List.mem_map.mp hb
        exact decide_eq_true (z.1 q0 hq0).1
    · obtain ⟨v3, v4, v5, rfl, sm, hno⟩ := hP
      refine q _ .non none (e05.trans (.of sm)) (tabs5.ext sm) (First.ofLone (listsOf_byLen _) (fun h => mem_listsOf) (fun x hx => (ok.ok x hx).s) fun h hm hs => ?_) rfl
      obtain ⟨i, ei⟩ := List.getElem?_of_mem hm
      have hi := (List.getElem?_eq_some_iff.mp ei).1
      exact hno i (by omega) h ei hs
end
end Cv

/-! Countveil, the law's own defs 1: the numbers that are drawn: _law_left, _law_draw, _law_pick. -/
namespace Cv
open PySem PySem.Spec PyProof.Rows L2
/-! ### the pot: two lists that change -/
structure Pot (H : Hp) (st cl : Addr) (n : Nat) : Prop where
  ex : ∃ (ns : List Int) (went : Nat), H st = some (.lst [.ref cl, .int (went : Nat)]) ∧ H cl = some (.lst (ns.map V.int)) ∧ 0 < ns.length ∧ ns.length ≤ 63 ∧ went ≤ n
theorem Pot.ne {H : Hp} {st cl : Addr} {n : Nat} (p : Pot H st cl n) : st ≠ cl := by
  obtain ⟨ns, went, h1, h2, h3, _⟩ := p.ex
  intro z
  rw [z, h2] at h1
  cases ns with
  | nil => cases h1
  | cons a ns =>
    have := Option.some.inj h1
    injection this with h4
    injection h4 with h5
    cases h5
theorem Pot.mono {H : Hp} {st cl : Addr} {n m : Nat} (p : Pot H st cl n) (h : n ≤ m) : Pot H st cl m := by
  obtain ⟨ns, went, h1, h2, h3, h4, h5⟩ := p.ex
  exact ⟨ns, went, h1, h2, h3, h4, by omega⟩
theorem Pot.ext {H H' : Hp} {st cl : Addr} {n : Nat} (p : Pot H st cl n) (e : Ext H H') : Pot H' st cl n := by
  obtain ⟨ns, went, h1, h2, h3, h4, h5⟩ := p.ex
  exact ⟨ns, went, e _ _ h1 (fun ps z => by cases z), e _ _ h2 (fun ps z => by cases z), h3, h4, h5⟩
/-- both hidden -/
def hid2 (st cl : Addr) (H : Hp) : Hp := hide st (hide cl H)
theorem hid2_at {st cl a : Addr} {H : Hp} (h1 : a ≠ st) (h2 : a ≠ cl) : hid2 st cl H a = H a := by
  unfold hid2
  rw [hide_ne h1, hide_ne h2]
theorem hid2_st {st cl : Addr} {H : Hp} : hid2 st cl H st = none := hide_self
theorem hid2_cl {st cl : Addr} {H : Hp} (h : st ≠ cl) : hid2 st cl H cl = none := by
  unfold hid2
  rw [hide_ne h.symm, hide_self]
theorem hid2_same {st cl : Addr} {H : Hp} : Same (hid2 st cl H) H := hide_same.trans hide_same
theorem hid2_mono {st cl : Addr} {H H' : Hp} (s : Same H H') : Same (hid2 st cl H) (hid2 st cl H') := hide_mono (hide_mono s)
theorem hid2_ext {st cl : Addr} {H H' : Hp} (s : Ext H H') : Ext (hid2 st cl H) (hid2 st cl H') := fun b o e n => by
  have h1 : b ≠ st := fun z => by
    rw [z, hid2_st] at e
    cases e
  have h2 : b ≠ cl := fun z => by
    by_cases y : b = st
    · exact h1 y
    · unfold hid2 at e
      rw [z, hide_ne (by rw [← z]; exact y), hide_self] at e
      cases e
  rw [hid2_at h1 h2] at e ⊢
  exact s b o e n
/-- nothing but the pot has changed -/
def Dr (st cl : Addr) (H H' : Hp) : Prop := hid2 st cl H' = hid2 st cl H
theorem Dr.same {st cl : Addr} {H H' : Hp} (d : Dr st cl H H') : Same (hid2 st cl H) (hid2 st cl H') := by
  rw [show hid2 st cl H' = hid2 st cl H from d]
  exact Same.refl _
theorem Dr.at {st cl a : Addr} {H H' : Hp} (d : Dr st cl H H') (h1 : a ≠ st) (h2 : a ≠ cl) : H' a = H a := by
  have := congrFun d a
  rwa [hid2_at h1 h2, hid2_at h1 h2] at this
theorem Dr.upd_st {st cl : Addr} {H : Hp} {o : HO} : Dr st cl H (upd H st o) := by
  funext a
  by_cases h : a = st
  · rw [h, hid2_st, hid2_st]
  · unfold hid2
    rw [hide_ne h, hide_ne h]
    by_cases h2 : a = cl
    · rw [h2, hide_self, hide_self]
    · rw [hide_ne h2, hide_ne h2, upd_ne h]
theorem Dr.upd_cl {st cl : Addr} {H : Hp} {o : HO} : Dr st cl H (upd H cl o) := by
  unfold Dr hid2
  rw [hide_upd]
theorem Dr.refl {st cl : Addr} {H : Hp} : Dr st cl H H := rfl
theorem Dr.trans {st cl : Addr} {H H1 H2 : Hp} (a : Dr st cl H H1) (b : Dr st cl H1 H2) : Dr st cl H H2 := Eq.trans b a
theorem Dr.tabs {st cl : Addr} {n : Nat} {H H' : Hp} {T : List (Addr × Str)} (d : Dr st cl H H') (p : Pot H st cl n) (t : LamX.Tabs T H) : LamX.Tabs T H' := fun q hq => by
  obtain ⟨ns, went, h1, h2, _⟩ := p.ex
  obtain ⟨ps, e1, e2, e3⟩ := t q hq
  refine ⟨ps, (d.at (ne_of e1 h1 fun z => by cases z) (ne_of e1 h2 fun z => by cases z)).trans e1, e2, fun pos cv hc => ?_⟩
  obtain ⟨c, e4, e5⟩ := e3 pos cv hc
  exact ⟨c, e4, (d.at (ne_of e5 h1 fun z => by unfold LamX.CodeO at z; cases z) (ne_of e5 h2 fun z => by unfold LamX.CodeO at z; cases z)).trans e5⟩
/-! ### a great power -/
def CPowB (i j : Int) : Prop := 0 ≤ j ∧ (Builtin.Int.intBits i : Int) * j ≤ 2 ^ 27
theorem op_powB {X : Cx} : OpR X (binaryOp .Pow) (rI CPowB fun i j => .int (i ^ j.toNat)) := opI fun _ _ _ _ _ _ _ hc q => pow_int hc.1 hc.2 q
theorem cpow1 : CPowB 10 18 := ⟨by decide, by
  have h : Builtin.Int.intBits 10 ≤ 4 := intBits_le (by decide)
  omega⟩
theorem cpow2 : CPowB 10 60 := ⟨by decide, by
  have h : Builtin.Int.intBits 10 ≤ 4 := intBits_le (by decide)
  omega⟩
theorem cpow3 : CPowB (10 ^ (60 : Int).toNat) 20 := ⟨by decide, by
  have h : Builtin.Int.intBits (10 ^ (60 : Int).toNat) ≤ 200 := intBits_le (by decide)
  omega⟩
theorem pow_pos3 : (0 : Int) < (10 ^ (60 : Int).toNat) ^ (20 : Int).toNat := Int.pow_pos (Int.pow_pos (by decide))
theorem cut63 {xs : List V} (h : xs.length ≤ 63) : cutV xs none (some 63) = xs := by
  unfold cutV
  rw [show HT.sIx xs.length xs.length (some 63) = min 63 xs.length from HT.sIx_nat xs.length xs.length 63, HT.sIx_none, Nat.min_eq_right h]
  simp
theorem cmul_r {a b : Int} (h1 : -(2 ^ 64) < b) (h2 : b < 2 ^ 64) : CMul a b := .inr ⟨h1, h2⟩
theorem cmul_mod {a b p : Int} (hp : 0 < p) (h : p < 2 ^ 64) : CMul (a % p) b := .inl ⟨by
  have := Int.emod_nonneg a (show p ≠ 0 by omega)
  omega, by
  have := Int.emod_lt_of_pos a hp
  omega⟩
abbrev sLLeft : Stmt := topS 34
abbrev sLDraw : Stmt := topS 35
abbrev sLPick : Stmt := topS 36
theorem scLLeft : FnScope ["_law_script", "_law_cells", "_law_j"] ["_law_script"] (defScope sLLeft) := ⟨rfl, rfl, rfl, by decide +kernel, rfl, by decide +kernel, by decide +kernel⟩
theorem scLDraw : FnScope ["_law_left_here", "_law_out_of", "_law_cells", "_law_went", "_law_where", "_law_cell", "_law_figure"] ["_law_left_here", "_law_out_of"] (defScope sLDraw) := ⟨rfl, rfl, rfl, by decide +kernel, rfl, by decide +kernel, by decide +kernel⟩
theorem scLPick : FnScope ["_law_left_here", "_law_things"] ["_law_left_here", "_law_things"] (defScope sLPick) := ⟨rfl, rfl, rfl, by decide +kernel, rfl, by decide +kernel, by decide +kernel⟩
def spLLeft (K : PySem.W.Frag) : Sp := fun vs H Q _ => ∃ (a : Addr) (ns : List Int), vs = [.ref a] ∧ SqL K H a (ns.map V.int) ∧ ns.length ≤ 63 ∧ ∀ (H' : Hp) (st cl : Addr), Same H H' → H st = none → H cl = none → Pot H' st cl 0 → Q (.ref st) H'
def spLDraw : Sp := fun vs H Q _ => ∃ (st cl : Addr) (n : Nat) (m : Int), vs = [.ref st, .int m] ∧ Pot H st cl n ∧ n ≤ 100000 ∧ 0 < m ∧ m < 1000 ∧ ∀ (H' : Hp) (x : Int), Dr st cl H H' → Pot H' st cl (n + 1) → 0 ≤ x → x < m → Q (.int x) H'
def spLPick : Sp := fun vs H Q _ => ∃ (st cl a : Addr) (n : Nat) (ws : List Int), vs = [.ref st, .ref a] ∧ Pot H st cl n ∧ n ≤ 100000 ∧ 0 < ws.length ∧ ws.length < 1000 ∧ a ≠ st ∧ a ≠ cl ∧ H a = some (.lst (ws.map V.int)) ∧
  ∀ (H' : Hp) (x : Int), Dr st cl H H' → Pot H' st cl (n + 1) → x ∈ ws → Q (.int x) H'
section
variable {P : Program} {w : PySem.World} {K : PySem.W.Frag} {mg : Str → Option Value} {base : Heap}
theorem ok_lpick {f : Addr} {fd : FuncData} (F : Fun K "_law_pick" "_law_pick" sLPick f fd) (G : Gb mg) (hD : Has P w K mg base 1 "_law_draw" ["_law_left_here", "_law_out_of"] spLDraw) : FnOk P w K mg base CX0 2 f fd ["_law_left_here", "_law_things"] spLPick := by
  obtain ⟨fD, fdD, gD, kD, bD, oD⟩ := hD.ex
  refine F.ok scLPick (fun vs H Q E h => ?_) (fun cdv A outer s H vs Q E hr h => ?_)
  · obtain ⟨st, cl, a, n, ws, rfl, _⟩ := h
    rfl
  · obtain ⟨st, cl, a, n, ws, rfl, p, hn, l0, l1, n1, n2, ha, q⟩ := h
    refine ⟨_, pss_one (ps_ret (pe_ix ix_list (pv 1) (pe_call oD hr (by rfl) gD kD bD .nil pass0 (pa_cons (pv 0) (pa_cons (pe_callB cr_len (by rfl) G.len b_len (pa_cons (pv 1) pa_nil)) pa_nil))) (fun _ _ => rfl))), ?_⟩
    refine ⟨_, rfl, _, rfl, _, rfl, a, _, rfl, .inl (SqL.of ha), st, cl, n, _, rfl, p, hn, (by rw [List.length_map]; omega), (by rw [List.length_map]; omega), fun H' x d p' x0 x1 => ?_⟩
    rw [List.length_map] at x1
    have hx : x.toNat < ws.length := by omega
    have hat : (ws.map V.int)[x.toNat]? = some (.int ws[x.toNat]) := by
      rw [List.getElem?_map, List.getElem?_eq_getElem hx]
      rfl
    refine ⟨a, _, _, _, rfl, rfl, SqL.of ((d.at n1 n2).trans ha), at_of (j := x.toNat) (by omega) hat, ?_⟩
    exact q H' _ d p' (List.getElem_mem hx)
theorem ok_ldraw {f : Addr} {fd : FuncData} (F : Fun K "_law_draw" "_law_draw" sLDraw f fd) (G : Gb mg) : FnOk P w K mg base CX0 1 f fd ["_law_left_here", "_law_out_of"] spLDraw := by
  refine F.ok scLDraw (fun vs H Q E h => ?_) (fun cdv A outer s H vs Q E hr h => ?_)
  · obtain ⟨st, cl, n, m, rfl, _⟩ := h
    rfl
  · obtain ⟨st, cl, n, m, rfl, p, hn, m0, m1, q⟩ := h
    refine ⟨_, pss_cons (ps_asg (pv 0) (pg_unl rfl (pgs_cons (pg_name (i := 2) scLDraw.nd rfl (.inl rfl)) (pgs_cons (pg_name (i := 3) scLDraw.nd rfl (.inl rfl)) pgs_nil))))
      (pss_cons (ps_set (i := 4) scLDraw.nd rfl (.inl rfl) (pe_op op_mod (pv 3) (pe_callB cr_len (by rfl) G.len b_len (pa_cons (pv 2) pa_nil))))
      (pss_cons (ps_set (i := 5) scLDraw.nd rfl (.inl rfl) (pe_ix ix_list (pv 2) (pv 4) (fun _ _ => rfl)))
      (pss_cons (ps_asg (pe_op op_add (pv 3) pe_int) (pg_sub (pv 0) pe_int set_list (fun _ => rfl)))
      (pss_cons (ps_if (pt_cmpR op_ge (pv 5) (pe_op op_powB pe_int pe_int) (nomark _))
        (pss_cons (ps_asg (pe_op op_fdiv (pv 5) (pv 1)) (pg_sub (pv 2) (pv 4) set_list (fun _ => rfl))) (pss_one (ps_ret (pe_op op_mod (pv 5) (pv 1))))) pss_nil)
      (pss_cons (ps_set (i := 6) scLDraw.nd rfl (.inl rfl) (pe_op op_mod (pe_op op_add (pe_op op_add (pe_op op_mul (pe_op op_mod (pv 5) pe_int) pe_int) (pe_op op_mul (pe_op op_mul (pv 3) (pv 3)) pe_int)) pe_int) pe_int))
      (pss_cons (ps_set (i := 6) scLDraw.nd rfl (.inl rfl) (pe_op op_mod (pe_op op_mul (pv 6) (pv 6)) pe_int))
      (pss_cons (ps_set (i := 6) scLDraw.nd rfl (.inl rfl) (pe_op op_mod (pe_op op_mul (pv 6) (pv 6)) pe_int))
      (pss_one (ps_ret (pe_op op_mod (pv 6) (pv 1))))))))))), ?_⟩
    obtain ⟨ns, went, hst, hcl, l0, l63, hw⟩ := id p.ex
    have nsc := p.ne
    have lpos : (0 : Int) < ((ns.map V.int).length : Nat) := by
      rw [List.length_map]
      omega
    have k0 := Int.emod_nonneg (went : Int) (show (((ns.map V.int).length : Nat) : Int) ≠ 0 by omega)
    have k1 := Int.emod_lt_of_pos (went : Int) lpos
    generalize ek : ((went : Int) % (((ns.map V.int).length : Nat) : Int)) = kk at k0 k1
    have hk : kk.toNat < ns.length := by
      rw [List.length_map] at k1
      omega
    have hat : (ns.map V.int)[kk.toNat]? = some (.int ns[kk.toNat]) := by
      rw [List.getElem?_map, List.getElem?_eq_getElem hk]
      rfl
    refine ⟨_, rfl, st, _, rfl, SqL.of hst, rfl, _, _, rfl, _, _, rfl, rfl, ?_⟩
    refine ⟨_, rfl, _, rfl, cl, _, rfl, .inl (SqL.of hcl), _, _, rfl, rfl, lpos, ?_⟩
    dsimp only
    rw [ek]
    refine ⟨_, rfl, _, rfl, cl, _, _, _, rfl, rfl, SqL.of hcl, at_of (j := kk.toNat) (by omega) hat, ?_⟩
    generalize ns[kk.toNat] = c0
    refine ⟨_, rfl, _, _, rfl, rfl, _, rfl, st, _, _, 1, rfl, rfl, hst, rfl, ?_⟩
    have hcl1 : upd H st (.lst ([V.ref cl, V.int (went : Nat)].set 1 (.int ((went : Int) + 1)))) cl = some (.lst (ns.map V.int)) := (upd_ne nsc.symm).trans hcl
    refine ⟨_, rfl, _, _, rfl, rfl, cpow1, _, _, rfl, rfl, _, rfl, ite2 (fun hb => ?_) (fun hb => ?_)⟩
    · refine ⟨_, rfl, _, rfl, _, _, rfl, rfl, ⟨m0, by omega⟩, _, rfl, _, rfl, cl, _, _, kk.toNat, rfl, rfl, hcl1, (by
        have := ixN_nat (n := (ns.map V.int).length) (k := kk.toNat) (by rw [List.length_map]; exact hk)
        rw [Int.toNat_of_nonneg k0] at this
        exact this), ?_⟩
      refine ⟨_, rfl, _, rfl, _, _, rfl, rfl, m0, ?_⟩
      refine q _ _ (Dr.upd_st.trans Dr.upd_cl) ⟨ns.set kk.toNat (c0 / m), went + 1, (upd_ne nsc).trans upd_same, ?_, by rw [List.length_set]; exact l0, by rw [List.length_set]; exact l63, by omega⟩ (Int.emod_nonneg _ (by omega)) (Int.emod_lt_of_pos _ m0)
      rw [upd_same, List.map_set]
    · refine ⟨_, rfl, _, _, rfl, rfl, (show (0 : Int) < 2147483629 from by decide), _, _, rfl, rfl, cmul_r (by decide) (by decide), ?_⟩
      refine ⟨_, rfl, _, rfl, _, _, rfl, rfl, .inl ⟨by omega, by omega⟩, _, _, rfl, rfl, cmul_r (by decide) (by decide), _, _, rfl, rfl, _, _, rfl, rfl, _, _, rfl, rfl, (show (0 : Int) < 2147483647 from by decide), ?_⟩
      refine ⟨_, rfl, _, rfl, _, _, rfl, rfl, cmul_mod (by decide) (by decide), _, _, rfl, rfl, (show (0 : Int) < 2147483629 from by decide), ?_⟩
      refine ⟨_, rfl, _, rfl, _, _, rfl, rfl, cmul_mod (by decide) (by decide), _, _, rfl, rfl, (show (0 : Int) < 2147483587 from by decide), ?_⟩
      refine ⟨_, rfl, _, rfl, _, _, rfl, rfl, m0, ?_⟩
      exact q _ _ Dr.upd_st ⟨ns, went + 1, upd_same, hcl1, l0, l63, by omega⟩ (Int.emod_nonneg _ (by omega)) (Int.emod_lt_of_pos _ m0)
theorem ok_lleft {f : Addr} {fd : FuncData} (F : Fun K "_law_left" "_law_left" sLLeft f fd) (G : Gb mg) : FnOk P w K mg base CX0 1 f fd ["_law_script"] (spLLeft K) := by
  refine F.ok scLLeft (fun vs H Q E h => ?_) (fun cdv A outer s H vs Q E hr h => ?_)
  · obtain ⟨a, ns, rfl, _⟩ := h
    rfl
  · obtain ⟨a, ns, rfl, ha, l63, q⟩ := h
    have hu : (A.deeper (envOfC "_law_left" (defScope sLLeft) s.heap.objs.size f cdv)).units + 64 < cLine := by
      have := hr.un
      omega
    refine ⟨_, pss_cons (ps_set (i := 1) scLLeft.nd rfl (.inl rfl) (pe_slice sl_list (pv 0) po_none (po_some pe_int)))
      (pss_cons (ps_for PassesOwn.never rfl (pi_range1 (by rfl) G.range (pa_cons (pe_callB cr_len (by rfl) G.len b_len (pa_cons (pv 1) pa_nil)) pa_nil)) (pg_name (i := 2) scLLeft.nd rfl (.inl rfl))
        (pss_one (ps_if (pt_cmpR op_ge (pe_callB call_abs (by rfl) G.abs b_abs (pa_cons (pe_ix ix_list (pv 1) (pv 2) (fun _ _ => rfl)) pa_nil)) (pe_op op_powB pe_int pe_int) (nomark _))
          (pss_one (ps_asg (pe_op op_mod (pe_ix ix_list (pv 1) (pv 2) (fun _ _ => rfl)) (pe_op op_powB (pe_op op_powB pe_int pe_int) pe_int)) (pg_sub (pv 1) (pv 2) set_list (fun _ => rfl)))) pss_nil)))
      (pss_cons (ps_if (pt_cmpR (op_eqD hu) (pv 1) (pe_lst pa_nil) (nomark _)) (pss_one (ps_set (i := 1) scLLeft.nd rfl (.inl rfl) (pe_lst (pa_cons pe_int pa_nil)))) pss_nil)
      (pss_one (ps_ret (pe_lst (pa_cons (pv 1) (pa_cons pe_int pa_nil))))))), ?_⟩
    refine ⟨_, rfl, _, rfl, a, _, rfl, ha, fun cl ncl => ?_⟩
    rw [cut63 (by rw [List.length_map]; exact l63)]
    refine ⟨_, rfl, cl, _, rfl, .inl (SqL.of upd_same), ns.length, (by rw [List.length_map]), by omega, by omega, ?_⟩
    have idx : ∀ (ns' : List Int) (j : Nat), j < ns'.length → (ns'.map V.int)[j]? = some (.int (ns'.getD j 0)) := fun ns' j hj => by
      rw [List.getElem?_map, List.getElem?_eq_getElem hj, List.getD_eq_getElem?_getD, List.getElem?_eq_getElem hj]
      rfl
    refine for_range (lo := 0) (n := ((ns.length : Nat) : Int).toNat) (fun j σ H' => ∃ ns' v2, σ = [some (.ref a), some (.ref cl), v2] ∧ Same H (hide cl H') ∧ H' cl = some (.lst (ns'.map V.int)) ∧ ns'.length = ns.length)
      ⟨ns, _, rfl, ?_, upd_same, rfl⟩ (fun j σ H' hj hP => ?_) (fun σ H' hP => ?_)
    · rw [hide_upd, hide_none ncl]
      exact Same.refl _
    · obtain ⟨ns', v2, rfl, sm, hcl, hl⟩ := hP
      have hj' : j < ns'.length := by omega
      have ha2 := atI_nat (idx ns' j hj')
      refine ⟨_, rfl, _, rfl, cl, _, _, _, rfl, rfl, SqL.of hcl, (by rw [Int.zero_add]; exact ha2), _, rfl, _, _, rfl, rfl, cpow1, _, _, rfl, rfl, _, rfl, ite2 (fun hb => ?_) (fun hb => ?_)⟩
      · refine ⟨_, rfl, _, rfl, cl, _, _, _, rfl, rfl, SqL.of hcl, (by rw [Int.zero_add]; exact ha2), _, _, rfl, rfl, cpow2, _, _, rfl, rfl, cpow3, _, _, rfl, rfl, pow_pos3, ?_⟩
        refine ⟨_, rfl, _, rfl, cl, _, _, j, rfl, rfl, hcl, (by rw [Int.zero_add]; exact ixN_nat (by rw [List.length_map]; exact hj')), ?_⟩
        refine ⟨ns'.set j _, _, rfl, by rw [hide_upd]; exact sm, by rw [upd_same, List.map_set], by rw [List.length_set]; exact hl⟩
      · exact ⟨ns', _, rfl, sm, hcl, hl⟩
    · obtain ⟨ns', v2, rfl, sm, hcl, hl⟩ := hP
      have fin : ∀ (H4 : Hp) (cl' : Addr) (ns4 : List Int), Same H H4 → H cl' = none → H4 cl' = some (.lst (ns4.map V.int)) → 0 < ns4.length → ns4.length ≤ 63 → ∀ st, H4 st = none → Q (.ref st) (upd H4 st (.lst [.ref cl', .int 0])) := fun H4 cl' ns4 s4 n4 h4 l0 l6 st nst => by
        have s5 := same_new (o := .lst [.ref cl', .int 0]) nst
        exact q _ st cl' (s4.trans s5) (s4.free nst) n4 ⟨ns4, 0, upd_same, s5 _ _ h4, l0, l6, Nat.le_refl _⟩
      refine ⟨_, rfl, Nat.zero_le _, fun e ne => ?_⟩
      have s2 := same_new (o := .lst []) ne
      have dcl : DT (upd H' e (.lst [])) (.ref cl) (.list (ns'.map PyData.int)) := .lst (s2 _ _ hcl) (DTs.ints _)
      refine ⟨_, _, dcl.dp, (DT.lst upd_same .nil).dp, shaped_of (by simp only [PyData.canLay0]; exact lay_ints _) (by simp only [PyData.depth]; rw [PySem.W.depth_ints]; decide), shaped_nil, _, rfl, ite2 (fun hb => ?_) (fun hb => ?_)⟩
      · refine ⟨by show 1 ≤ sizeLine; decide, fun c2 nc2 => ?_⟩
        have s3 := s2.trans (same_new (o := .lst [.int 0]) nc2)
        refine ⟨_, rfl, (by show 2 ≤ sizeLine; decide), fun st nst => ?_⟩
        exact fin _ c2 [0] ((sm.trans hide_same).trans s3) (((sm.trans hide_same).trans s2).free nc2) upd_same (by decide) (by decide) st nst
      · refine ⟨_, rfl, (by show 2 ≤ sizeLine; decide), fun st nst => ?_⟩
        refine fin _ cl ns' ((sm.trans hide_same).trans s2) ncl (s2 _ _ hcl) ?_ (by omega) st nst
        cases ns' with
        | nil => exact absurd (by simp [PyData.eqv, PyData.eqvAll]) hb
        | cons x ns' => exact Nat.succ_pos _
end
end Cv

/-! Countveil, the law's own defs 2: _law_block, _law_spots, _law_guards. -/
namespace Cv
open PySem PySem.Spec PyProof.Rows L2
theorem Pot.at_st {H : Hp} {st cl : Addr} {n : Nat} (p : Pot H st cl n) : ∃ o, H st = some o := by
  obtain ⟨ns, went, h1, _⟩ := p.ex
  exact ⟨_, h1⟩
theorem Pot.at_cl {H : Hp} {st cl : Addr} {n : Nat} (p : Pot H st cl n) : ∃ o, H cl = some o := by
  obtain ⟨ns, went, _, h2, _⟩ := p.ex
  exact ⟨_, h2⟩
theorem Pot.off {H : Hp} {st cl a : Addr} {n : Nat} (p : Pot H st cl n) (h : H a = none) : a ≠ st ∧ a ≠ cl := by
  obtain ⟨o, h1⟩ := p.at_st
  obtain ⟨o', h2⟩ := p.at_cl
  exact ⟨(ne_of_none h1 h).symm, (ne_of_none h2 h).symm⟩
theorem Pot.same {H H' : Hp} {st cl : Addr} {n : Nat} (p : Pot H st cl n) (s : Same H H') : Pot H' st cl n := p.ext (.of s)
theorem Pot.upd {H : Hp} {st cl a : Addr} {n : Nat} {o : HO} (p : Pot H st cl n) (h1 : a ≠ st) (h2 : a ≠ cl) : Pot (upd H a o) st cl n := by
  obtain ⟨ns, went, e1, e2, h3, h4, h5⟩ := p.ex
  exact ⟨ns, went, (upd_ne h1.symm).trans e1, (upd_ne h2.symm).trans e2, h3, h4, h5⟩
theorem hid2_upd {st cl a : Addr} {H : Hp} {o : HO} (h1 : a ≠ st) (h2 : a ≠ cl) : hid2 st cl (upd H a o) = upd (hid2 st cl H) a o := by
  unfold hid2
  rw [hide_upd_ne h2, hide_upd_ne h1]
theorem hid2_ne {st cl b : Addr} {H : Hp} {o : HO} (e : hid2 st cl H b = some o) : b ≠ st ∧ b ≠ cl := by
  constructor
  · intro z
    rw [z, hid2_st] at e
    cases e
  · intro z
    by_cases y : b = st
    · rw [y, hid2_st] at e
      cases e
    · unfold hid2 at e
      rw [hide_ne y, z, hide_self] at e
      cases e
theorem tabs2 {st cl : Addr} {n : Nat} {H H' : Hp} {T : List (Addr × Str)} (s : Same (hid2 st cl H) (hid2 st cl H')) (p : Pot H st cl n) (t : LamX.Tabs T H) : LamX.Tabs T H' := fun q hq => by
  obtain ⟨ns, went, h1, h2, _⟩ := p.ex
  obtain ⟨ps, e1, e2, e3⟩ := t q hq
  have go : ∀ {a : Addr} {o : HO}, H a = some o → a ≠ st → a ≠ cl → H' a = some o := fun {a o} e n1 n2 => by
    have := s a o ((hid2_at n1 n2).trans e)
    rwa [hid2_at n1 n2] at this
  refine ⟨ps, go e1 (ne_of e1 h1 fun z => by cases z) (ne_of e1 h2 fun z => by cases z), e2, fun pos cv hc => ?_⟩
  obtain ⟨c, e4, e5⟩ := e3 pos cv hc
  exact ⟨c, e4, go e5 (ne_of e5 h1 fun z => by unfold LamX.CodeO at z; cases z) (ne_of e5 h2 fun z => by unfold LamX.CodeO at z; cases z)⟩
abbrev sLBlock : Stmt := topS 37
abbrev sLSpots : Stmt := topS 38
abbrev sLGuards : Stmt := topS 40
theorem scLBlock : FnScope ["_law_left_here", "_law_most_rows", "_law_most_columns", "_law_worths", "_law_wide", "_law_found", "_law_i", "_law_k"] ["_law_left_here", "_law_most_rows", "_law_most_columns", "_law_worths"] (defScope sLBlock) := ⟨rfl, rfl, rfl, by decide +kernel, rfl, by decide +kernel, by decide +kernel⟩
theorem scLSpots : FnScope ["_law_block_here", "_law_place"] ["_law_block_here"] (defScope sLSpots) := ⟨rfl, rfl, rfl, by decide +kernel, rfl, by decide +kernel, by decide +kernel⟩
theorem scLGuards : FnScope ["_law_left_here", "_law_block_here", "_law_places", "_law_far", "_law_found", "_law_i", "_law_k", "_law_much", "_law_less", "_law_more"] ["_law_left_here", "_law_block_here", "_law_places", "_law_far"] (defScope sLGuards) := ⟨rfl, rfl, rfl, by decide +kernel, rfl, by decide +kernel, by decide +kernel⟩
/-- small cells -/
structure Sm (r c : Nat) (g : Mat) : Prop where
  r0 : 0 < r
  c0 : 0 < c
  r4 : r ≤ 4
  c4 : c ≤ 4
  lo : ∀ i k, i < r → k < c → 0 ≤ g i k
  hi : ∀ i k, i < r → k < c → g i k ≤ 30
def spLBlock : Sp := fun vs H Q _ => ∃ (st cl a : Addr) (n mr mc : Nat) (ws : List Int), vs = [.ref st, .int (mr : Nat), .int (mc : Nat), .ref a] ∧ Pot H st cl n ∧ n ≤ 90000 ∧ 0 < mr ∧ mr ≤ 4 ∧ 0 < mc ∧ mc ≤ 4 ∧ 0 < ws.length ∧ ws.length < 1000 ∧ a ≠ st ∧ a ≠ cl ∧ H a = some (.lst (ws.map V.int)) ∧
  (∀ x, x ∈ ws → 0 ≤ x ∧ x ≤ 30) ∧ ∀ (H' : Hp) (v : V) (r c : Nat) (g : Mat), Same (hid2 st cl H) (hid2 st cl H') → Pot H' st cl (n + 100) → DT (hid2 st cl H') v (gridD r c g) → Sm r c g → r ≤ mr → c ≤ mc → Q v H'
def spLSpots : Sp := fun vs H Q _ => ∃ (r c : Nat) (g : Mat) (x : V), vs = [x] ∧ DT H x (gridD r c g) ∧ 0 < r ∧ 0 < c ∧ r ≤ 6 ∧ c ≤ 6 ∧ ∀ (H' : Hp) (a : Addr) (ys : List V), Same H H' → H a = none → H' a = some (.lst ys) → DTs H' ys ((places r c).map pD) → Q (.ref a) H'
structure Bnd (gs : List Gd) : Prop where
  b : ∀ q, q ∈ gs → q.2.2.1 ≤ 31 ∧ q.2.2.2 ≤ 31
def spLGuards : Sp := fun vs H Q _ => ∃ (st cl : Addr) (n r c : Nat) (g : Mat) (x y : V), vs = [.ref st, x, y, .int 4] ∧ Pot H st cl n ∧ n ≤ 90000 ∧ DT (hid2 st cl H) x (gridD r c g) ∧ DT (hid2 st cl H) y (hD (places r c)) ∧ Sm r c g ∧
  ∀ (H' : Hp) (v : V) (gs : List Gd), Same (hid2 st cl H) (hid2 st cl H') → Pot H' st cl (n + 100) → DT (hid2 st cl H') v (gdsD gs) → GdsOk r c gs → Bnd gs → Q v H'
section
variable {P : Program} {w : PySem.World} {K : PySem.W.Frag} {mg : Str → Option Value} {base : Heap}
theorem ok_lspots {f : Addr} {fd : FuncData} (F : Fun K "_law_spots" "_law_spots" sLSpots f fd) (G : Gb mg) : FnOk P w K mg base CX0 1 f fd ["_law_block_here"] spLSpots := by
  refine F.ok scLSpots (fun vs H Q E h => ?_) (fun cdv A outer s H vs Q E hr h => ?_)
  · obtain ⟨r, c, g, x, rfl, _⟩ := h
    rfl
  · obtain ⟨r, c, g, x, rfl, dx, r0, c0, r6, c6, q⟩ := h
    refine ⟨_, pss_one (ps_ret (pe_lc (own := [("_law_place", 1)]) (g := gName 1) (tt := tYes)
        (te := tTup (tCons (tOp (rI CDiv fun i j => .int (i / j)) (tVar 1) (tCB (rLen2 K) (tCons (tOp (rIxL K) (tVar 0) (tC (.int 0))) tNil))) (tCons (tOp (rI (fun _ j => 0 < j) fun i j => .int (i % j)) (tVar 1) (tCB (rLen2 K) (tCons (tOp (rIxL K) (tVar 0) (tC (.int 0))) tNil))) tNil))) rfl scLSpots.nd
        (pi_range1 (by rfl) G.range (pa_cons (pe_op op_mul (pe_callB cr_len (by rfl) G.len b_len (pa_cons (pv 0) pa_nil)) (pe_callB cr_len (by rfl) G.len b_len (pa_cons (pe_ix ix_list (pv 0) pe_int (fun _ _ => rfl)) pa_nil))) pa_nil)) (blkOk_by (N := ["_law_block_here", "_law_place"]) (sc := defScope sLSpots) (by decide +kernel))
        (fun _ _ _ _ _ => pg_name (i := 1) scLSpots.nd rfl (Or.inl rfl)) (fun _ _ _ _ _ => pts_nil)
        (fun _ _ _ _ _ => pe_tup (pa_cons (pe_op op_fdiv (pv 1) (pe_callB cr_len (by rfl) G.len b_len (pa_cons (pe_ix ix_list (pv 0) pe_int (fun _ _ => rfl)) pa_nil))) (pa_cons (pe_op op_mod (pv 1) (pe_callB cr_len (by rfl) G.len b_len (pa_cons (pe_ix ix_list (pv 0) pe_int (fun _ _ => rfl)) pa_nil))) pa_nil))))), ?_⟩
    obtain ⟨a, xs, rfl, ha, hlen, hrow⟩ := dx.grid
    obtain ⟨b0, e0, h0⟩ := hrow 0 r0
    have rc : r * c ≤ 6 * 6 := Nat.mul_le_mul r6 c6
    have lc : (((List.range c).map (g 0)).map V.int).length = c := by rw [List.length_map, List.length_map, List.length_range]
    have big : (1000 : Nat) < sizeLine := by
      rw [sizeLine_eq]
      decide
    refine ⟨_, rfl, a, _, rfl, .inl (SqL.of ha), _, rfl, a, _, _, _, rfl, rfl, SqL.of ha, atI_nat (j := 0) e0, b0, _, rfl, .inl (SqL.of h0), _, _, rfl, rfl, .inl ⟨by omega, by omega⟩, ((r * c : Nat) : Int), (by rw [hlen, lc]; rfl), by omega, by omega, fun D hD => ?_⟩
    refine lcD_range (n := r * c) (((List.range (r * c)).map fun p => pD (p / c, p % c)).map some) (by rw [List.length_map, List.length_map, List.length_range]) (by rw [List.length_map, List.length_map, List.length_range]; omega) hD (fun i o H' Kt Kf ho hi sm sm2 n2 hn hs => ?_) (fun ys H' sm h1 h2 => ?_)
    · obtain ⟨p, ep, rfl⟩ := os_map ho
      have ei : p = i := by
        rw [List.getElem?_range hi] at ep
        exact (Option.some.inj ep).symm
      subst ei
      refine ⟨rfl, ?_⟩
      refine ⟨_, rfl, _, rfl, a, _, _, _, rfl, rfl, SqL.of (sm2 _ _ ha), atI_nat (j := 0) e0, b0, _, rfl, .inl (SqL.of (sm2 _ _ h0)), _, _, rfl, rfl, (by rw [lc]; exact ⟨by omega, by omega⟩), ?_⟩
      refine ⟨_, rfl, _, rfl, a, _, _, _, rfl, rfl, SqL.of (sm2 _ _ ha), atI_nat (j := 0) e0, b0, _, rfl, .inl (SqL.of (sm2 _ _ h0)), _, _, rfl, rfl, (by rw [lc]; show (0 : Int) < c; omega), (by show 2 ≤ sizeLine; decide), fun t nt => ?_⟩
      have tD : t ≠ D := fun z => by
        rw [z] at nt
        exact n2 nt
      refine hs _ rfl _ _ (same_new nt) (DT.ofPair (p := (p / c, p % c)) ?_)
      rw [hide_ne tD, upd_same, lc]
      rfl
    · rw [filterMap_some] at h2
      refine q H' D ys sm hD h1 ?_
      have e : (List.range (r * c)).map (fun p => pD (p / c, p % c)) = (places r c).map pD := by
        rw [← places_div c c0 r, List.map_map]
        rfl
      rw [e] at h2
      exact h2.same hide_same
theorem ok_lblock {f : Addr} {fd : FuncData} (F : Fun K "_law_block" "_law_block" sLBlock f fd) (G : Gb mg) (hD : Has P w K mg base 1 "_law_draw" ["_law_left_here", "_law_out_of"] spLDraw) (hP : Has P w K mg base 2 "_law_pick" ["_law_left_here", "_law_things"] spLPick) :
    FnOk P w K mg base CX0 3 f fd ["_law_left_here", "_law_most_rows", "_law_most_columns", "_law_worths"] spLBlock := by
  obtain ⟨fD, fdD, gD, kD, bD, oD⟩ := hD.ex
  obtain ⟨fP, fdP, gP, kP, bP, oP⟩ := hP.ex
  refine F.ok scLBlock (fun vs H Q E h => ?_) (fun cdv A outer s H vs Q E hr h => ?_)
  · obtain ⟨st, cl, a, n, mr, mc, ws, rfl, _⟩ := h
    rfl
  · obtain ⟨st, cl, a, n, mr, mc, ws, rfl, p, hn, mr0, mr4, mc0, mc4, l0, l1, n1, n2, ha, hws, q⟩ := h
    refine ⟨_, pss_cons (ps_set (i := 4) scLBlock.nd rfl (.inl rfl) (pe_op op_add pe_int (pe_call oD (hr.mono (by decide)) (by rfl) gD kD bD .nil pass0 (pa_cons (pv 0) (pa_cons (pv 2) pa_nil)))))
      (pss_cons (ps_set (i := 5) scLBlock.nd rfl (.inl rfl) (pe_lst pa_nil))
      (pss_cons (ps_for PassesOwn.never rfl (pi_range1 (by rfl) G.range (pa_cons (pe_op op_add pe_int (pe_call oD (hr.mono (by decide)) (by rfl) gD kD bD .nil pass0 (pa_cons (pv 0) (pa_cons (pv 1) pa_nil)))) pa_nil)) (pg_name (i := 6) scLBlock.nd rfl (.inl rfl))
        (pss_one (ps_expr (pe_bm PySem.F.plainAttrs_list PySem.F.slot_list_append PySem.F.type_list_append mt_append (pv 5) (pa_cons (pe_lc (own := [("_law_k", 7)]) (g := gName 7) (tt := tYes) rfl scLBlock.nd (pi_range1 (by rfl) G.range (pa_cons (pv 4) pa_nil)) (blkOk_by (N := ["_law_left_here", "_law_most_rows", "_law_most_columns", "_law_worths", "_law_wide", "_law_found", "_law_i", "_law_k"]) (sc := defScope sLBlock) (by decide +kernel))
            (fun _ _ _ _ _ => pg_name (i := 7) scLBlock.nd rfl (Or.inl rfl)) (fun _ _ _ _ _ => pts_nil) (fun _ _ _ _ _ => pe_call oP hr (by rfl) gP kP bP .nil pass0 (pa_cons (pv 0) (pa_cons (pv 3) pa_nil)))) pa_nil)))))
      (pss_one (ps_ret (pv 5))))), ?_⟩
    have big : (1000 : Nat) < sizeLine := by
      rw [sizeLine_eq]
      decide
    have hh : hid2 st cl H a = some (.lst (ws.map V.int)) := (hid2_at n1 n2).trans ha
    have ha2 : ∀ {H2 : Hp}, Same (hid2 st cl H) (hid2 st cl H2) → H2 a = some (.lst (ws.map V.int)) := fun {H2} sm => by
      have := sm _ _ hh
      rwa [hid2_at n1 n2] at this
    refine ⟨_, rfl, _, rfl, st, cl, n, _, rfl, p, by omega, by omega, by omega, fun H1 x d1 p1 x0 x1 => ⟨_, _, rfl, rfl, ?_⟩⟩
    obtain ⟨c, ec⟩ : ∃ c : Nat, 1 + x = (c : Nat) := ⟨(1 + x).toNat, by omega⟩
    dsimp only
    rw [ec]
    refine ⟨Nat.zero_le _, fun Fa nF => ?_⟩
    obtain ⟨f1, f2⟩ := p1.off nF
    have p2 := p1.same (same_new (o := .lst []) nF)
    refine ⟨_, rfl, _, rfl, st, cl, n + 1, _, rfl, p2, by omega, by omega, by omega, fun H3 x' d3 p3 x0' x1' => ⟨_, _, rfl, rfl, _, rfl, by omega, by omega, ?_⟩⟩
    obtain ⟨r, er⟩ : ∃ r : Nat, 1 + x' = (r : Nat) := ⟨(1 + x').toNat, by omega⟩
    have e3 : hid2 st cl H3 = upd (hid2 st cl H) Fa (.lst []) := by
      rw [show hid2 st cl H3 = _ from d3, hid2_upd f1 f2, show hid2 st cl H1 = _ from d1]
    have nF0 : hid2 st cl H Fa = none := by
      rw [← show hid2 st cl H1 = _ from d1, hid2_at f1 f2]
      exact nF
    refine for_range (lo := 0) (n := (1 + x').toNat) (fun i σ H' => ∃ xs v6 v7 g, σ = [some (.ref st), some (.int (mr : Nat)), some (.int (mc : Nat)), some (.ref a), some (.int (c : Nat)), some (.ref Fa), v6, v7] ∧ Pot H' st cl (n + 2 + i * 4) ∧ Same (hid2 st cl H) (hide Fa (hid2 st cl H')) ∧ H' Fa = some (.lst xs) ∧
      DTs (hide Fa (hid2 st cl H')) xs ((List.range i).map fun j => rowD c (g j)) ∧ ∀ j k, j < i → k < c → 0 ≤ g j k ∧ g j k ≤ 30)
      ⟨[], _, _, fun _ _ => 0, rfl, p3, ?_, ?_, .nil, fun j k hj => absurd hj (Nat.not_lt_zero _)⟩ (fun i σ H' hi hP => ?_) (fun σ H' hP => ?_)
    · rw [e3, hide_upd, hide_none nF0]
      exact Same.refl _
    · rw [d3.at f1 f2, upd_same]
    · obtain ⟨xs, v6, v7, g, rfl, pi, sm, hF, hT, hg⟩ := hP
      refine ⟨_, rfl, .inl ⟨rfl, _, SqL.of hF⟩, _, rfl, _, rfl, by omega, by omega, fun D hD => ?_⟩
      obtain ⟨d1', d2'⟩ := pi.off hD
      have DF : D ≠ Fa := (ne_of_none hF hD).symm
      have hDn : hid2 st cl H' D = none := by
        rw [hid2_at d1' d2']
        exact hD
      refine ⟨fun j m H2 => j + m = c ∧ Pot H2 st cl (n + 2 + i * 4 + j) ∧ Same (hid2 st cl H') (hide D (hid2 st cl H2)) ∧ ∃ f : Nat → Int, H2 D = some (.lst (((List.range j).map f).map V.int)) ∧ ∀ b, b < j → 0 ≤ f b ∧ f b ≤ 30,
        ⟨c, Nat.zero_add _, pi.upd d1' d2', ?_, fun _ => 0, upd_same, fun b hb => absurd hb (Nat.not_lt_zero _)⟩, fun j m H2 hW => ?_⟩
      · rw [hid2_upd d1' d2', hide_upd, hide_none hDn]
        exact Same.refl _
      obtain ⟨em, pj, sj, fz, hDj, hfz⟩ := hW
      have sj2 := sj.trans hide_same
      by_cases hj : j < c
      · refine .inr ⟨by show j < ((c : Nat) : Int).toNat; omega, fun H2' => Pot H2' st cl (n + 2 + i * 4 + (j + 1)) ∧ Same (hid2 st cl H') (hide D (hid2 st cl H2')) ∧ ∃ f : Nat → Int, H2' D = some (.lst (((List.range (j + 1)).map f).map V.int)) ∧ ∀ b, b < j + 1 → 0 ≤ f b ∧ f b ≤ 30, fun H2' h => ⟨m - 1, by omega, by omega, h⟩, fun y H2' hy => ?_⟩
        obtain ⟨rfl, rfl⟩ := hy
        refine ⟨rfl, ?_⟩
        refine ⟨_, rfl, _, rfl, st, cl, a, _, ws, rfl, pj, by omega, l0, l1, n1, n2, ha2 (sm.trans (hide_same.trans sj2)), fun H4 y d4 p4 hy => ?_⟩
        have hD4 : H4 D = some (.lst (((List.range j).map fz).map V.int)) := (d4.at d1' d2').trans hDj
        refine ⟨_, hD4, by rw [List.length_map, List.length_map, List.length_range]; omega, p4.upd d1' d2', ?_, fupd fz j y, ?_, fun b hb => ?_⟩
        · rw [hid2_upd d1' d2', hide_upd, show hid2 st cl H4 = _ from d4]
          exact sj
        · rw [upd_same, List.range_succ, List.map_append, List.map_append, List.map_singleton, List.map_singleton, fupd_same]
          refine congrArg (fun z => some (HO.lst (z ++ [V.int y]))) (congrArg (List.map V.int) ?_)
          apply List.map_congr_left
          intro b hb
          rw [fupd_ne (by have := List.mem_range.mp hb; omega)]
        · by_cases e : b = j
          · rw [e, fupd_same]
            exact hws y hy
          · rw [fupd_ne e]
            exact hfz b (by omega)
      · have ej : j = c := by omega
        subst ej
        refine .inl ⟨by show ((j : Nat) : Int).toNat ≤ j; omega, ?_⟩
        have hF2 : H2 Fa = some (.lst xs) := by
          have := sj2 Fa _ ((hid2_at f1 f2).trans hF)
          rwa [hid2_at f1 f2] at this
        have lx := hT.length
        rw [List.length_map, List.length_range] at lx
        refine ⟨Fa, xs, _, rfl, rfl, hF2, by omega, ?_⟩
        have eh : hide Fa (hid2 st cl (upd H2 Fa (.lst (xs ++ [V.ref D])))) = hide Fa (hid2 st cl H2) := by rw [hid2_upd f1 f2, hide_upd]
        refine ⟨_, _, _, fun b k => if b = i then fz k else g b k, rfl, (pj.upd f1 f2).mono (by omega), ?_, upd_same, ?_, fun b k hb hk => ?_⟩
        · rw [eh]
          exact sm.trans (hide_mono sj2)
        · rw [eh, List.range_succ, List.map_append, List.map_singleton]
          refine DTs.append ?_ (.cons (DT.ofRow ?_) .nil)
          · have em : (List.range i).map (fun b => rowD j fun k => if b = i then fz k else g b k) = (List.range i).map fun b => rowD j (g b) := by
              apply List.map_congr_left
              intro b hb
              have : b ≠ i := by have := List.mem_range.mp hb; omega
              simp only [if_neg this]
            rw [em]
            exact hT.same (hide_mono sj2)
          · rw [hide_ne DF, hid2_at d1' d2', hDj]
            have e : ((fun b k => if b = i then fz k else g b k) i : Nat → Int) = fz := by
              funext k
              exact if_pos rfl
            rw [e]
        · by_cases e : b = i
          · simp only [if_pos e]
            exact hfz k hk
          · simp only [if_neg e]
            exact hg b k (by omega) hk
    · obtain ⟨xs, v6, v7, g, rfl, pi, sm, hF, hT, hg⟩ := hP
      rw [er, Int.toNat_natCast] at pi hT hg
      refine ⟨_, rfl, ?_⟩
      refine q H' _ r c g (sm.trans hide_same) (pi.mono (by omega)) (.lst ((hid2_at f1 f2).trans hF) (hT.same hide_same)) ⟨by omega, by omega, by omega, by omega, fun i k hi hk => (hg i k hi hk).1, fun i k hi hk => (hg i k hi hk).2⟩ (by omega) (by omega)
end
end Cv

/-! Countveil, the law's own defs 3: _law_guards. -/
namespace Cv
open PySem PySem.Spec PyProof.Rows L2
def rMin2 : List V → Hp → VK → Prop := fun xs H Q => ∃ i j, xs = [.int i, .int j] ∧ Q (.int (if j < i then j else i)) H
theorem cr_min2 {X : Cx} (hc : X.calm = true) : CallR X (.builtin "min") rMin2 := call_min2 hc
theorem getL {ls : List Int} {x : Int} (h0 : 0 ≤ x) (h1 : x < ls.length) : ∃ y, y ∈ ls ∧ atI (ls.map V.int) x = some (.int y) := by
  have hx : x.toNat < ls.length := by omega
  refine ⟨ls[x.toNat], List.getElem_mem hx, at_of (j := x.toNat) (by omega) ?_⟩
  rw [List.getElem?_map, List.getElem?_eq_getElem hx]
  rfl
section
variable {P : Program} {w : PySem.World} {K : PySem.W.Frag} {mg : Str → Option Value} {base : Heap}
theorem ok_lguards {f : Addr} {fd : FuncData} (F : Fun K "_law_guards" "_law_guards" sLGuards f fd) (G : Gb mg) (hD : Has P w K mg base 1 "_law_draw" ["_law_left_here", "_law_out_of"] spLDraw) :
    FnOk P w K mg base CX0 2 f fd ["_law_left_here", "_law_block_here", "_law_places", "_law_far"] spLGuards := by
  obtain ⟨fD, fdD, gD, kD, bD, oD⟩ := hD.ex
  refine F.ok scLGuards (fun vs H Q E h => ?_) (fun cdv A outer s H vs Q E hr h => ?_)
  · obtain ⟨st, cl, n, r, c, g, x, y, rfl, _⟩ := h
    rfl
  · obtain ⟨st, cl, n, r, c, g, x, y, rfl, p, hn, dx, dy, sm, q⟩ := h
    refine ⟨_, pss_cons (ps_set (i := 4) scLGuards.nd rfl (.inl rfl) (pe_lst pa_nil))
      (pss_cons (ps_for PassesOwn.never rfl (pi_list (pv 2)) (pg_tup rfl (pgs_cons (pg_name (i := 5) scLGuards.nd rfl (.inl rfl)) (pgs_cons (pg_name (i := 6) scLGuards.nd rfl (.inl rfl)) pgs_nil)))
        (pss_one (ps_if (PW.pt (pw_and (pt_cmpR op_lt (pe_callB cr_len (by rfl) G.len b_len (pa_cons (pv 4) pa_nil)) pe_int (nomark _)) (pw_and1 (pt_cmpR op_eq (pe_call oD hr (by rfl) gD kD bD .nil pass0 (pa_cons (pv 0) (pa_cons pe_int pa_nil))) pe_int (nomark _)))))
          (pss_cons (ps_set (i := 7) scLGuards.nd rfl (.inl rfl) (pe_ix ix_list (pe_ix ix_list (pv 1) (pv 5) (fun _ _ => rfl)) (pv 6) (fun _ _ => rfl)))
          (pss_cons (ps_set (i := 8) scLGuards.nd rfl (.inl rfl) (pe_ix ix_list (pe_lst (pa_cons pe_int (pa_cons pe_int (pa_cons (pe_callB (cr_min2 rfl) (by rfl) G.min b_min (pa_cons pe_int (pa_cons (pv 7) pa_nil))) (pa_cons (pe_op op_fdiv (pv 7) pe_int) (pa_cons (pv 7) (pa_cons (pe_op op_add (pv 7) pe_int) pa_nil))))))) (pe_call oD hr (by rfl) gD kD bD .nil pass0 (pa_cons (pv 0) (pa_cons pe_int pa_nil))) (fun _ _ => rfl)))
          (pss_cons (ps_set (i := 9) scLGuards.nd rfl (.inl rfl) (pe_ix ix_list (pe_lst (pa_cons pe_int (pa_cons pe_int (pa_cons pe_int (pa_cons (pv 3) (pa_cons (pe_op op_add pe_int (pe_op op_fdiv (pv 7) pe_int)) pa_nil)))))) (pe_call oD hr (by rfl) gD kD bD .nil pass0 (pa_cons (pv 0) (pa_cons pe_int pa_nil))) (fun _ _ => rfl)))
          (pss_one (ps_expr (pe_bm PySem.F.plainAttrs_list PySem.F.slot_list_append PySem.F.type_list_append mt_append (pv 4) (pa_cons (pe_tup (pa_cons (pv 5) (pa_cons (pv 6) (pa_cons (pv 8) (pa_cons (pe_ix ix_list (pe_lst (pa_cons (pv 9) (pa_cons pe_int pa_nil))) (pe_callTy call_int1 (by rfl) G.int b_int (pa_cons (pe_cmpR op_eq (pe_op op_add (pv 8) (pv 9)) pe_int (nomark _)) pa_nil)) (fun _ _ => rfl)) pa_nil))))) pa_nil))))))) pss_nil)))
      (pss_one (ps_ret (pv 4)))), ?_⟩
    have big : (1000 : Nat) < sizeLine := by
      rw [sizeLine_eq]
      decide
    refine ⟨Nat.zero_le _, fun Fa nF => ?_⟩
    obtain ⟨f1, f2⟩ := p.off nF
    have nF0 : hid2 st cl H Fa = none := by
      rw [hid2_at f1 f2]
      exact nF
    obtain ⟨pa, zs, rfl, hpa, hzl, _, hzs⟩ := id (DT.list (f := pD) dy)
    obtain ⟨pa1, pa2⟩ := hid2_ne hpa
    obtain ⟨ba, rows, rfl, hba, hlen, hrow⟩ := id dx.grid
    have rc : r * c ≤ 4 * 4 := Nat.mul_le_mul sm.r4 sm.c4
    have at2 : ∀ {H2 : Hp} {a : Addr} {o : HO}, Same (hid2 st cl H) (hid2 st cl H2) → hid2 st cl H a = some o → H2 a = some o := fun {H2 a o} s e => by
      obtain ⟨h1, h2⟩ := hid2_ne e
      have := s _ _ e
      rwa [hid2_at h1 h2] at this
    have s0 : Same (hid2 st cl H) (hid2 st cl (upd H Fa (.lst []))) := by
      rw [hid2_upd f1 f2]
      exact same_new nF0
    refine ⟨_, rfl, pa, rfl, ⟨_, SqL.of (at2 s0 hpa)⟩, ?_⟩
    refine for_list (K := K) (a := pa) (xs := zs) (fun j σ H' => ∃ xs gs v5 v6 v7 v8 v9, σ = [some (.ref st), some (.ref ba), some (.ref pa), some (.int 4), some (.ref Fa), v5, v6, v7, v8, v9] ∧ Pot H' st cl (n + 3 * j) ∧ Same (hid2 st cl H) (hide Fa (hid2 st cl H')) ∧ H' Fa = some (.lst xs) ∧
      DTs (hide Fa (hid2 st cl H')) xs (gs.map gdD) ∧ (gs.map fun q => (q.1, q.2.1)).Sublist ((places r c).take j) ∧ gs.length ≤ 8 ∧ (∀ q, q ∈ gs → 0 ≤ q.2.2.1 ∧ 0 ≤ q.2.2.2 ∧ 0 < q.2.2.1 + q.2.2.2) ∧ Bnd gs)
      ⟨[], [], _, _, _, _, _, rfl, p.upd f1 f2, ?_, upd_same, .nil, List.nil_sublist _, Nat.zero_le _, (fun q hq => by cases hq), ⟨fun q hq => by cases hq⟩⟩ (fun j σ H' _ hP => ?_) (fun j z σ H' hz hP => ?_) (fun σ H' hP => ?_)
    · rw [hid2_upd f1 f2, hide_upd, hide_none nF0]
      exact Same.refl _
    · obtain ⟨_, _, _, _, _, _, _, _, _, s1, _⟩ := hP
      exact SqL.of (at2 (s1.trans hide_same) hpa)
    · obtain ⟨xs, gs, v5, v6, v7, v8, v9, rfl, pj, s1, hF, hT, hsub, h8, hok, hB⟩ := hP
      have hj : j < (places r c).length := by
        have := (List.getElem?_eq_some_iff.mp hz).1
        omega
      have hj16 : j < 16 := by
        rw [places_len] at hj
        omega
      have tk : (places r c).take (j + 1) = (places r c).take j ++ [(places r c)[j]] := by
        rw [List.take_add_one, List.getElem?_eq_getElem hj]
        rfl
      have hmem := mem_places.mp (List.getElem_mem hj)
      obtain ⟨x', ex, dx'⟩ := hzs j _ (List.getElem?_eq_getElem hj)
      rw [hz] at ex
      cases ex
      obtain ⟨b, rfl, hb⟩ := dx'.pair
      generalize (places r c)[j] = pl at tk hmem hb
      have s1' := s1.trans hide_same
      refine ⟨b, _, rfl, SqT.of (at2 s1' hb), rfl, _, _, rfl, _, _, rfl, rfl, ?_⟩
      have skip : ∀ {H2 : Hp} {v5 v6 : Option V}, Pot H2 st cl (n + 3 * (j + 1)) → hid2 st cl H2 = hid2 st cl H' → H2 Fa = some (.lst xs) → ∃ xs gs v5' v6' v7' v8' v9', [some (.ref st), some (.ref ba), some (.ref pa), some (.int 4), some (.ref Fa), v5, v6, v7, v8, v9] = ([some (.ref st), some (.ref ba), some (.ref pa), some (.int 4), some (.ref Fa), v5', v6', v7', v8', v9'] : L2.St) ∧ Pot H2 st cl (n + 3 * (j + 1)) ∧ Same (hid2 st cl H) (hide Fa (hid2 st cl H2)) ∧ H2 Fa = some (.lst xs) ∧
          DTs (hide Fa (hid2 st cl H2)) xs (gs.map gdD) ∧ (gs.map fun q => (q.1, q.2.1)).Sublist ((places r c).take (j + 1)) ∧ gs.length ≤ 8 ∧ (∀ q, q ∈ gs → 0 ≤ q.2.2.1 ∧ 0 ≤ q.2.2.2 ∧ 0 < q.2.2.1 + q.2.2.2) ∧ Bnd gs := fun {H2 v5 v6} p2 e2 h2 => by
        refine ⟨xs, gs, _, _, _, _, _, rfl, p2, by rw [e2]; exact s1, h2, by rw [e2]; exact hT, ?_, h8, hok, hB⟩
        rw [tk]
        exact hsub.trans (List.sublist_append_left _ _)
      refine ⟨_, rfl, Fa, _, rfl, .inl (SqL.of hF), _, _, rfl, rfl, _, rfl, ite2 (fun hlt => ?_) (fun hlt => ?_)⟩
      · have lx := hT.length
        rw [List.length_map] at lx
        have hlt' := of_decide_eq_true hlt
        refine ⟨_, rfl, st, cl, _, _, rfl, pj, by omega, by decide, by decide, fun H2 x2 d2 p2 x20 x21 => ⟨rfl, _, rfl, ite2 (fun hc => ?_) (fun hc => ?_)⟩⟩
        · obtain ⟨brow, eb, hbrow⟩ := hrow pl.1 hmem.1
          have s2 : Same (hid2 st cl H) (hid2 st cl H2) := s1'.trans d2.same
          have g0 := sm.lo pl.1 pl.2 hmem.1 hmem.2
          have g30 := sm.hi pl.1 pl.2 hmem.1 hmem.2
          refine ⟨_, rfl, _, rfl, ba, _, _, _, rfl, rfl, SqL.of (at2 s2 hba), atI_nat eb, _, rfl, brow, _, _, _, rfl, rfl, SqL.of (at2 s2 hbrow), atI_nat (by rw [List.getElem?_map, map_range_get hmem.2]; rfl), ?_⟩
          generalize g pl.1 pl.2 = mu at g0 g30
          refine ⟨_, rfl, _, _, rfl, _, rfl, _, _, rfl, rfl, ⟨by decide, by decide⟩, _, rfl, _, rfl, _, _, rfl, rfl, (by show 6 ≤ sizeLine; decide), fun L1 nL1 => ?_⟩
          obtain ⟨a1, a2⟩ := p2.off nL1
          have hFb : H2 Fa = some (.lst xs) := (d2.at f1 f2).trans hF
          have F1 : Fa ≠ L1 := ne_of_none hFb nL1
          refine ⟨_, rfl, st, cl, _, _, rfl, p2.upd a1 a2, by omega, by decide, by decide, fun H4 x4 d4 p4 x40 x41 => ?_⟩
          obtain ⟨less, hless, eless⟩ := getL (ls := [0, 1, if mu < 1 then mu else 1, mu / 2, mu, mu + 1]) x40 x41
          have hl : 0 ≤ less ∧ less ≤ 31 := by
            simp only [List.mem_cons, List.not_mem_nil, or_false] at hless
            rcases hless with rfl | rfl | rfl | rfl | rfl | rfl
            · omega
            · omega
            · split <;> omega
            · omega
            · omega
            · omega
          have s4 : Same (hid2 st cl H2) (hid2 st cl H4) := by
            rw [show hid2 st cl H4 = _ from d4, hid2_upd a1 a2]
            exact same_new (by rw [hid2_at a1 a2]; exact nL1)
          have hF4 : H4 Fa = some (.lst xs) := (d4.at f1 f2).trans ((upd_ne F1).trans hFb)
          refine ⟨L1, _, _, _, rfl, rfl, SqL.of ((d4.at a1 a2).trans upd_same), eless, ?_⟩
          refine ⟨_, rfl, _, rfl, _, _, rfl, rfl, ⟨by decide, by decide⟩, _, _, rfl, rfl, (by show 5 ≤ sizeLine; decide), fun L2 nL2 => ?_⟩
          obtain ⟨b1, b2⟩ := p4.off nL2
          have F2 : Fa ≠ L2 := ne_of_none hF4 nL2
          refine ⟨_, rfl, st, cl, _, _, rfl, p4.upd b1 b2, by omega, by decide, by decide, fun H6 x6 d6 p6 x60 x61 => ?_⟩
          obtain ⟨more, hmore, emore⟩ := getL (ls := [0, 1, 2, 4, 1 + mu / 3]) x60 x61
          have hm : 0 ≤ more ∧ more ≤ 31 := by
            simp only [List.mem_cons, List.not_mem_nil, or_false] at hmore
            rcases hmore with rfl | rfl | rfl | rfl | rfl <;> omega
          have s6 : Same (hid2 st cl H4) (hid2 st cl H6) := by
            rw [show hid2 st cl H6 = _ from d6, hid2_upd b1 b2]
            exact same_new (by rw [hid2_at b1 b2]; exact nL2)
          have hF6 : H6 Fa = some (.lst xs) := (d6.at f1 f2).trans ((upd_ne F2).trans hF4)
          refine ⟨L2, _, _, _, rfl, rfl, SqL.of ((d6.at b1 b2).trans upd_same), emore, ?_⟩
          clear hless eless hmore emore
          have hab : ∃ ab : Int, 0 ≤ ab ∧ ab ≤ 31 ∧ 0 < less + ab ∧ atI [V.int more, V.int 1] (if decide (V.int (less + more) = V.int 0) = true then 1 else 0) = some (.int ab) := by
            by_cases e : less + more = 0
            · refine ⟨1, by decide, by decide, by omega, ?_⟩
              rw [decide_eq_true (by rw [e]), if_pos rfl]
              exact atI_nat (j := 1) rfl
            · refine ⟨more, hm.1, hm.2, by omega, ?_⟩
              rw [decide_eq_false (fun z => e (V.int.inj z)), if_neg (by decide)]
              exact atI_nat (j := 0) rfl
          obtain ⟨ab, ab0, ab31, abs, eab⟩ := hab
          refine ⟨_, rfl, .inl ⟨rfl, _, SqL.of hF6⟩, _, rfl, _, rfl, _, rfl, _, rfl, (by show 2 ≤ sizeLine; decide), fun L3 nL3 => ?_⟩
          obtain ⟨c1, c2⟩ := p6.off nL3
          have p7 := p6.upd (o := .lst [V.int more, V.int 1]) c1 c2
          have sn7 := same_new (o := .lst [V.int more, V.int 1]) nL3
          refine ⟨_, rfl, _, rfl, _, _, rfl, rfl, rfl, .inr ⟨_, rfl, L3, _, _, _, rfl, rfl, SqL.of upd_same, eab, (by show 4 ≤ sizeLine; decide), fun L4 nL4 => ?_⟩⟩
          obtain ⟨e1, e2⟩ := p7.off nL4
          have sn8 := same_new (o := .tup [V.int (pl.1 : Nat), V.int (pl.2 : Nat), V.int less, V.int ab]) nL4
          have hF8 := sn8 _ _ (sn7 _ _ hF6)
          have F4 : L4 ≠ Fa := (ne_of_none (sn7 _ _ hF6) nL4).symm
          refine ⟨Fa, xs, _, rfl, rfl, hF8, by omega, ?_⟩
          have eh : ∀ {o : HO} {H0 : Hp}, hide Fa (hid2 st cl (upd H0 Fa o)) = hide Fa (hid2 st cl H0) := fun {o H0} => by rw [hid2_upd f1 f2, hide_upd]
          have sAll : Same (hid2 st cl H') (hid2 st cl (upd (upd H6 L3 (.lst [V.int more, V.int 1])) L4 (.tup [V.int (pl.1 : Nat), V.int (pl.2 : Nat), V.int less, V.int ab]))) :=
            d2.same.trans (s4.trans (s6.trans (hid2_mono (sn7.trans sn8))))
          refine ⟨_, gs ++ [(pl.1, pl.2, less, ab)], _, _, _, _, _, rfl, ((p7.upd e1 e2).upd f1 f2).mono (by omega), ?_, upd_same, ?_, ?_, ?_, fun q' hq => ?_, ⟨fun q' hq => ?_⟩⟩
          · rw [eh]
            exact s1.trans (hide_mono sAll)
          · rw [eh, List.map_append]
            refine (hT.same (hide_mono sAll)).append (.cons (DT.ofGuard (q := (pl.1, pl.2, less, ab)) ?_) .nil)
            rw [hide_ne F4, hid2_at e1 e2, upd_same]
          · rw [tk, List.map_append]
            exact hsub.append (List.Sublist.refl _)
          · rw [List.length_append, List.length_singleton]
            omega
          · rw [List.mem_append, List.mem_singleton] at hq
            rcases hq with hq | rfl
            · exact hok q' hq
            · exact ⟨hl.1, ab0, abs⟩
          · rw [List.mem_append, List.mem_singleton] at hq
            rcases hq with hq | rfl
            · exact hB.b q' hq
            · exact ⟨hl.2, ab31⟩
        · exact skip (p2.mono (by omega)) d2 ((d2.at f1 f2).trans hF)
      · exact skip (pj.mono (by omega)) rfl hF
    · obtain ⟨xs, gs, v5, v6, v7, v8, v9, rfl, pj, s1, hF, hT, hsub, h8, hok, hB⟩ := hP
      have hj16 : zs.length ≤ 16 := by
        rw [hzl, places_len]
        omega
      have hsub2 := hsub.trans (List.take_sublist _ _)
      refine ⟨_, rfl, ?_⟩
      refine q H' _ gs (s1.trans hide_same) (pj.mono (by omega)) (.lst ((hid2_at f1 f2).trans hF) (hT.same hide_same)) ⟨h8, fun q' hq => ?_, ?_⟩ hB
      · have h1 := mem_places.mp (hsub2.subset (List.mem_map.mpr ⟨q', hq, rfl⟩))
        obtain ⟨h2, h3, h4⟩ := hok q' hq
        exact ⟨h1.1, h1.2, h2, h3, h4⟩
      · have h1 := (places_rise c r).sublist hsub2
        rw [List.pairwise_map] at h1
        exact h1
end
end Cv

/-! Countveil, the law's own defs 4: _law_lists, _law_due, _law_lone. -/
namespace Cv
open PySem PySem.Spec PyProof.Rows L2
abbrev sLLists : Stmt := topS 41
abbrev sLDue : Stmt := topS 42
abbrev sLLone : Stmt := topS 43
theorem scLLists : FnScope ["_law_places", "_law_found", "_law_place", "_law_one", "_law_size"] ["_law_places"] (defScope sLLists) := ⟨rfl, rfl, rfl, by decide +kernel, rfl, by decide +kernel, by decide +kernel⟩
theorem scLDue : FnScope ["_law_block_here", "_law_guards_here", "_law_wanted", "_law_hidden", "_law_guard", "_law_place"] ["_law_block_here", "_law_guards_here"] (defScope sLDue) := ⟨rfl, rfl, rfl, by decide +kernel, rfl, by decide +kernel, by decide +kernel⟩
theorem scLLone : FnScope ["_law_hidden", "_law_rows", "_law_columns", "_law_i", "_law_k"] ["_law_hidden"] (defScope sLLone) := ⟨rfl, rfl, rfl, by decide +kernel, rfl, by decide +kernel, by decide +kernel⟩
def encL (h : List Pl) : PyData := kk (h.map pD)
def spLLists : Sp := fun vs H Q _ => ∃ (ps : List Pl) (x : V), vs = [x] ∧ DT H x (hD ps) ∧ ps.length ≤ 16 ∧ ∀ (H' : Hp) (a : Addr) (ys : List V), Same H H' → H' a = some (.lst ys) → DTs H' ys ((listsOf ps).map hD) → Q (.ref a) H'
def spLDue : Sp := fun vs H Q _ => ∃ (r c : Nat) (g : Mat) (gs : List Gd) (x y : V), vs = [x, y] ∧ DT H x (gridD r c g) ∧ DT H y (gdsD gs) ∧ Gr r c g ∧ GdsOk r c gs ∧ r * c ≤ 16 ∧
  ∀ (H' : Hp) (v : V) (o : Option (List Pl)), Same H H' → First (listsOf (places r c)) (fun h => Safe r c g h gs) o → ODT H' v o → Q v H'
def spLLone : Sp := fun vs H Q _ => ∃ (h : List Pl) (x : V), vs = [x] ∧ DT H x (hD h) ∧ h.length ≤ 100 ∧ ∀ (H' : Hp) (b : Bool), Same H H' → (b = true ↔ Lone h) → Q (.bl b) H'
section
variable {P : Program} {w : PySem.World} {K : PySem.W.Frag} {mg : Str → Option Value} {base : Heap}
theorem ok_llists {f : Addr} {fd : FuncData} (F : Fun K "_law_lists" "_law_lists" sLLists f fd) (G : Gb mg) : FnOk P w K mg base CX0 1 f fd ["_law_places"] spLLists := by
  refine F.ok scLLists (fun vs H Q E h => ?_) (fun cdv A outer s H vs Q E hr h => ?_)
  · obtain ⟨ps, x, rfl, _⟩ := h
    rfl
  · obtain ⟨ps, x, rfl, dx, l16, q⟩ := h
    have hu : (A.deeper (envOfC "_law_lists" (defScope sLLists) s.heap.objs.size f cdv)).units + 64 < cLine := by
      have := hr.un
      omega
    refine ⟨_, pss_cons (ps_set (i := 1) scLLists.nd rfl (.inl rfl) (pe_lst (pa_cons (pe_lst pa_nil) pa_nil)))
      (pss_cons (ps_for PassesOwn.never rfl (pi_list (pv 0)) (pg_name (i := 2) scLLists.nd rfl (Or.inr rfl))
        (pss_one (ps_set (i := 1) scLLists.nd rfl (.inl rfl) (pe_op op_cat (pv 1) (pe_lc (own := [("_law_one", 3)]) (g := gName 3) (tt := tYes) rfl scLLists.nd (pi_list (pv 1)) (blkOk_by (N := ["_law_places", "_law_found", "_law_place", "_law_one", "_law_size"]) (sc := defScope sLLists) (by decide +kernel))
          (fun _ _ _ _ _ => pg_name (i := 3) scLLists.nd rfl (Or.inl rfl)) (fun _ _ _ _ _ => pts_nil) (fun _ _ _ _ _ => pe_op op_cat (pv 3) (pe_lst (pa_cons (pv 2) pa_nil))))))))
      (pss_one (ps_ret (pe_lc (own := [("_law_size", 4), ("_law_one", 3)]) (g := gTup K 2 (gCons (gName 4) (gCons (gName 3) gNil))) (tt := tYes) rfl scLLists.nd
          (pi_list (pe_callB (cr_sortedE (enc := encL) hu) (by rfl) G.sorted b_sorted (pa_cons (pe_lc (own := [("_law_one", 3)]) (g := gName 3) (tt := tYes) (te := tTup (tCons (tCB (rLen2 K) (tCons (tVar 3) tNil)) (tCons (tVar 3) tNil))) rfl scLLists.nd (pi_list (pv 1)) (blkOk_by (N := ["_law_places", "_law_found", "_law_place", "_law_one", "_law_size"]) (sc := defScope sLLists) (by decide +kernel))
            (fun _ _ _ _ _ => pg_name (i := 3) scLLists.nd rfl (Or.inl rfl)) (fun _ _ _ _ _ => pts_nil) (fun _ _ _ _ _ => pe_tup (pa_cons (pe_callB cr_len (by rfl) G.len b_len (pa_cons (pv 3) pa_nil)) (pa_cons (pv 3) pa_nil)))) pa_nil)))
          (blkOk_by (N := ["_law_places", "_law_found", "_law_place", "_law_one", "_law_size"]) (sc := defScope sLLists) (by decide +kernel))
          (fun _ _ _ _ _ => pg_tup rfl (pgs_cons (pg_name (i := 4) scLLists.nd rfl (Or.inl rfl)) (pgs_cons (pg_name (i := 3) scLLists.nd rfl (Or.inl rfl)) pgs_nil))) (fun _ _ _ _ _ => pts_nil) (fun _ _ _ _ _ => pv 3))))), ?_⟩
    obtain ⟨a, zs, rfl, ha, hzl, _, hzs⟩ := id (DT.list (f := pD) dx)
    refine ⟨Nat.zero_le _, fun l nl => ⟨by show 1 ≤ sizeLine; decide, fun L nL => ?_⟩⟩
    have sl := same_new (o := .lst []) nl
    have sL := same_new (o := .lst [.ref l]) nL
    have bigL : ∀ j, (subs (ps.take j)).length ≤ 65536 := fun j => by
      rw [subs_len]
      have : (ps.take j).length ≤ 16 := Nat.le_trans (List.take_sublist j ps).length_le l16
      exact Nat.pow_le_pow_right (by decide) this
    have szL : (200000 : Nat) < sizeLine := by
      rw [sizeLine_eq]
      decide
    refine ⟨_, rfl, a, rfl, ⟨_, SqL.of (sL _ _ (sl _ _ ha))⟩, ?_⟩
    refine for_list (K := K) (a := a) (xs := zs) (fun j σ H' => ∃ L xs v2 v3 v4, σ = [some (.ref a), some (.ref L), v2, v3, v4] ∧ Same H H' ∧ H' L = some (.lst xs) ∧ DTs H' xs ((subs (ps.take j)).map hD))
      ⟨L, _, _, _, _, rfl, sl.trans sL, upd_same, ?_⟩ (fun j σ H' _ hP => ?_) (fun j x σ H' hx hP => ?_) (fun σ H' hP => ?_)
    · rw [List.take_zero]
      exact .cons (.lst (sL _ _ upd_same) .nil) .nil
    · obtain ⟨_, _, _, _, _, _, sm, _⟩ := hP
      exact SqL.of (sm _ _ ha)
    · obtain ⟨L, xs, v2, v3, v4, rfl, sm, hL, hT⟩ := hP
      have hj : j < ps.length := by
        have := (List.getElem?_eq_some_iff.mp hx).1
        omega
      obtain ⟨x', ex, dx'⟩ := hzs j _ (List.getElem?_eq_getElem hj)
      rw [hx] at ex
      cases ex
      have tk : ps.take (j + 1) = ps.take j ++ [ps[j]] := by
        rw [List.take_add_one, List.getElem?_eq_getElem hj]
        rfl
      have lenx := hT.length
      rw [List.length_map] at lenx
      have b1 := bigL j
      refine ⟨_, rfl, _, rfl, L, rfl, ⟨_, SqL.of hL⟩, fun D hD => ?_⟩
      refine lcD_list hL (((subs (ps.take j)).map fun h => Cv.hD (h ++ [ps[j]])).map some) (by rw [List.length_map, List.length_map]; exact lenx.symm) (by rw [List.length_map, List.length_map]; omega) hD (fun i o y H2 Kt Kf ho hy s2 s2' n2 hn hs => ?_) (fun ys H3 s3 h1 h2 => ?_)
      · obtain ⟨h, eh, rfl⟩ := os_map ho
        obtain ⟨y', ey, dy⟩ := hT.get (i := i) (d := Cv.hD h) (by rw [List.getElem?_map, eh]; rfl)
        rw [hy] at ey
        cases ey
        obtain ⟨b, ws, rfl, hb, dws⟩ := dy.inList
        have hlen : ws.length ≤ 16 := by
          have h3 := dws.length
          rw [List.length_map] at h3
          have h4 := (mem_subs.mp (List.mem_of_getElem? eh)).length_le
          have h5 := List.length_take_le j ps
          omega
        refine ⟨rfl, ?_⟩
        refine ⟨_, rfl, _, rfl, (by show 1 ≤ sizeLine; decide), fun p1 np1 => ?_⟩
        have s4 := same_new (o := .lst [x]) np1
        have nb1 := s2' _ _ hb
        refine ⟨b, p1, ws, _, rfl, rfl, s4 _ _ nb1, upd_same, (by rw [List.length_singleton]; omega), fun p2 np2 => ?_⟩
        have s5 := same_new (o := .lst (ws ++ [x])) np2
        have pD2 : p2 ≠ D := fun z => by
          rw [z] at np2
          cases e : H2 D with
          | none => exact n2 e
          | some o =>
            rw [s4 _ _ e] at np2
            cases np2
        refine hs _ rfl _ _ (s4.trans s5) (.lst ((hide_ne pD2).trans upd_same) ?_)
        rw [List.map_append]
        have sH : Same H' (hide D (upd (upd H2 p1 (.lst [x])) p2 (.lst (ws ++ [x])))) := s2.trans (hide_mono (s4.trans s5))
        exact (dws.same sH).append (.cons (dx'.same (sm.trans sH)) .nil)
      · rw [filterMap_some] at h2
        have lenY := h2.length
        rw [List.length_map] at lenY
        refine ⟨L, D, xs, ys, rfl, rfl, s3 _ _ hL, h1, by omega, fun p np => ?_⟩
        have sp := same_new (o := .lst (xs ++ ys)) np
        refine ⟨p, _, _, _, _, rfl, (sm.trans s3).trans sp, upd_same, ?_⟩
        rw [tk, subs_snoc, List.map_append, List.map_map]
        exact (hT.same (s3.trans sp)).append (h2.same (hide_same.trans sp))
    · obtain ⟨L, xs, v2, v3, v4, rfl, sm, hL, hT⟩ := hP
      rw [List.take_of_length_le (by omega)] at hT
      have lenx := hT.length
      rw [List.length_map] at lenx
      have b1 := bigL ps.length
      rw [List.take_length] at b1
      refine ⟨_, rfl, L, rfl, ⟨_, SqL.of hL⟩, fun D hD => ?_⟩
      refine lcD_list hL (((subs ps).map encL).map some) (by rw [List.length_map, List.length_map]; exact lenx.symm) (by rw [List.length_map, List.length_map]; omega) hD (fun i o y H2 Kt Kf ho hy s2 s2' n2 hn hs => ?_) (fun ys H3 s3 h1 h2 => ?_)
      · obtain ⟨h, eh, rfl⟩ := os_map ho
        obtain ⟨y', ey, dy⟩ := hT.get (i := i) (d := Cv.hD h) (by rw [List.getElem?_map, eh]; rfl)
        rw [hy] at ey
        cases ey
        obtain ⟨b, ws, rfl, hb, dws⟩ := id dy.inList
        have lw := dws.length
        refine ⟨rfl, ?_⟩
        refine ⟨_, rfl, b, _, rfl, .inl (SqL.of (s2' _ _ hb)), _, rfl, (by show 2 ≤ sizeLine; decide), fun t nt => ?_⟩
        have tD : t ≠ D := fun z => by
          rw [z] at nt
          exact n2 nt
        refine hs _ rfl _ _ (same_new nt) (.tup ((hide_ne tD).trans upd_same) (.cons ?_ (.cons ?_ .nil)))
        · rw [lw]
          exact .int _
        · exact dy.same (s2.trans (hide_mono (same_new nt)))
      · rw [filterMap_some] at h2
        refine ⟨D, ys, subs ps, rfl, h1, h2.same hide_same, ?_, ?_, fun b _ => dep_kk b, fun p ws np dws => ?_⟩
        · exact PySem.W.AllAlike.of alike_kk
        · exact PySem.W.Sortable.tuples fun b => ⟨_, _, rfl⟩
        have dws : DTs H3 ws ((listsOf ps).map encL) := dws
        have sp := same_new (o := .lst ws) np
        have lws := dws.length
        rw [List.length_map] at lws
        have lL : (listsOf ps).length ≤ 65536 := by
          unfold listsOf
          rw [List.length_mergeSort]
          exact b1
        refine ⟨p, rfl, ⟨_, SqL.of upd_same⟩, fun D2 hD2 => ?_⟩
        refine lcD_list upd_same (((listsOf ps).map Cv.hD).map some) (by rw [List.length_map, List.length_map]; exact lws.symm) (by rw [List.length_map, List.length_map]; omega) hD2 (fun i o y H4 Kt Kf ho hy s4 s4' n4 hn hs => ?_) (fun us H5 s5 h3 h4 => ?_)
        · obtain ⟨h, eh, rfl⟩ := os_map ho
          obtain ⟨y', ey, dy⟩ := dws.get (i := i) (d := encL h) (by rw [List.getElem?_map, eh]; rfl)
          rw [hy] at ey
          cases ey
          obtain ⟨b, us, rfl, hb, dus⟩ := dy.inTup
          cases dus with
          | cons d1 t =>
            cases t with
            | cons d2 t =>
              cases t
              refine ⟨b, _, rfl, SqT.of (s4' _ _ (sp _ _ hb)), rfl, _, _, rfl, _, _, rfl, rfl, rfl, ?_⟩
              exact ⟨_, rfl, hs _ rfl _ _ (Same.refl _) (d2.same (sp.trans s4))⟩
        · rw [filterMap_some] at h4
          exact q H5 D2 us ((sm.trans s3).trans (sp.trans s5)) h3 (h4.same hide_same)
end
end Cv

/-! Countveil, the law's own defs 5: _law_due, _law_lone. -/
namespace Cv
open PySem PySem.Spec PyProof.Rows L2
theorem kept_data (F : Pl → Bool) : ∀ l : List Pl, (l.map fun q => if F q = true then some (pD q) else none).filterMap id = (l.filter F).map pD
  | [] => rfl
  | q :: l => by
    have ih := kept_data F l
    by_cases e : F q = true
    · rw [List.map_cons, List.filterMap_cons, if_pos e, List.filter_cons_of_pos e, List.map_cons]
      show pD q :: _ = _
      rw [ih]
    · rw [List.map_cons, List.filterMap_cons, if_neg e, List.filter_cons_of_neg e]
      exact ih
theorem ones_data (F : Pl → Bool) : ∀ l : List Pl, (l.map fun q => if F q = true then some (PyData.int 1) else none).filterMap id = ((l.filter F).map fun _ => (1 : Int)).map PyData.int
  | [] => rfl
  | q :: l => by
    have ih := ones_data F l
    by_cases e : F q = true
    · rw [List.map_cons, List.filterMap_cons, if_pos e, List.filter_cons_of_pos e, List.map_cons, List.map_cons]
      show PyData.int 1 :: _ = _
      rw [ih]
    · rw [List.map_cons, List.filterMap_cons, if_neg e, List.filter_cons_of_neg e]
      exact ih
section
variable {P : Program} {w : PySem.World} {K : PySem.W.Frag} {mg : Str → Option Value} {base : Heap}
theorem ok_ldue {f : Addr} {fd : FuncData} (F : Fun K "_law_due" "_law_due" sLDue f fd) (G : Gb mg) (hW : Has P w K mg base 7 "safe_wrong" ["sheet", "guards"] spSafeIn) (hP : Has P w K mg base 1 "_law_spots" ["_law_block_here"] spLSpots) (hL : Has P w K mg base 1 "_law_lists" ["_law_places"] spLLists) :
    FnOk P w K mg base CX0 8 f fd ["_law_block_here", "_law_guards_here"] spLDue := by
  obtain ⟨fW, fdW, gW, kW, bW, oW⟩ := hW.ex
  obtain ⟨fP, fdP, gP, kP, bP, oP⟩ := hP.ex
  obtain ⟨fL, fdL, gL, kL, bL, oL⟩ := hL.ex
  refine F.ok scLDue (fun vs H Q E h => ?_) (fun cdv A outer s H vs Q E hr h => ?_)
  · obtain ⟨r, c, g, gs, x, y, rfl, _⟩ := h
    rfl
  · obtain ⟨r, c, g, gs, x, y, rfl, dx, dy, gr, ok, rc16, q⟩ := h
    have hu : (A.deeper (envOfC "_law_due" (defScope sLDue) s.heap.objs.size f cdv)).units + 65 < cLine := by
      have := hr.un
      omega
    have hu64 : (A.deeper (envOfC "_law_due" (defScope sLDue) s.heap.objs.size f cdv)).units + 64 < cLine := by omega
    refine ⟨_, pss_cons (ps_if (pt_cmp (pc_notN (pe_call oW hr (by rfl) gW kW bW .nil pass0 (pa_cons (pe_tup (pa_cons (pv 0) (pa_cons (pe_call oP (hr.mono (by decide)) (by rfl) gP kP bP .nil pass0 (pa_cons (pv 0) pa_nil)) pa_nil))) (pa_cons (pv 1) pa_nil))))) (pss_one (ps_ret pe_non)) pss_nil)
      (pss_cons (ps_setLc (i := 2) (own := [("_law_guard", 4)]) (g := gName 4) (tt := tYes) (te := tSl (rSlT K) (tVar 4) tNoPart (tPart (tC (.int 2)))) rfl scLDue.nd rfl rfl (sw_true rfl rfl rfl (by decide +kernel)) (pi_list (pv 1)) (blkOk_by (N := ["_law_block_here", "_law_guards_here", "_law_wanted", "_law_hidden", "_law_guard", "_law_place"]) (sc := defScope sLDue) (by decide +kernel))
          (fun _ _ _ _ _ => pg_name (i := 4) scLDue.nd rfl (Or.inl rfl)) (fun _ _ _ _ _ => pts_nil) (fun _ _ _ _ _ => pe_slice (r := rSlT K) sl_tup (pv 4) po_none (po_some pe_int)))
      (pss_cons (ps_for PassesOwn.never rfl (pi_list (pe_call oL (hr.mono (by decide)) (by rfl) gL kL bL .nil pass0 (pa_cons (pe_call oP (hr.mono (by decide)) (by rfl) gP kP bP .nil pass0 (pa_cons (pv 0) pa_nil)) pa_nil))) (pg_name (i := 3) scLDue.nd rfl (Or.inr rfl))
        (pss_one (ps_if (pt_cmpR (op_eqD hu64) (pe_lc (own := [("_law_place", 5)]) (g := gName 5) (tt := tTest (tOp (rNotInD K) (tVar 5) (tVar 3))) rfl scLDue.nd (pi_list (pv 2)) (blkOk_by (N := ["_law_block_here", "_law_guards_here", "_law_wanted", "_law_hidden", "_law_guard", "_law_place"]) (sc := defScope sLDue) (by decide +kernel))
            (fun _ _ _ _ _ => pg_name (i := 5) scLDue.nd rfl (Or.inl rfl)) (fun _ _ _ _ _ => pts_one (pt_cmpR (op_notInD hu) (pv 5) (pv 3) rfl)) (fun _ _ _ _ _ => pv 5)) (pe_lst pa_nil) (nomark _))
          (pss_one (ps_if (pt_cmp (pc_isN (pe_call oW hr (by rfl) gW kW bW .nil pass0 (pa_cons (pe_tup (pa_cons (pv 0) (pa_cons (pv 3) pa_nil))) (pa_cons (pv 1) pa_nil))))) (pss_one (ps_ret (pv 3))) pss_nil)) pss_nil)))
      (pss_one (ps_ret pe_non)))), ?_⟩
    have r6 := gr.r6
    have c6 := gr.c6
    have big : (1000000 : Nat) < sizeLine := by
      rw [sizeLine_eq]
      decide
    refine ⟨_, rfl, _, rfl, r, c, g, _, rfl, dx, gr.r0, gr.c0, r6, c6, fun H2 pa ps s2 npa hpa dps => ?_⟩
    refine ⟨(by show 2 ≤ sizeLine; decide), fun t nt => ⟨_, rfl, ?_⟩⟩
    have s3 := s2.trans (same_new (o := .tup [x, .ref pa]) nt)
    refine ⟨r, c, g, places r c, gs, _, _, rfl, DT.ofSheet upd_same (dx.same s3) ((DT.lst hpa dps).same (same_new nt)), dy.same s3, gr, Hid.of (List.Sublist.refl _), ok, fun H4 v s4 hv => ?_⟩
    have s34 := s3.trans s4
    rcases hv with ⟨rfl, hsafe⟩ | ⟨a, rfl, hns⟩
    · refine ⟨_, rfl, iteF ?_⟩
      obtain ⟨ga, gxs, rfl, hga, hgl, _, hgat⟩ := id (DT.list (f := gdD) dy)
      have l8 := ok.len
      refine ⟨_, rfl, ga, rfl, ⟨_, SqL.of (s34 _ _ hga)⟩, fun D hD => ?_⟩
      refine lcD_list (s34 _ _ hga) ((gs.map fun q => pD (q.1, q.2.1)).map some) (by rw [List.length_map, List.length_map, hgl]) (by rw [List.length_map, List.length_map]; omega) hD (fun j o z H' Kt Kf ho hz sm sm2 n2 hn hs => ?_) (fun us H5 s5 h1 h2 => ?_)
      · obtain ⟨q0, eq0, rfl⟩ := os_map ho
        obtain ⟨z', e1, dz⟩ := hgat j q0 eq0
        rw [hz] at e1
        cases e1
        obtain ⟨b, rfl, hb⟩ := (dz.same (s34.trans sm2)).guard
        refine ⟨rfl, ?_⟩
        refine ⟨_, rfl, 2, rfl, b, _, rfl, SqT.of hb, cut_ne _ _ _ _, fun p np => ?_⟩
        rw [cut2]
        have pD2 : p ≠ D := fun e => by
          rw [e] at np
          exact n2 np
        exact hs _ rfl _ _ (same_new np) (DT.ofPair (p := (q0.1, q0.2.1)) ((hide_ne pD2).trans upd_same))
      rw [filterMap_some] at h2
      have ew : gs.map (fun q => pD (q.1, q.2.1)) = (gs.map fun q => (q.1, q.2.1)).map pD := by
        rw [List.map_map]
        rfl
      rw [ew] at h2
      generalize eW : (gs.map fun q => (q.1, q.2.1)) = wn at h2
      have lwn : wn.length ≤ 8 := by
        rw [← eW, List.length_map]
        exact l8
      have dW : DT H5 (.ref D) (Cv.hD wn) := .lst h1 (h2.same hide_same)
      have s15 := s34.trans s5
      refine ⟨_, rfl, r, c, g, _, rfl, dx.same s15, gr.r0, gr.c0, r6, c6, fun H6 pb qs s6 npb hpb dqs => ?_⟩
      have s16 := s15.trans s6
      refine ⟨places r c, _, rfl, .lst hpb dqs, by rw [places_len]; exact rc16, fun H7 la ls s7 hla dls => ⟨la, rfl, ⟨_, SqL.of hla⟩, ?_⟩⟩
      have s17 := s16.trans s7
      have lls := dls.length
      rw [List.length_map] at lls
      have dW7 := dW.same (s6.trans s7)
      refine for_list (K := K) (a := la) (xs := ls) (fun j σ H' => ∃ v3 v4 v5, σ = [some x, some (.ref ga), some (.ref D), v3, v4, v5] ∧ Same H7 H' ∧ ∀ i, i < j → ∀ h, (listsOf (places r c))[i]? = some h → ¬ Safe r c g h gs)
        ⟨_, _, _, rfl, Same.refl _, fun i hi => absurd hi (Nat.not_lt_zero _)⟩ (fun j σ H' _ hP => ?_) (fun j z σ H' hz hP => ?_) (fun σ H' hP => ?_)
      · obtain ⟨_, _, _, _, sm, _⟩ := hP
        exact SqL.of (sm _ _ hla)
      · obtain ⟨v3, v4, v5, rfl, sm, hno⟩ := hP
        obtain ⟨d, ed, dz⟩ := dls.at_ hz
        obtain ⟨h, eh, rfl⟩ := map_get ed
        have dz' := dz.same sm
        have hsub : h.Sublist (places r c) := mem_listsOf.mp (List.mem_of_getElem? eh)
        have dW' := dW7.same sm
        obtain ⟨wa, ws, ew, hwa, hwl, _, hwat⟩ := id (DT.list (f := pD) dW')
        cases ew
        have stay : ∀ {σ' H''}, Same H' H'' → (∃ v3 v4 v5, σ' = [some x, some (.ref ga), some (.ref D), v3, v4, v5]) → ¬ Safe r c g h gs → (∃ v3 v4 v5, σ' = [some x, some (.ref ga), some (.ref D), v3, v4, v5] ∧ Same H7 H'' ∧ ∀ i, i < j + 1 → ∀ h, (listsOf (places r c))[i]? = some h → ¬ Safe r c g h gs) := fun {σ' H''} s7 ⟨v3, v4, v5, e⟩ hn => ⟨v3, v4, v5, e, sm.trans s7, fun i hi h' eh' => by
          by_cases e : i = j
          · rw [e, eh] at eh'
            cases eh'
            exact hn
          · exact hno i (by omega) h' eh'⟩
        refine ⟨_, rfl, D, rfl, ⟨_, SqL.of hwa⟩, fun D3 hD3 => ?_⟩
        refine lcD_list hwa (wn.map fun q => if (!decide (q ∈ h)) = true then some (pD q) else none) (by rw [List.length_map, hwl]) (by rw [List.length_map]; omega) hD3 (fun i o y H8 Kt Kf ho hy s8 s8' n8 hn hs => ?_) (fun us H9 s9 h3 h4 => ?_)
        · obtain ⟨q0, eq0, rfl⟩ := map_get ho
          obtain ⟨y', e1, dy'⟩ := hwat i q0 eq0
          rw [hy] at e1
          cases e1
          refine ⟨rfl, ?_⟩
          refine ⟨_, rfl, _, rfl, pD q0, h.map pD, (dy'.same s8').dp, (dz'.same s8').dp, shaped_pD _, shaped_hD _, _, rfl, ?_⟩
          rw [any_pD]
          cases e : decide (q0 ∈ h) with
          | true => exact hn (if_neg (by rw [e]; decide)) _ (Same.refl _)
          | false => exact ⟨_, rfl, hs _ (if_pos (by rw [e]; rfl)) _ _ (Same.refl _) (dy'.same s8)⟩
        rw [kept_data] at h4
        refine ⟨Nat.zero_le _, fun e0 ne0 => ?_⟩
        have sE := same_new (o := .lst []) ne0
        have dK : DT _ (.ref D3) (Cv.hD (wn.filter fun q => !decide (q ∈ h))) := .lst (sE _ _ h3) (h4.same (hide_same.trans sE))
        have dE : DT _ (.ref e0) (Cv.hD []) := .lst (upd_same (H := H9) (a := e0) (o := .lst [])) .nil
        refine ⟨_, _, dK.dp, dE.dp, shaped_hD _, shaped_hD _, _, rfl, ?_⟩
        rw [eqv_hD]
        have s910 := s9.trans sE
        refine ite2 (fun ha => ?_) (fun ha => ?_)
        · refine ⟨_, rfl, _, rfl, (by show 2 ≤ sizeLine; decide), fun t nt => ?_⟩
          have s11 := s910.trans (same_new (o := .tup [x, z]) nt)
          have s1z := s17.trans (sm.trans s11)
          refine ⟨_, rfl, r, c, g, h, gs, _, _, rfl, DT.ofSheet upd_same (dx.same s1z) (dz'.same s11), dy.same s1z, gr, Hid.of hsub, ok, fun H12 v12 s12 hv => ?_⟩
          have s1112 := s11.trans s12
          rcases hv with ⟨rfl, hsafe2⟩ | ⟨a12, rfl, hns⟩
          · refine ⟨_, rfl, iteT ?_⟩
            refine ⟨_, rfl, ?_⟩
            exact q _ z (some h) (s17.trans (sm.trans s1112)) ⟨j, eh, hsafe2, fun i hi h' eh' => hno i hi h' eh'⟩ (dz'.same s1112)
          · refine ⟨_, rfl, iteF ?_⟩
            exact stay s1112 ⟨_, _, _, rfl⟩ hns
        · refine stay s910 ⟨_, _, _, rfl⟩ fun z => ha (decide_eq_true ?_)
          rw [List.filter_eq_nil_iff]
          intro q0 hq0
          rw [← eW] at hq0
          obtain ⟨q1, hq1, rfl⟩ := List.mem_map.mp hq0
          have := (z q1 hq1).1
          simp [this]
      · obtain ⟨v3, v4, v5, rfl, sm, hno⟩ := hP
        refine q _ .non none (s17.trans sm) (fun h hm hs => ?_) rfl
        obtain ⟨i, ei⟩ := List.getElem?_of_mem hm
        have hi := (List.getElem?_eq_some_iff.mp ei).1
        exact hno i (by omega) h ei hs
    · refine ⟨_, rfl, iteT ?_⟩
      exact q _ .non none s34 (fun h hm hs => hns (hs.mono (mem_listsOf.mp hm).subset)) rfl
theorem ok_llone {f : Addr} {fd : FuncData} (F : Fun K "_law_lone" "_law_lone" sLLone f fd) (G : Gb mg) : FnOk P w K mg base CX0 1 f fd ["_law_hidden"] spLLone := by
  refine F.ok scLLone (fun vs H Q E h => ?_) (fun cdv A outer s H vs Q E hr h => ?_)
  · obtain ⟨h, x, rfl, _⟩ := h
    rfl
  · obtain ⟨h, x, rfl, dx, l100, q⟩ := h
    have hu : (A.deeper (envOfC "_law_lone" (defScope sLLone) s.heap.objs.size f cdv)).units + 64 < cLine := by
      have := hr.un
      omega
    refine ⟨_, pss_cons (ps_set (i := 1) scLLone.nd rfl (.inr rfl) (pe_lc (own := [("_law_i", 3), ("_law_k", 4)]) (g := gTup K 2 (gCons (gName 3) (gCons (gName 4) gNil))) (tt := tYes) rfl scLLone.nd (pi_list (pv 0)) (blkOk_by (N := ["_law_hidden", "_law_rows", "_law_columns", "_law_i", "_law_k"]) (sc := defScope sLLone) (by decide +kernel))
          (fun _ _ _ _ _ => pg_tup rfl (pgs_cons (pg_name (i := 3) scLLone.nd rfl (Or.inl rfl)) (pgs_cons (pg_name (i := 4) scLLone.nd rfl (Or.inl rfl)) pgs_nil))) (fun _ _ _ _ _ => pts_nil) (fun _ _ _ _ _ => pv 3)))
      (pss_cons (ps_set (i := 2) scLLone.nd rfl (.inr rfl) (pe_lc (own := [("_law_i", 3), ("_law_k", 4)]) (g := gTup K 2 (gCons (gName 3) (gCons (gName 4) gNil))) (tt := tYes) rfl scLLone.nd (pi_list (pv 0)) (blkOk_by (N := ["_law_hidden", "_law_rows", "_law_columns", "_law_i", "_law_k"]) (sc := defScope sLLone) (by decide +kernel))
          (fun _ _ _ _ _ => pg_tup rfl (pgs_cons (pg_name (i := 3) scLLone.nd rfl (Or.inl rfl)) (pgs_cons (pg_name (i := 4) scLLone.nd rfl (Or.inl rfl)) pgs_nil))) (fun _ _ _ _ _ => pts_nil) (fun _ _ _ _ _ => pv 4)))
      (pss_one (ps_ret (pe_cmpR (op_neD hu) (pe_lc (own := [("_law_i", 3), ("_law_k", 4)]) (g := gTup K 2 (gCons (gName 3) (gCons (gName 4) gNil)))
          (tt := tOr (tTest (tOp rEq (tBM K "list" (rCntI K) (tVar 1) (tCons (tVar 3) tNil)) (tC (.int 1)))) (tTest (tOp rEq (tBM K "list" (rCntI K) (tVar 2) (tCons (tVar 4) tNil)) (tC (.int 1))))) rfl scLLone.nd (pi_list (pv 0)) (blkOk_by (N := ["_law_hidden", "_law_rows", "_law_columns", "_law_i", "_law_k"]) (sc := defScope sLLone) (by decide +kernel))
          (fun _ _ _ _ _ => pg_tup rfl (pgs_cons (pg_name (i := 3) scLLone.nd rfl (Or.inl rfl)) (pgs_cons (pg_name (i := 4) scLLone.nd rfl (Or.inl rfl)) pgs_nil)))
          (fun _ _ _ _ _ => pts_one (PW.pt (pw_or (pt_cmpR op_eq (pe_bm PySem.F.plainAttrs_list PySem.F.slot_list_count PySem.F.type_list_count mt_lcount (pv 1) (pa_cons (pv 3) pa_nil)) pe_int (nomark _)) (pw_or1 (pt_cmpR op_eq (pe_bm PySem.F.plainAttrs_list PySem.F.slot_list_count PySem.F.type_list_count mt_lcount (pv 2) (pa_cons (pv 4) pa_nil)) pe_int (nomark _))))))
          (fun _ _ _ _ _ => pe_int)) (pe_lst pa_nil) (nomark _))))), ?_⟩
    obtain ⟨a, xs, rfl, ha, hlen, _, hat⟩ := id (DT.list (f := pD) dx)
    have big : (1000 : Nat) < sizeLine := by
      rw [sizeLine_eq]
      decide
    have get2 : ∀ {H' : Hp}, Same H H' → ∀ (j : Nat) (x : V), xs[j]? = some x → ∀ q, h[j]? = some q → ∃ b, x = .ref b ∧ H' b = some (.tup [.int q.1, .int q.2]) := fun {H'} sm j x hx q hq => by
      obtain ⟨x', e1, e2⟩ := hat j q hq
      rw [hx] at e1
      cases e1
      obtain ⟨b, rfl, hb⟩ := e2.pair
      exact ⟨b, rfl, sm _ _ hb⟩
    refine ⟨_, rfl, a, rfl, ⟨_, SqL.of ha⟩, fun D1 hD1 => ?_⟩
    refine lcD_list ha ((h.map fun q => PyData.int q.1).map some) (by rw [List.length_map, List.length_map, hlen]) (by rw [List.length_map, List.length_map]; omega) hD1 (fun j o x H' Kt Kf ho hx sm sm2 n2 hn hs => ?_) (fun ys1 H1 s1 h1 h2 => ?_)
    · obtain ⟨q0, eq0, rfl⟩ := os_map ho
      obtain ⟨b, rfl, hb⟩ := get2 sm2 j x hx q0 eq0
      refine ⟨b, _, rfl, SqT.of hb, rfl, _, _, rfl, _, _, rfl, rfl, rfl, ?_⟩
      exact ⟨_, rfl, hs _ rfl _ _ (Same.refl _) (.int _)⟩
    rw [filterMap_some, show h.map (fun q => PyData.int q.1) = (h.map fun q => (q.1 : Int)).map PyData.int by rw [List.map_map]; rfl] at h2
    rw [h2.toInts] at h1
    refine ⟨_, rfl, a, rfl, ⟨_, SqL.of (s1 _ _ ha)⟩, fun D2 hD2 => ?_⟩
    refine lcD_list (s1 _ _ ha) ((h.map fun q => PyData.int q.2).map some) (by rw [List.length_map, List.length_map, hlen]) (by rw [List.length_map, List.length_map]; omega) hD2 (fun j o x H' Kt Kf ho hx sm sm2 n2 hn hs => ?_) (fun ys2 H2 s2 h3 h4 => ?_)
    · obtain ⟨q0, eq0, rfl⟩ := os_map ho
      obtain ⟨b, rfl, hb⟩ := get2 (s1.trans sm2) j x hx q0 eq0
      refine ⟨b, _, rfl, SqT.of hb, rfl, _, _, rfl, _, _, rfl, rfl, rfl, ?_⟩
      exact ⟨_, rfl, hs _ rfl _ _ (Same.refl _) (.int _)⟩
    rw [filterMap_some, show h.map (fun q => PyData.int q.2) = (h.map fun q => (q.2 : Int)).map PyData.int by rw [List.map_map]; rfl] at h4
    rw [h4.toInts] at h3
    have s12 := s1.trans s2
    have h1' := s2 _ _ h1
    refine ⟨_, rfl, a, rfl, ⟨_, SqL.of (s12 _ _ ha)⟩, fun D3 hD3 => ?_⟩
    refine lcD_list (s12 _ _ ha) (h.map fun q => if loneB h q = true then some (PyData.int 1) else none) (by rw [List.length_map, hlen]) (by rw [List.length_map]; omega) hD3 (fun j o x H' Kt Kf ho hx sm sm2 n2 hn hs => ?_) (fun ys3 H3 s3 h5 h6 => ?_)
    · obtain ⟨q0, eq0, rfl⟩ := map_get ho
      obtain ⟨b, rfl, hb⟩ := get2 (s12.trans sm2) j x hx q0 eq0
      refine ⟨b, _, rfl, SqT.of hb, rfl, _, _, rfl, _, _, rfl, rfl, rfl, ?_⟩
      have e1 : (h.map fun q => (q.1 : Int)).count (q0.1 : Int) = (h.map Prod.fst).count q0.1 := by
        rw [← count_cast, List.map_map]
        rfl
      have e2 : (h.map fun q => (q.2 : Int)).count (q0.2 : Int) = (h.map Prod.snd).count q0.2 := by
        rw [← count_cast, List.map_map]
        rfl
      have i1 : ∀ n : Nat, decide (V.int (n : Nat) = V.int 1) = decide (n = 1) := fun n => by
        rw [Bool.eq_iff_iff, decide_eq_true_iff, decide_eq_true_iff]
        constructor
        · intro z
          have := V.int.inj z
          omega
        · intro z
          rw [z]
          rfl
      refine tOr_go (b1 := decide ((h.map Prod.fst).count q0.1 = 1)) (b2 := decide ((h.map Prod.snd).count q0.2 = 1)) (fun Q' q' => ⟨_, rfl, .inl ⟨rfl, _, SqL.of (sm2 _ _ h1')⟩, _, rfl, D1, _, _, rfl, rfl, SqL.of (sm2 _ _ h1'), rfl, _, rfl, (by rw [e1, i1]; exact q')⟩)
        (fun _ Q' q' => ⟨_, rfl, .inl ⟨rfl, _, SqL.of (sm2 _ _ h3)⟩, _, rfl, D2, _, _, rfl, rfl, SqL.of (sm2 _ _ h3), rfl, _, rfl, (by rw [e2, i1]; exact q')⟩) ?_
      refine ite2 (fun hb => ?_) (fun hb => ?_)
      · exact hs _ (if_pos hb) _ _ (Same.refl _) (.int 1)
      · exact hn (if_neg hb) _ (Same.refl _)
    rw [ones_data] at h6
    refine ⟨Nat.zero_le _, fun e0 ne0 => ?_⟩
    have sE := same_new (o := .lst []) ne0
    have dK : DT _ (.ref D3) (.list (((h.filter (loneB h)).map fun _ => (1 : Int)).map PyData.int)) := .lst (sE _ _ h5) (h6.same (hide_same.trans sE))
    refine ⟨_, _, dK.dp, (DT.lst (upd_same (H := H3) (a := e0) (o := .lst [])) .nil).dp, shaped_of (by simp only [PyData.canLay0]; exact lay_ints _) (by simp only [PyData.depth]; rw [PySem.W.depth_ints]; decide), shaped_nil, ?_⟩
    refine q _ _ (s12.trans (s3.trans sE)) ?_
    have e5 : (h.filter (loneB h) ≠ []) ↔ Lone h := by
      rw [← lone_any, List.any_map, List.any_eq_true]
      constructor
      · intro z
        obtain ⟨x, hx⟩ := List.exists_mem_of_ne_nil _ z
        obtain ⟨h1, h2⟩ := List.mem_filter.mp hx
        exact ⟨x, h1, h2⟩
      · rintro ⟨x, h1, h2⟩ z
        have : x ∈ h.filter (loneB h) := List.mem_filter.mpr ⟨h1, h2⟩
        rw [z] at this
        cases this
    rw [← e5]
    cases h.filter (loneB h) with
    | nil => simp [PyData.eqv, PyData.eqvAll]
    | cons q0 l => simp [PyData.eqv, PyData.eqvAll]
end
end Cv

/-! Countveil, the law's own defs 6: _law_as_many. -/
namespace Cv
open PySem PySem.Spec PyProof.Rows L2
/-! ### slots forgotten -/
theorem wipe_get (σ : L2.St) (i : Nat) : ∀ vs : List Nat, (wipe σ vs)[i]? = if i ∈ vs then (σ[i]?).map (fun _ => none) else σ[i]?
  | [] => rfl
  | v :: vs => by
    show ((wipe σ vs).set v none)[i]? = _
    have ih := wipe_get σ i vs
    by_cases e : v = i
    · subst e
      rw [List.getElem?_set, if_pos rfl, wipe_length, if_pos List.mem_cons_self]
      by_cases h : v < σ.length
      · rw [if_pos h, List.getElem?_eq_getElem h]
        rfl
      · rw [if_neg h, List.getElem?_eq_none (by omega)]
        rfl
    · rw [List.getElem?_set, if_neg e, ih]
      by_cases m : i ∈ vs
      · rw [if_pos m, if_pos (List.mem_cons_of_mem _ m)]
      · rw [if_neg m, if_neg (fun z => by
          rcases List.mem_cons.mp z with z | z
          · exact e z.symm
          · exact m z)]
theorem wipe_idem (σ : L2.St) (vs : List Nat) : wipe (wipe σ vs) vs = wipe σ vs := by
  apply List.ext_getElem?
  intro i
  rw [wipe_get, wipe_get]
  by_cases m : i ∈ vs
  · cases σ[i]? <;> simp [m]
  · rw [if_neg m]
theorem wipe_set {σ : L2.St} {vs : List Nat} {v : Nat} {x : Option V} (h : v ∈ vs) : wipe (σ.set v x) vs = wipe σ vs := by
  apply List.ext_getElem?
  intro i
  rw [wipe_get, wipe_get]
  by_cases m : i ∈ vs
  · rw [if_pos m, if_pos m, List.getElem?_set]
    by_cases e : v = i
    · subst e
      rw [if_pos rfl]
      by_cases h : v < σ.length
      · rw [if_pos h, List.getElem?_eq_getElem h]
        rfl
      · rw [if_neg h, List.getElem?_eq_none (by omega)]
    · rw [if_neg e]
  · rw [if_neg m, if_neg m, List.getElem?_set, if_neg fun (z : v = i) => m (by rw [← z]; exact h)]
theorem wipe4 {σ : L2.St} {vs : List Nat} {a b c d : Nat} {x y z w : Option V} (h1 : a ∈ vs) (h2 : b ∈ vs) (h3 : c ∈ vs) (h4 : d ∈ vs) : wipe (((((wipe σ vs).set a x).set b y).set c z).set d w) vs = wipe σ vs := by
  rw [wipe_set h4, wipe_set h3, wipe_set h2, wipe_set h1, wipe_idem]
/-! ### data that never is the pot -/
theorem not_pair {H : Hp} {i : Int} {p : Pl} (d : DT H (.int i) (pD p)) : False := by
  obtain ⟨_, e, _⟩ := d.pair
  cases e
theorem not_guard {H : Hp} {i : Int} {q : Gd} (d : DT H (.int i) (gdD q)) : False := by
  obtain ⟨_, e, _⟩ := d.guard
  cases e
theorem Pot.tup_off {H : Hp} {st cl b : Addr} {n : Nat} {ys : List V} (p : Pot H st cl n) (h : H b = some (.tup ys)) : hid2 st cl H b = some (.tup ys) := by
  obtain ⟨ns, went, h1, h2, _⟩ := p.ex
  exact (hid2_at (ne_of h h1 fun z => by cases z) (ne_of h h2 fun z => by cases z)).trans h
theorem DTs.gls {H H' : Hp} (s : ∀ b ys, H b = some (.tup ys) → H' b = some (.tup ys)) : ∀ {l : List Gd} {ys : List V}, DTs H ys (l.map gdD) → DTs H' ys (l.map gdD)
  | [], _, .nil => .nil
  | q :: l, _, .cons h t => by
    obtain ⟨a, rfl, ha⟩ := h.guard
    exact .cons (DT.ofGuard (s _ _ ha)) (DTs.gls s t)
theorem hD_off {H : Hp} {st cl : Addr} {n : Nat} {v : V} {h : List Pl} (p : Pot H st cl n) (d : DT H v (hD h)) : DT (hid2 st cl H) v (hD h) := by
  obtain ⟨a, xs, rfl, ha, dx⟩ := d.inList
  obtain ⟨ns, went, h1, h2, h3, _⟩ := id p.ex
  have n1 : a ≠ st := fun z => by
    rw [z, h1] at ha
    cases ha
    cases h with
    | nil => cases dx
    | cons q0 h =>
      cases dx with
      | cons _ t =>
        cases h with
        | nil => cases t
        | cons q1 h =>
          cases t with
          | cons d2 _ => exact not_pair d2
  have n2 : a ≠ cl := fun z => by
    rw [z, h2] at ha
    cases ha
    cases ns with
    | nil => cases h3
    | cons m ns =>
      cases h with
      | nil => cases dx
      | cons q0 h =>
        cases dx with
        | cons d1 _ => exact not_pair d1
  exact .lst ((hid2_at n1 n2).trans ha) (DTs.pls (fun b ys hb => p.tup_off hb) dx)
theorem gdsD_off {H : Hp} {st cl : Addr} {n : Nat} {v : V} {gs : List Gd} (p : Pot H st cl n) (d : DT H v (gdsD gs)) : DT (hid2 st cl H) v (gdsD gs) := by
  obtain ⟨a, xs, rfl, ha, dx⟩ := d.inList
  obtain ⟨ns, went, h1, h2, h3, _⟩ := id p.ex
  have n1 : a ≠ st := fun z => by
    rw [z, h1] at ha
    cases ha
    cases gs with
    | nil => cases dx
    | cons q0 gs =>
      cases dx with
      | cons _ t =>
        cases gs with
        | nil => cases t
        | cons q1 gs =>
          cases t with
          | cons d2 _ => exact not_guard d2
  have n2 : a ≠ cl := fun z => by
    rw [z, h2] at ha
    cases ha
    cases ns with
    | nil => cases h3
    | cons m ns =>
      cases gs with
      | nil => cases dx
      | cons q0 gs =>
        cases dx with
        | cons d1 _ => exact not_guard d1
  exact .lst ((hid2_at n1 n2).trans ha) (DTs.gls (fun b ys hb => p.tup_off hb) dx)
theorem ODT.off {H : Hp} {st cl : Addr} {n : Nat} {v : V} {o : Option (List Pl)} (p : Pot H st cl n) (d : ODT H v o) : ODT (hid2 st cl H) v o := by
  cases o with
  | none => exact d
  | some h => exact hD_off p d
theorem ODT.ext {H H' : Hp} {v : V} {o : Option (List Pl)} (d : ODT H v o) (e : Ext H H') : ODT H' v o := by
  cases o with
  | none => exact d
  | some h => exact DT.ext e d
/-! ### guards turned, in order -/
theorem alike_gd (a b : Gd) : PySem.W.alike (gdD a) (gdD b) = true := by simp [gdD, PySem.W.alike, PySem.W.alikeAll]
theorem dep_gd (a : Gd) : (gdD a).depth ≤ 8 := by simp [gdD, PyData.depth, PyData.depthAll]
theorem dataLt_gd {a b : Gd} (h : Plt (a.1, a.2.1) (b.1, b.2.1)) : PySem.W.dataLt (gdD a) (gdD b) = true := by
  have ai : ∀ i j : Int, PySem.W.alike (.int i) (.int j) = true := fun i j => by simp [PySem.W.alike]
  show PyProof.Rows.lexLt PyProof.Rows.itemOrd (PySem.W.keyToksAll _) (PySem.W.keyToksAll _) = true
  rw [PySem.W.dataLt_cons (ai _ _)]
  have lt : ∀ i j : Int, i < j → PySem.W.dataLt (.int i) (.int j) = true := fun i j h => by
    show PyProof.Rows.lexLt PyProof.Rows.itemOrd [.inl i] [.inl j] = true
    simp [PyProof.Rows.lexLt, PyProof.Rows.itemLt, h]
  rcases h with h | ⟨h1, h2⟩
  · have h : a.1 < b.1 := h
    rw [if_neg (by simp [PyData.eqv]; omega)]
    exact lt _ _ (by omega)
  · have h1 : a.1 = b.1 := h1
    have h2 : a.2.1 < b.2.1 := h2
    rw [if_pos (by simp [PyData.eqv]; omega), PySem.W.dataLt_cons (ai _ _), if_neg (by simp [PyData.eqv]; omega)]
    exact lt _ _ (by omega)
theorem plt_total {a b : Pl} (h : ¬ Plt a b) (n : a ≠ b) : Plt b a := by
  obtain ⟨a1, a2⟩ := a
  obtain ⟨b1, b2⟩ := b
  simp only [Plt, Prod.mk.injEq, ne_eq, not_and] at *
  omega
def gdPl (q : Gd) : Pl := (q.1, q.2.1)
def turnedG (gs : List Gd) : List Gd := (gs.map gdT).mergeSort (PySem.W.dataLe false gdD)
theorem mem_turnedG {gs : List Gd} {q : Gd} : q ∈ turnedG gs ↔ gdT q ∈ gs := by
  unfold turnedG
  rw [List.mem_mergeSort, List.mem_map]
  constructor
  · rintro ⟨a, ha, rfl⟩
    exact ha
  · intro h
    exact ⟨gdT q, h, rfl⟩
theorem turnedG_ok {r c : Nat} {gs : List Gd} (ok : GdsOk r c gs) : GdsOk c r (turnedG gs) where
  len := by
    unfold turnedG
    rw [List.length_mergeSort, List.length_map]
    exact ok.len
  ok := fun q hq => by
    have h := ok.ok _ (mem_turnedG.mp hq)
    exact ⟨h.k, h.i, h.b, h.a, h.s⟩
  rise := by
    have t : PySem.W.TotalLe (PySem.W.dataLe false gdD) := PySem.W.sortLe_total (PyProof.Rows.listOrd PyProof.Rows.itemOrd) false fun (b : Gd) => PySem.W.keyToks (gdD b)
    have p : (turnedG gs).Pairwise fun a b => PySem.W.dataLe false gdD a b = true := by
      refine List.pairwise_mergeSort (fun a b c h1 h2 => t.trans a b c h1 h2) (fun a b => ?_) _
      rw [Bool.or_eq_true]
      exact t.total a b
    have nd : ((gs.map gdT).map gdPl).Nodup := by
      rw [List.map_map, List.Nodup, List.pairwise_map]
      refine ok.rise.imp fun {a b} h z => ?_
      have z1 : a.2.1 = b.2.1 := (Prod.mk.inj z).1
      have z2 : a.1 = b.1 := (Prod.mk.inj z).2
      simp only [Plt] at h
      omega
    have nd2 : ((turnedG gs).map gdPl).Nodup := (((List.mergeSort_perm (gs.map gdT) (PySem.W.dataLe false gdD)).map gdPl).nodup_iff).mpr nd
    rw [List.Nodup, List.pairwise_map] at nd2
    refine (p.and nd2).imp fun {a b} h => ?_
    obtain ⟨h1, h2⟩ := h
    by_cases e : Plt (a.1, a.2.1) (b.1, b.2.1)
    · exact e
    · have h3 := dataLt_gd (a := b) (b := a) (plt_total e h2)
      have h4 : PySem.W.dataLe false gdD a b = !PySem.W.dataLt (gdD b) (gdD a) := rfl
      rw [h4, h3] at h1
      cases h1
abbrev sLMany : Stmt := topS 44
abbrev scpK : Scope := { kind := ScopeKind.function, names := [(Str.ofString ".0", NameKind.local), (Str.ofString "_law_k", NameKind.cell), (Str.ofString "_law_block_here", NameKind.cell)], isGenerator := false, isCoroutine := false }
abbrev scpR : Scope := { kind := ScopeKind.function, names := [(Str.ofString ".0", NameKind.local), (Str.ofString "_law_row", NameKind.local), (Str.ofString "_law_by", NameKind.cell)], isGenerator := false, isCoroutine := false }
theorem scLMany : FnScope ["_law_left_here", "_law_block_here", "_law_guards_here", "_law_many", "_law_flat", "_law_other", "_law_by", "_law_wide", "_law_great", "_law_k", "_law_row", "_law_i", "_law_less", "_law_more", "_law_one"] ["_law_left_here", "_law_block_here", "_law_guards_here", "_law_many"] (defScope sLMany) := ⟨rfl, rfl, rfl, by decide +kernel, rfl, by decide +kernel, by decide +kernel⟩
def manyV : Option (List Pl) → V
  | none => .non
  | some h => .int (h.length : Nat)
def spLMany (T : List (Addr × Str)) : Sp := fun vs H Q _ => ∃ (st cl : Addr) (n r c : Nat) (g : Mat) (gs : List Gd) (o : Option (List Pl)) (x y : V), vs = [.ref st, x, y, manyV o] ∧ Pot H st cl n ∧ n ≤ 90000 ∧ DT (hid2 st cl H) x (gridD r c g) ∧ DT (hid2 st cl H) y (gdsD gs) ∧ Sm r c g ∧ GdsOk r c gs ∧ Bnd gs ∧ LamX.Tabs T H ∧
  First (listsOf (places r c)) (fun h => Safe r c g h gs) o ∧ ∀ (H' : Hp), Ext (hid2 st cl H) (hid2 st cl H') → LamX.Tabs T H' → Pot H' st cl (n + 100) → Q (.bl true) H'
section
variable {P : Program} {w : PySem.World} {K : PySem.W.Frag} {mg : Str → Option Value} {base : Heap}
theorem ok_lmany {f : Addr} {fd : FuncData} {T : List (Addr × Str)} (F : Fun K "_law_as_many" "_law_as_many" sLMany f fd) (G : Gb mg) (hD : Has P w K mg base 1 "_law_draw" ["_law_left_here", "_law_out_of"] spLDraw) (hW : Has P w K mg base 7 "fewest" ["cells", "guards"] (spFewest T)) :
    FnOk P w K mg base CX0 8 f fd ["_law_left_here", "_law_block_here", "_law_guards_here", "_law_many"] (spLMany T) := by
  obtain ⟨fD, fdD, gD, kD, bD, oD⟩ := hD.ex
  obtain ⟨fW, fdW, gW, kW, bW, oW⟩ := hW.ex
  refine F.ok scLMany (fun vs H Q E h => ?_) (fun cdv A outer s H vs Q E hr h => ?_)
  · obtain ⟨st, cl, n, r, c, g, gs, o, x, y, rfl, _⟩ := h
    rfl
  · obtain ⟨st, cl, n, r, c, g, gs, o, x, y, rfl, p, hn, dx, dy, sm, ok, hB, tabs, hF, q⟩ := h
    have hu : (A.deeper (envOfC "_law_as_many" (defScope sLMany) s.heap.objs.size f cdv)).units + 64 < cLine := by
      have := hr.un
      omega
    refine ⟨_, pss_cons (ps_setLc (i := 4) (own := [("_law_k", 9)]) (g := gName 9) (tt := tYes) (te := tLc (iList K (tVar 1)) (gName 10) tYes (tOp (rIxL K) (tVar 10) (tVar 9)) [10]) rfl scLMany.nd rfl rfl (sw_true rfl rfl rfl (by decide +kernel)) (pi_range1 (by rfl) G.range (pa_cons (pe_callB cr_len (by rfl) G.len b_len (pa_cons (pe_ix ix_list (pv 1) pe_int (fun _ _ => rfl)) pa_nil)) pa_nil))
          (blkOk_by (N := ["_law_left_here", "_law_block_here", "_law_guards_here", "_law_many", "_law_flat", "_law_other", "_law_by", "_law_wide", "_law_great", "_law_k", "_law_row", "_law_i", "_law_less", "_law_more", "_law_one"]) (sc := defScope sLMany) (by decide +kernel))
          (fun _ _ _ _ _ => pg_name (i := 9) scLMany.nd rfl (Or.inr rfl)) (fun _ _ _ _ _ => pts_nil)
          (fun _ _ _ _ _ => pe_lc (own := [("_law_row", 10)]) (g := gName 10) (tt := tYes) (te := tOp (rIxL K) (tVar 10) (tVar 9)) rfl scLMany.nd (pi_list (pv 1)) (blkOk_by (N := ["_law_left_here", "_law_block_here", "_law_guards_here", "_law_many", "_law_flat", "_law_other", "_law_by", "_law_wide", "_law_great", "_law_k", "_law_row", "_law_i", "_law_less", "_law_more", "_law_one"]) (sc := scpK) (by decide +kernel))
            (fun _ _ _ _ _ => pg_name (i := 10) scLMany.nd rfl (Or.inl rfl)) (fun _ _ _ _ _ => pts_nil) (fun _ _ _ _ _ => pe_ix ix_list (pv 10) (pv 9) (fun _ _ => rfl))))
      (pss_cons (ps_set (i := 5) scLMany.nd rfl (.inl rfl) (pe_call oW hr (by rfl) gW kW bW .nil pass0 (pa_cons (pv 4) (pa_cons (pe_callB (cr_sortedE (enc := gdD) hu) (by rfl) G.sorted b_sorted (pa_cons (pe_lc (own := [("_law_i", 11), ("_law_k", 9), ("_law_less", 12), ("_law_more", 13)]) (g := gTup K 4 (gCons (gName 11) (gCons (gName 9) (gCons (gName 12) (gCons (gName 13) gNil))))) (tt := tYes) rfl scLMany.nd (pi_list (pv 2))
            (blkOk_by (N := ["_law_left_here", "_law_block_here", "_law_guards_here", "_law_many", "_law_flat", "_law_other", "_law_by", "_law_wide", "_law_great", "_law_k", "_law_row", "_law_i", "_law_less", "_law_more", "_law_one"]) (sc := defScope sLMany) (by decide +kernel))
            (fun _ _ _ _ _ => pg_tup rfl (pgs_cons (pg_name (i := 11) scLMany.nd rfl (Or.inl rfl)) (pgs_cons (pg_name (i := 9) scLMany.nd rfl (Or.inl rfl)) (pgs_cons (pg_name (i := 12) scLMany.nd rfl (Or.inl rfl)) (pgs_cons (pg_name (i := 13) scLMany.nd rfl (Or.inl rfl)) pgs_nil))))) (fun _ _ _ _ _ => pts_nil) (fun _ _ _ _ _ => pe_tup (pa_cons (pv 9) (pa_cons (pv 11) (pa_cons (pv 12) (pa_cons (pv 13) pa_nil)))))) pa_nil)) pa_nil))))
      (pss_cons (ps_set (i := 6) scLMany.nd rfl (.inr rfl) (pe_op op_add pe_int (pe_call oD (hr.mono (by decide)) (by rfl) gD kD bD .nil pass0 (pa_cons (pv 0) (pa_cons pe_int pa_nil)))))
      (pss_cons (ps_setLc (i := 7) (own := [("_law_i", 11), ("_law_k", 9), ("_law_less", 12), ("_law_more", 13)]) (g := gTup K 4 (gCons (gName 11) (gCons (gName 9) (gCons (gName 12) (gCons (gName 13) gNil))))) (tt := tYes) rfl scLMany.nd rfl rfl (sw_true rfl rfl rfl (by decide +kernel)) (pi_list (pv 2))
            (blkOk_by (N := ["_law_left_here", "_law_block_here", "_law_guards_here", "_law_many", "_law_flat", "_law_other", "_law_by", "_law_wide", "_law_great", "_law_k", "_law_row", "_law_i", "_law_less", "_law_more", "_law_one"]) (sc := defScope sLMany) (by decide +kernel))
            (fun _ _ _ _ _ => pg_tup rfl (pgs_cons (pg_name (i := 11) scLMany.nd rfl (Or.inl rfl)) (pgs_cons (pg_name (i := 9) scLMany.nd rfl (Or.inl rfl)) (pgs_cons (pg_name (i := 12) scLMany.nd rfl (Or.inl rfl)) (pgs_cons (pg_name (i := 13) scLMany.nd rfl (Or.inl rfl)) pgs_nil))))) (fun _ _ _ _ _ => pts_nil) (fun _ _ _ _ _ => pe_tup (pa_cons (pv 11) (pa_cons (pv 9) (pa_cons (pe_op op_mul (pv 6) (pv 12)) (pa_cons (pe_op op_mul (pv 6) (pv 13)) pa_nil))))))
      (pss_cons (ps_set (i := 8) scLMany.nd rfl (.inl rfl) (pe_call oW hr (by rfl) gW kW bW .nil pass0 (pa_cons (pe_lc (own := [("_law_row", 10)]) (g := gName 10) (tt := tYes) (te := tLc (iList K (tVar 10)) (gName 14) tYes (tOp (rI CMul fun i j => .int (i * j)) (tVar 6) (tVar 14)) [14]) rfl scLMany.nd (pi_list (pv 1))
            (blkOk_by (N := ["_law_left_here", "_law_block_here", "_law_guards_here", "_law_many", "_law_flat", "_law_other", "_law_by", "_law_wide", "_law_great", "_law_k", "_law_row", "_law_i", "_law_less", "_law_more", "_law_one"]) (sc := defScope sLMany) (by decide +kernel))
            (fun _ _ _ _ _ => pg_name (i := 10) scLMany.nd rfl (Or.inl rfl)) (fun _ _ _ _ _ => pts_nil)
            (fun _ _ _ _ _ => pe_lc (own := [("_law_one", 14)]) (g := gName 14) (tt := tYes) (te := tOp (rI CMul fun i j => .int (i * j)) (tVar 6) (tVar 14)) rfl scLMany.nd (pi_list (pv 10)) (blkOk_by (N := ["_law_left_here", "_law_block_here", "_law_guards_here", "_law_many", "_law_flat", "_law_other", "_law_by", "_law_wide", "_law_great", "_law_k", "_law_row", "_law_i", "_law_less", "_law_more", "_law_one"]) (sc := scpR) (by decide +kernel))
              (fun _ _ _ _ _ => pg_name (i := 14) scLMany.nd rfl (Or.inl rfl)) (fun _ _ _ _ _ => pts_nil) (fun _ _ _ _ _ => pe_op op_mul (pv 6) (pv 14)))) (pa_cons (pv 7) pa_nil))))
      (pss_cons (ps_if (pt_cmp (pc_isN (pv 3))) (pss_one (ps_ret (pe_and (pe_cmp (pc_isN (pv 5)) rfl) (pe_one (pe_cmp (pc_isN (pv 8)) rfl))))) pss_nil)
      (pss_one (ps_ret (pe_and (pe_cmp (pc_notN (pv 5)) rfl) (pe_and (pe_cmp (pc_notN (pv 8)) rfl) (pe_and (pe_cmpR op_eq (pe_callB cr_len (by rfl) G.len b_len (pa_cons (pv 5) pa_nil)) (pv 3) (nomark _)) (pe_one (pe_cmpR op_eq (pe_callB cr_len (by rfl) G.len b_len (pa_cons (pv 8) pa_nil)) (pv 3) (nomark _))))))))))))), ?_⟩
    have big : (1000 : Nat) < sizeLine := by
      rw [sizeLine_eq]
      decide
    have r4 := sm.r4
    have c4 := sm.c4
    have rc : r * c ≤ 4 * 4 := Nat.mul_le_mul r4 c4
    have cr : c * r ≤ 4 * 4 := Nat.mul_le_mul c4 r4
    have hvg : ∀ q, q ∈ gs → q.1 < r ∧ q.2.1 < c := fun q hq => ⟨(ok.ok q hq).i, (ok.ok q hq).k⟩
    have l8 := ok.len
    have dxH := dx.same hid2_same
    have dyH := dy.same hid2_same
    obtain ⟨ba, rows, rfl, hba, hlen, hrow⟩ := id dxH.grid
    obtain ⟨b0, e0, h0⟩ := hrow 0 sm.r0
    obtain ⟨ga, gxs, rfl, hga, hgl, _, hgat⟩ := id (DT.list (f := gdD) dyH)
    -- flat
    refine ⟨_, rfl, ba, _, _, _, rfl, rfl, SqL.of hba, atI_nat (j := 0) e0, b0, _, rfl, .inl (SqL.of h0), c, (by rw [List.length_map, List.length_map, List.length_range]), by omega, by omega, fun D hD => ?_⟩
    refine lcD_range (n := c) (((List.range c).map fun k => rowD r (tr g k)).map some) (by rw [List.length_map, List.length_map, List.length_range]) (by rw [List.length_map, List.length_map, List.length_range]; omega) hD (fun k o' H' Kt Kf ho hk s1 s1' n1 hn1 hs1 => ?_) (fun ys H1 s1 h1 h2 => ?_)
    · obtain ⟨k0, ek0, rfl⟩ := os_map ho
      have ek : k0 = k := by
        rw [List.getElem?_range hk] at ek0
        exact (Option.some.inj ek0).symm
      subst ek
      refine ⟨rfl, ?_⟩
      refine ⟨_, rfl, ba, rfl, ⟨_, SqL.of (s1' _ _ hba)⟩, fun D2 hD2 => ?_⟩
      refine lcD_list (s1' _ _ hba) (((List.range r).map fun i => PyData.int (g i k0)).map some) (by rw [List.length_map, List.length_map, List.length_range, hlen]) (by rw [List.length_map, List.length_map, List.length_range]; omega) hD2 (fun i o2 x2 H2 Kt2 Kf2 ho2 hx2 s2 s2' n2 hn2 hs2 => ?_) (fun zs H2 s2 h3 h4 => ?_)
      · obtain ⟨i0, ei0, rfl⟩ := os_map ho2
        have hi : i < r := by
          have := (List.getElem?_eq_some_iff.mp ei0).1
          rwa [List.length_range] at this
        have ei : i0 = i := by
          rw [List.getElem?_range hi] at ei0
          exact (Option.some.inj ei0).symm
        subst ei
        obtain ⟨b, eb, hb⟩ := hrow i0 hi
        rw [hx2] at eb
        cases eb
        refine ⟨rfl, ?_⟩
        exact ⟨_, rfl, _, rfl, b, _, _, _, rfl, rfl, SqL.of (s2' _ _ (s1' _ _ hb)), atI_nat (by rw [List.getElem?_map, map_range_get hk]; rfl), hs2 _ rfl _ _ (Same.refl _) (.int _)⟩
      · rw [filterMap_some, show (List.range r).map (fun i => PyData.int (g i k0)) = ((List.range r).map (tr g k0)).map PyData.int by rw [List.map_map]; rfl] at h4
        rw [h4.toInts] at h3
        have nD : D2 ≠ D := fun z => by
          rw [z] at hD2
          exact n1 hD2
        exact hs1 _ rfl _ _ s2 (DT.ofRow ((hide_ne nD).trans h3))
    rw [filterMap_some] at h2
    have dF : DT H1 (.ref D) (gridD c r (tr g)) := .lst h1 (h2.same hide_same)
    show tSeq _ _ _ [some (.ref st), some (.ref ba), some (.ref ga), some (manyV o), some (.ref D), none, none, none, none, none, none, none, none, none, none] H1
    -- fewest of the turned
    refine ⟨_, rfl, _, rfl, ga, rfl, ⟨_, SqL.of (s1 _ _ hga)⟩, fun D3 hD3 => ?_⟩
    refine lcD_list (s1 _ _ hga) (((gs.map gdT).map gdD).map some) (by rw [List.length_map, List.length_map, List.length_map, hgl]) (by rw [List.length_map, List.length_map, List.length_map]; omega) hD3 (fun i o2 x2 H2 Kt2 Kf2 ho2 hx2 s2 s2' n2 hn2 hs2 => ?_) (fun zs H2 s2 h3 h4 => ?_)
    · obtain ⟨q1, eq1, rfl⟩ := os_map ho2
      obtain ⟨q0, eq0, rfl⟩ := map_get eq1
      obtain ⟨x', ex, dx'⟩ := hgat i q0 eq0
      rw [hx2] at ex
      cases ex
      obtain ⟨b, rfl, hb⟩ := dx'.guard
      refine ⟨b, _, rfl, SqT.of (s2' _ _ (s1 _ _ hb)), rfl, _, _, rfl, _, _, rfl, _, _, rfl, _, _, rfl, rfl, wipe4 (by decide) (by decide) (by decide) (by decide), ?_⟩
      refine ⟨_, rfl, _, rfl, _, rfl, _, rfl, (by show 4 ≤ sizeLine; decide), fun t nt => ?_⟩
      have tD : t ≠ D3 := fun z => by
        rw [z] at nt
        exact n2 nt
      exact hs2 _ rfl _ _ (same_new nt) (DT.ofGuard (q := gdT q0) ((hide_ne tD).trans upd_same))
    rw [filterMap_some] at h4
    refine ⟨D3, zs, gs.map gdT, rfl, h3, h4.same hide_same, PySem.W.AllAlike.of alike_gd, PySem.W.Sortable.tuples (fun b => ⟨_, _, rfl⟩), fun b _ => dep_gd b, fun p4 ws np4 dws => ?_⟩
    have dws : DTs H2 ws ((turnedG gs).map gdD) := dws
    have sp4 := same_new (o := .lst ws) np4
    have s04 := (s1.trans s2).trans sp4
    refine ⟨c, r, tr g, turnedG gs, _, _, rfl, dF.same (s2.trans sp4), .lst upd_same (dws.same sp4), ⟨sm.c0, sm.r0, by omega, by omega, fun i k hi hk => sm.lo k i hk hi, fun i k hi hk => by have := sm.hi k i hk hi; show g k i ≤ _; omega⟩, turnedG_ok ok, by omega, tabs.ext s04, fun H6 v6 o1 e6 t6 F1 d6 => ?_⟩
    have e06 : Ext H H6 := (Ext.of s04).trans e6
    have p6 := p.ext e06
    have d6' := ODT.off p6 d6
    -- by
    refine ⟨_, rfl, st, cl, n, _, rfl, p6, by omega, by decide, by decide, fun H7 x7 d7 p7 x70 x71 => ⟨_, _, rfl, rfl, ?_⟩⟩
    obtain ⟨by_, eby⟩ : ∃ b : Int, b = 1 + x7 := ⟨_, rfl⟩
    dsimp only
    rw [← eby]
    show tSeq _ _ _ [some (.ref st), some (.ref ba), some (.ref ga), some (manyV o), some (.ref D), some v6, some (.int by_), none, none, none, none, none, none, none, none] H7
    have by1 : 0 < by_ := by omega
    have by100 : by_ ≤ 100 := by omega
    have e07 : Ext (hid2 st cl H) (hid2 st cl H7) := (hid2_ext e06).trans (.of d7.same)
    have t7 := d7.tabs p6 t6
    have dx7 : DT H7 (.ref ba) (gridD r c g) := (dx.ext e07).same hid2_same
    have dy7 : DT H7 (.ref ga) (gdsD gs) := (dy.ext e07).same hid2_same
    have d67 : ODT H7 v6 o1 := (d6'.ext (.of d7.same)).ext (.of hid2_same)
    obtain ⟨ga7, gxs7, eg7, hga7, hgl7, _, hgat7⟩ := id (DT.list (f := gdD) dy7)
    cases eg7
    obtain ⟨ba7, rows7, eb7, hba7, hlen7, hrow7⟩ := id dx7.grid
    cases eb7
    have cm : ∀ z : Int, CMul by_ z := fun z => .inl ⟨by omega, by omega⟩
    refine ⟨_, rfl, ga, rfl, ⟨_, SqL.of hga7⟩, fun D4 hD4 => ?_⟩
    refine lcD_list hga7 (((gs.map (gdX by_)).map gdD).map some) (by rw [List.length_map, List.length_map, List.length_map, hgl7]) (by rw [List.length_map, List.length_map, List.length_map]; omega) hD4 (fun i o2 x2 H8 Kt2 Kf2 ho2 hx2 s8 s8' n8 hn8 hs8 => ?_) (fun ws4 H8 s8 h5 h6 => ?_)
    · obtain ⟨q1, eq1, rfl⟩ := os_map ho2
      obtain ⟨q0, eq0, rfl⟩ := map_get eq1
      obtain ⟨x', ex, dx'⟩ := hgat7 i q0 eq0
      rw [hx2] at ex
      cases ex
      obtain ⟨b, rfl, hb⟩ := dx'.guard
      refine ⟨b, _, rfl, SqT.of (s8' _ _ hb), rfl, _, _, rfl, _, _, rfl, _, _, rfl, _, _, rfl, rfl, wipe4 (by decide) (by decide) (by decide) (by decide), ?_⟩
      refine ⟨_, rfl, _, rfl, _, rfl, _, rfl, _, _, rfl, rfl, cm _, _, rfl, _, rfl, _, _, rfl, rfl, cm _, (by show 4 ≤ sizeLine; decide), fun t nt => ?_⟩
      have tD : t ≠ D4 := fun z => by
        rw [z] at nt
        exact n8 nt
      exact hs8 _ rfl _ _ (same_new nt) (DT.ofGuard (q := gdX by_ q0) ((hide_ne tD).trans upd_same))
    rw [filterMap_some] at h6
    have dW : DT H8 (.ref D4) (gdsD (gs.map (gdX by_))) := .lst h5 (h6.same hide_same)
    show tSeq _ _ _ [some (.ref st), some (.ref ba), some (.ref ga), some (manyV o), some (.ref D), some v6, some (.int by_), some (.ref D4), none, none, none, none, none, none, none] H8
    -- great
    refine ⟨_, rfl, ba, rfl, ⟨_, SqL.of (s8 _ _ hba7)⟩, fun D5 hD5 => ?_⟩
    refine lcD_list (s8 _ _ hba7) (((List.range r).map fun i => rowD c fun k => by_ * g i k).map some) (by rw [List.length_map, List.length_map, List.length_range, hlen7]) (by rw [List.length_map, List.length_map, List.length_range]; omega) hD5 (fun i o2 x2 H9 Kt Kf ho2 hx2 s9 s9' n9 hn9 hs9 => ?_) (fun ws5 H9 s9 h7 h8 => ?_)
    · obtain ⟨i0, ei0, rfl⟩ := os_map ho2
      have hi : i < r := by
        have := (List.getElem?_eq_some_iff.mp ei0).1
        rwa [List.length_range] at this
      have ei : i0 = i := by
        rw [List.getElem?_range hi] at ei0
        exact (Option.some.inj ei0).symm
      subst ei
      obtain ⟨b, eb, hb⟩ := hrow7 i0 hi
      rw [hx2] at eb
      cases eb
      have hb9 := s9' _ _ (s8 _ _ hb)
      refine ⟨rfl, ?_⟩
      refine ⟨_, rfl, b, rfl, ⟨_, SqL.of hb9⟩, fun D6 hD6 => ?_⟩
      refine lcD_list hb9 (((List.range c).map fun k => PyData.int (by_ * g i0 k)).map some) (by rw [List.length_map, List.length_map, List.length_range, List.length_map, List.length_map, List.length_range]) (by rw [List.length_map, List.length_map, List.length_range]; omega) hD6 (fun k o3 x3 H10 Kt2 Kf2 ho3 hx3 s10 s10' n10 hn10 hs10 => ?_) (fun zs6 H10 s10 h9 h10 => ?_)
      · obtain ⟨k0, ek0, rfl⟩ := os_map ho3
        have hk : k < c := by
          have := (List.getElem?_eq_some_iff.mp ek0).1
          rwa [List.length_range] at this
        have ek : k0 = k := by
          rw [List.getElem?_range hk] at ek0
          exact (Option.some.inj ek0).symm
        subst ek
        rw [List.getElem?_map, map_range_get hk] at hx3
        obtain rfl : V.int (g i0 k0) = x3 := Option.some.inj hx3
        refine ⟨rfl, ?_⟩
        exact ⟨_, rfl, _, rfl, _, _, rfl, rfl, cm _, hs10 _ rfl _ _ (Same.refl _) (.int _)⟩
      · rw [filterMap_some, show (List.range c).map (fun k => PyData.int (by_ * g i0 k)) = ((List.range c).map fun k => by_ * g i0 k).map PyData.int by rw [List.map_map]; rfl] at h10
        rw [h10.toInts] at h9
        have nD : D6 ≠ D5 := fun z => by
          rw [z] at hD6
          exact n9 hD6
        exact hs9 _ rfl _ _ s10 (DT.ofRow (g := fun k => by_ * g i0 k) ((hide_ne nD).trans h9))
    rw [filterMap_some] at h8
    have dG : DT H9 (.ref D5) (gridD r c fun i k => by_ * g i k) := .lst h7 (h8.same hide_same)
    have s79 := s8.trans s9
    have nng : ∀ i k, i < r → k < c → 0 ≤ by_ * g i k ∧ by_ * g i k ≤ 10 ^ 9 := fun i k hi hk => by
      have h1 := sm.lo i k hi hk
      have h2 := sm.hi i k hi hk
      refine ⟨Int.mul_nonneg (by omega) h1, ?_⟩
      have h3 : by_ * g i k ≤ 100 * 30 := Int.mul_le_mul by100 h2 h1 (by decide)
      omega
    refine ⟨_, rfl, r, c, fun i k => by_ * g i k, gs.map (gdX by_), _, _, rfl, dG, dW.same s9, ⟨sm.r0, sm.c0, by omega, by omega, fun i k hi hk => (nng i k hi hk).1, fun i k hi hk => (nng i k hi hk).2⟩, ?_, by omega, t7.ext s79, fun H10 v10 o2 e10 t10 F2 d10 => ?_⟩
    · refine ⟨by rw [List.length_map]; exact l8, fun q' hq => ?_, ?_⟩
      · obtain ⟨q0, hq0, rfl⟩ := List.mem_map.mp hq
        have h := ok.ok q0 hq0
        refine ⟨h.i, h.k, Int.mul_nonneg (by omega) h.b, Int.mul_nonneg (by omega) h.a, ?_⟩
        show 0 < by_ * q0.2.2.1 + by_ * q0.2.2.2
        rw [← Int.mul_add]
        exact Int.mul_pos by1 h.s
      · rw [List.pairwise_map]
        exact ok.rise
    have e710 : Ext H7 H10 := (Ext.of s79).trans e10
    have fin : Q (.bl true) H10 := q H10 (e07.trans (hid2_ext e710)) t10 ((p7.ext e710).mono (by omega))
    have d610 := d67.ext e710
    have len1 : o.map List.length = o1.map List.length := turned_len (listsOf_byLen _) (listsOf_byLen _) (fun h => mem_listsOf) (fun h => mem_listsOf) hvg (fun q => mem_turnedG) hF F1
    have eq2 : o = o2 := times_len by1 (listsOf_byLen _) (fun h => mem_listsOf) sm.lo hF F2
    subst eq2
    cases o with
    | none =>
      cases o1 with
      | some h1 => cases len1
      | none =>
        obtain rfl : v6 = V.non := d610
        obtain rfl : v10 = V.non := d10
        refine ⟨_, rfl, _, rfl, iteT ?_⟩
        exact ⟨_, rfl, true, rfl, iteT ⟨_, rfl, fin⟩⟩
    | some h =>
      cases o1 with
      | none => cases len1
      | some h1 =>
        have len1 : h.length = h1.length := Option.some.inj len1
        obtain ⟨a6, xs6, rfl, ha6, hl6, _⟩ := DT.list (f := pD) (show DT H10 v6 (Cv.hD h1) from d610)
        obtain ⟨a10, xs10, rfl, ha10, hl10, _⟩ := DT.list (f := pD) (show DT H10 v10 (Cv.hD h) from d10)
        refine ⟨_, rfl, _, rfl, iteF ?_⟩
        refine ⟨_, rfl, true, rfl, iteT ⟨_, rfl, true, rfl, iteT ⟨_, rfl, a6, _, rfl, .inl (SqL.of ha6), _, rfl, rfl, true, ?_, iteT ⟨_, rfl, a10, _, rfl, .inl (SqL.of ha10), _, rfl, rfl, ?_⟩⟩⟩⟩
        · exact congrArg V.bl (decide_eq_true (by rw [hl6, ← len1]; rfl))
        · exact q_bl (Q := Q) (decide_eq_true (by rw [hl10]; rfl)) fin
end
end Cv

/-! Countveil, the law's own defs 7: the repr of cells and guards; lists cut. -/
namespace Cv
open PySem PySem.Spec PyProof.Rows L2
theorem small_shown : ∀ n : Fin 32, (PyData.shown (.int (n.val : Nat))).length ≤ 13 ∧ PyData.weight (.int (n.val : Nat)) ≤ 5 := by decide +kernel
theorem small_int {i : Int} (h0 : 0 ≤ i) (h1 : i ≤ 31) : PyData.intsShort 13 (.int i) = true ∧ PyData.weight (.int i) ≤ 5 ∧ PyData.showable (.int i) = true := by
  obtain ⟨n, rfl⟩ : ∃ n : Nat, i = (n : Nat) := ⟨i.toNat, by omega⟩
  have h := small_shown ⟨n, by omega⟩
  refine ⟨?_, h.2, ?_⟩
  · simp only [PyData.intsShort, decide_eq_true_eq]
    exact h.1
  · simp only [PyData.showable, decide_eq_true_eq]
    have h2 : Nat.log2 n ≤ n := Nat.log2_le_self n
    have : ((n : Nat) : Int).natAbs = n := rfl
    rw [this]
    omega
/-- data that is told in short -/
structure Tiny (d : PyData) (w : Nat) : Prop where
  lay : d.canLay0 = true
  sh : d.intsShort 13 = true
  show_ : d.showable = true
  wt : d.weight ≤ w
structure TinyAll (ds : List PyData) (w : Nat) : Prop where
  lay : PyData.canLayAll0 ds = true
  sh : PyData.intsShortAll 13 ds = true
  show_ : PyData.showableAll ds = true
  wt : PyData.weightAll ds ≤ ds.length * (w + 1)
theorem TinyAll.of {w : Nat} : ∀ {ds : List PyData}, (∀ d, d ∈ ds → Tiny d w) → TinyAll ds w
  | [], _ => ⟨by simp [PyData.canLayAll0], by simp [PyData.intsShortAll], by simp [PyData.showableAll], by simp [PyData.weightAll]⟩
  | d :: ds, h => by
    have h1 := h d List.mem_cons_self
    have h2 := TinyAll.of (ds := ds) fun e he => h e (List.mem_cons_of_mem _ he)
    refine ⟨by simp [PyData.canLayAll0, h1.lay, h2.lay], by simp [PyData.intsShortAll, h1.sh, h2.sh], by simp [PyData.showableAll, h1.show_, h2.show_], ?_⟩
    have h3 := h1.wt
    have h4 := h2.wt
    simp only [PyData.weightAll, List.length_cons]
    rw [Nat.succ_mul]
    omega
theorem TinyAll.list {ds : List PyData} {w n : Nat} (t : TinyAll ds w) (h : ds.length * (w + 1) ≤ n) : Tiny (.list ds) n :=
  ⟨by simp only [PyData.canLay0]; exact t.lay, by simp only [PyData.intsShort]; exact t.sh, by simp only [PyData.showable]; exact t.show_, by simp only [PyData.weight]; exact Nat.le_trans t.wt h⟩
theorem TinyAll.tuple {ds : List PyData} {w n : Nat} (t : TinyAll ds w) (h : ds.length * (w + 1) ≤ n) : Tiny (.tuple ds) n :=
  ⟨by simp only [PyData.canLay0]; exact t.lay, by simp only [PyData.intsShort]; exact t.sh, by simp only [PyData.showable]; exact t.show_, by simp only [PyData.weight]; exact Nat.le_trans t.wt h⟩
theorem tiny_int {i : Int} (h0 : 0 ≤ i) (h1 : i ≤ 31) : Tiny (.int i) 5 := by
  obtain ⟨a, b, c⟩ := small_int h0 h1
  exact ⟨by simp [PyData.canLay0], a, c, b⟩
theorem tiny_grid {r c : Nat} {g : Mat} (sm : Sm r c g) : Tiny (gridD r c g) 1000 := by
  refine TinyAll.list (w := 24) (TinyAll.of fun d hd => ?_) (by have := sm.r4; rw [List.length_map, List.length_range]; omega)
  obtain ⟨i, hi, rfl⟩ := List.mem_map.mp hd
  refine TinyAll.list (w := 5) (TinyAll.of fun e he => ?_) (by have := sm.c4; rw [List.length_map, List.length_range]; omega)
  obtain ⟨k, hk, rfl⟩ := List.mem_map.mp he
  have h1 := sm.lo i k (List.mem_range.mp hi) (List.mem_range.mp hk)
  have h2 := sm.hi i k (List.mem_range.mp hi) (List.mem_range.mp hk)
  exact tiny_int h1 (by omega)
theorem tiny_gds {r c : Nat} {g : Mat} {gs : List Gd} (sm : Sm r c g) (ok : GdsOk r c gs) (hB : Bnd gs) : Tiny (gdsD gs) 1000 := by
  refine TinyAll.list (w := 24) (TinyAll.of fun d hd => ?_) (by have := ok.len; rw [List.length_map]; omega)
  obtain ⟨q, hq, rfl⟩ := List.mem_map.mp hd
  have o := ok.ok q hq
  have b := hB.b q hq
  have oi := o.i
  have ok' := o.k
  have ob := o.b
  have oa := o.a
  have r4 := sm.r4
  have c4 := sm.c4
  refine TinyAll.tuple (w := 5) (TinyAll.of fun e he => ?_) (by simp)
  simp only [List.mem_cons, List.not_mem_nil, or_false] at he
  rcases he with rfl | rfl | rfl | rfl
  · exact tiny_int (by omega) (by omega)
  · exact tiny_int (by omega) (by omega)
  · exact tiny_int ob b.1
  · exact tiny_int oa b.2
theorem dep_row (c : Nat) (g : Nat → Int) : (rowD c g).depth ≤ 1 := by
  rw [rowD_eq]
  simp only [PyData.depth]
  rw [PySem.W.depth_ints]
  decide
theorem dep_all {ds : List PyData} {n : Nat} : (∀ d, d ∈ ds → d.depth ≤ n) → PyData.depthAll ds ≤ n := by
  induction ds with
  | nil => intro _; simp [PyData.depthAll]
  | cons d ds ih =>
    intro h
    have h1 := h d List.mem_cons_self
    have h2 := ih fun e he => h e (List.mem_cons_of_mem _ he)
    simp only [PyData.depthAll]
    omega
def bothD (r c : Nat) (g : Mat) (gs : List Gd) : List PyData := [gridD r c g, gdsD gs]
theorem both_tiny {r c : Nat} {g : Mat} {gs : List Gd} (sm : Sm r c g) (ok : GdsOk r c gs) (hB : Bnd gs) : Tiny (.list (bothD r c g gs)) 3000 := by
  refine TinyAll.list (w := 1000) (TinyAll.of fun d hd => ?_) (by show 2 * 1001 ≤ 3000; decide)
  simp only [bothD, List.mem_cons, List.not_mem_nil, or_false] at hd
  rcases hd with rfl | rfl
  · exact tiny_grid sm
  · exact tiny_gds sm ok hB
theorem both_dep (r c : Nat) (g : Mat) (gs : List Gd) : (PyData.list (bothD r c g gs)).depth ≤ 8 := by
  have h1 : (gridD r c g).depth ≤ 2 := by
    simp only [gridD, PyData.depth]
    have := dep_all (ds := (List.range r).map fun i => rowD c (g i)) (n := 1) fun d hd => by
      obtain ⟨i, _, rfl⟩ := List.mem_map.mp hd
      exact dep_row _ _
    omega
  have h2 : (gdsD gs).depth ≤ 2 := by
    simp only [gdsD, PyData.depth]
    have := dep_all (ds := gs.map gdD) (n := 1) fun d hd => by
      obtain ⟨q, _, rfl⟩ := List.mem_map.mp hd
      simp [gdD, PyData.depth, PyData.depthAll]
    omega
  simp only [bothD, PyData.depth, PyData.depthAll]
  omega
theorem both_shown {r c : Nat} {g : Mat} {gs : List Gd} (sm : Sm r c g) (ok : GdsOk r c gs) (hB : Bnd gs) : (PyData.list (bothD r c g gs)).shown.length ≤ sizeLine := by
  have t := both_tiny sm ok hB
  have d := both_dep r c g gs
  refine Nat.le_trans (PyProof.Rows.shown_le13 (d := .list (bothD r c g gs)) ?_ t.sh) (by rw [sizeLine_eq]; decide)
  show (PyData.canLay0 _ && decide (PyData.depth _ ≤ 64) && decide (PyData.weight _ ≤ 2 ^ 20)) = true
  rw [t.lay, decide_eq_true (by omega), decide_eq_true (by have := t.wt; omega)]
  rfl
theorem both_noDict {r c : Nat} {g : Mat} {gs : List Gd} (sm : Sm r c g) (ok : GdsOk r c gs) (hB : Bnd gs) : (PyData.list (bothD r c g gs)).hasDict = false := PyData.hasDict_of_canLay _ (both_tiny sm ok hB).lay
/-! ### lists cut -/
theorem cut_take {xs : List V} {n : Nat} : cutV xs none (some (n : Int)) = xs.take n := by
  unfold cutV
  rw [show HT.sIx xs.length xs.length (some (n : Int)) = min n xs.length from HT.sIx_nat xs.length xs.length n, HT.sIx_none]
  show List.take (min n xs.length - 0) (List.drop 0 xs) = _
  rw [Nat.sub_zero, List.drop_zero, List.take_eq_take_iff]
  omega
theorem DTs.take {H : Hp} : ∀ {n : Nat} {xs : List V} {ds : List PyData}, DTs H xs ds → DTs H (xs.take n) (ds.take n)
  | 0, _, _, _ => .nil
  | n + 1, _, _, .nil => .nil
  | n + 1, _, _, .cons h t => .cons h (DTs.take t)
theorem GdsOk.take {r c n : Nat} {gs : List Gd} (ok : GdsOk r c gs) : GdsOk r c (gs.take n) :=
  ⟨Nat.le_trans (List.take_sublist n gs).length_le ok.len, fun q hq => ok.ok q ((List.take_sublist n gs).subset hq), ok.rise.sublist (List.take_sublist n gs)⟩
theorem Bnd.take {n : Nat} {gs : List Gd} (h : Bnd gs) : Bnd (gs.take n) := ⟨fun q hq => h.b q ((List.take_sublist n gs).subset hq)⟩
/-- the datum of a list of places, or None -/
def oD : Option (List Pl) → PyData
  | none => .none
  | some h => hD h
theorem ODT.dt {H : Hp} {v : V} {o : Option (List Pl)} (d : ODT H v o) : DT H v (oD o) := by
  cases o with
  | none =>
    obtain rfl : v = V.non := d
    exact .non
  | some h => exact d
theorem shaped_oD (o : Option (List Pl)) : SeqAt.shaped (oD o) = true := by
  cases o with
  | none => decide
  | some h => exact shaped_hD h
theorem eqv_oD (o : Option (List Pl)) : PyData.eqv (oD o) (oD o) = true := by
  cases o with
  | none => simp [oD, PyData.eqv]
  | some h =>
    show PyData.eqv (hD h) (hD h) = true
    rw [eqv_hD]
    exact decide_eq_true rfl
end Cv

set_option maxHeartbeats 8000000
/-! Countveil, the law itself. -/
namespace Cv
open PySem PySem.Spec PyProof.Rows L2
abbrev sLaw : Stmt := topS 45
theorem scLaw : FnScope ["_law_script", "_law_left_here", "_law_turn", "_law_block_here", "_law_guards_here", "_law_kept", "_law_due_here", "_law_found", "_law_other", "_law_many"] ["_law_script"] (defScope sLaw) := ⟨rfl, rfl, rfl, by decide +kernel, rfl, by decide +kernel, by decide +kernel⟩
/-- a statement whose end is told once, then what follows it -/
theorem via {t u : TS} {D : Ends} {σ : L2.St} {H : Hp} (Pr : L2.St → Hp → Prop) (rest : ∀ σ' H', Pr σ' H' → u D σ' H') (go : ∀ R : L2.St → Hp → Prop, (∀ σ' H', Pr σ' H' → R σ' H') → t { D with nx := R } σ H) : tSeq t u D σ H := go _ rest
section
variable {P : Program} {w : PySem.World} {K : PySem.W.Frag} {mg : Str → Option Value} {base : Heap}
theorem law_body {f : Addr} {cdv : Value} {A : Around} {outer : List Env} {s : Shared} {H : Hp} {Q : VK} {E : XK} {T : List (Addr × Str)} (G : Gb mg)
    (hL : Has P w K mg base 1 "_law_left" ["_law_script"] (spLLeft K)) (hD : Has P w K mg base 1 "_law_draw" ["_law_left_here", "_law_out_of"] spLDraw)
    (hB : Has P w K mg base 3 "_law_block" ["_law_left_here", "_law_most_rows", "_law_most_columns", "_law_worths"] spLBlock) (hS : Has P w K mg base 1 "_law_spots" ["_law_block_here"] spLSpots)
    (hG : Has P w K mg base 2 "_law_guards" ["_law_left_here", "_law_block_here", "_law_places", "_law_far"] spLGuards) (hU : Has P w K mg base 8 "_law_due" ["_law_block_here", "_law_guards_here"] spLDue)
    (hF : Has P w K mg base 7 "fewest" ["cells", "guards"] (spFewest T)) (hP : Has P w K mg base 7 "pattern" ["cells", "guards"] spPattern) (hO : Has P w K mg base 1 "_law_lone" ["_law_hidden"] spLLone)
    (hM : Has P w K mg base 8 "_law_as_many" ["_law_left_here", "_law_block_here", "_law_guards_here", "_law_many"] (spLMany T))
    (hg : (A.deeper (envOfC "law" (defScope sLaw) s.heap.objs.size f cdv)).guards = some []) (hr : Room 8 (A.deeper (envOfC "law" (defScope sLaw) s.heap.objs.size f cdv)))
    {a : Addr} {ns : List Int} (ha : SqL K H a (ns.map V.int)) (l63 : ns.length ≤ 63) (tabs : LamX.Tabs T H) (q : ∀ H', Q (.bl true) H') :
    ∃ t, PSs (cxOf CX0 P w K mg base ["_law_script", "_law_left_here", "_law_turn", "_law_block_here", "_law_guards_here", "_law_kept", "_law_due_here", "_law_found", "_law_other", "_law_many"] "law" (defScope sLaw) f cdv A outer s H E).nox (defBody sLaw) t ∧
      t { nx := fun _ H' => Q .non H', rt := Q } (start ["_law_script", "_law_left_here", "_law_turn", "_law_block_here", "_law_guards_here", "_law_kept", "_law_due_here", "_law_found", "_law_other", "_law_many"] [.ref a]) H := by
  obtain ⟨fL, fdL, gL, kL, bL, oL⟩ := hL.ex
  obtain ⟨fD, fdD, gD, kD, bD, oD'⟩ := hD.ex
  obtain ⟨fB, fdB, gB, kB, bB, oB⟩ := hB.ex
  obtain ⟨fS, fdS, gS, kS, bS, oS⟩ := hS.ex
  obtain ⟨fG, fdG, gG, kG, bG, oG⟩ := hG.ex
  obtain ⟨fU, fdU, gU, kU, bU, oU⟩ := hU.ex
  obtain ⟨fF, fdF, gF, kF, bF, oF⟩ := hF.ex
  obtain ⟨fP, fdP, gP, kP, bP, oP⟩ := hP.ex
  obtain ⟨fO, fdO, gO, kO, bO, oO⟩ := hO.ex
  obtain ⟨fM, fdM, gM, kM, bM, oM⟩ := hM.ex
  have hu : (A.deeper (envOfC "law" (defScope sLaw) s.heap.objs.size f cdv)).units + 64 < cLine := by
    have := hr.un
    omega
  have h1 := hr.mono (show 1 ≤ 8 by decide)
  have h2 := hr.mono (show 2 ≤ 8 by decide)
  have h3 := hr.mono (show 3 ≤ 8 by decide)
  have h7 := hr.mono (show 7 ≤ 8 by decide)
  refine ⟨_, pss_cons (ps_set (i := 1) scLaw.nd rfl (.inl rfl) (pe_call oL h1 (by rfl) gL kL bL .nil pass0 (pa_cons (pv 0) pa_nil)))
    (pss_cons (ps_for PassesOwn.never rfl (pi_range1 (by rfl) G.range (pa_cons pe_int pa_nil)) (pg_name (i := 2) scLaw.nd rfl (.inl rfl))
      (pss_cons (ps_set (i := 3) scLaw.nd rfl (.inl rfl) (pe_call oB h3 (by rfl) gB kB bB .nil pass0 (pa_cons (pv 1) (pa_cons pe_int (pa_cons pe_int (pa_cons (pe_ix ix_list (pe_lst (pa_cons (pe_lst (pa_cons pe_int (pa_cons pe_int (pa_cons pe_int (pa_cons pe_int pa_nil))))) (pa_cons (pe_lst (pa_cons pe_int (pa_cons pe_int (pa_cons pe_int (pa_cons pe_int (pa_cons pe_int pa_nil)))))) pa_nil))) (pe_call oD' h1 (by rfl) gD kD bD .nil pass0 (pa_cons (pv 1) (pa_cons pe_int pa_nil))) (fun _ _ => rfl)) pa_nil))))))
      (pss_cons (ps_if (PW.pt (pw_and (pt_cmpR op_eq (pv 2) pe_int (nomark _)) (pw_and1 (pt_cmpR op_eq (pe_call oD' h1 (by rfl) gD kD bD .nil pass0 (pa_cons (pv 1) (pa_cons pe_int pa_nil))) pe_int (nomark _)))))
        (pss_one (ps_set (i := 3) scLaw.nd rfl (.inl rfl) (pe_call oB h3 (by rfl) gB kB bB .nil pass0 (pa_cons (pv 1) (pa_cons pe_int (pa_cons pe_int (pa_cons (pe_lst (pa_cons pe_int (pa_cons pe_int (pa_cons pe_int pa_nil)))) pa_nil))))))) pss_nil)
      (pss_cons (ps_set (i := 4) scLaw.nd rfl (.inl rfl) (pe_slice sl_list (pe_call oG h2 (by rfl) gG kG bG .nil pass0 (pa_cons (pv 1) (pa_cons (pv 3) (pa_cons (pe_call oS h1 (by rfl) gS kS bS .nil pass0 (pa_cons (pv 3) pa_nil)) (pa_cons pe_int pa_nil))))) po_none (po_some (pe_op op_add pe_int (pe_call oD' h1 (by rfl) gD kD bD .nil pass0 (pa_cons (pv 1) (pa_cons pe_int pa_nil)))))))
      (pss_cons (ps_set (i := 5) scLaw.nd rfl (.inl rfl) (pe_callB (cr_reprD hg hu) (by rfl) G.repr b_repr (pa_cons (pe_lst (pa_cons (pv 3) (pa_cons (pv 4) pa_nil))) pa_nil)))
      (pss_cons (ps_set (i := 6) scLaw.nd rfl (.inl rfl) (pe_call oU hr (by rfl) gU kU bU .nil pass0 (pa_cons (pv 3) (pa_cons (pv 4) pa_nil))))
      (pss_cons (ps_set (i := 7) scLaw.nd rfl (.inl rfl) (pe_call oF h7 (by rfl) gF kF bF .nil pass0 (pa_cons (pv 3) (pa_cons (pv 4) pa_nil))))
      (pss_cons (ps_if (PW.pt (pw_or (pt_cmpR (op_neD hu) (pv 7) (pv 6) (nomark _)) (pw_or (pt_cmpR (op_neD hu) (pe_call oF h7 (by rfl) gF kF bF .nil pass0 (pa_cons (pv 3) (pa_cons (pv 4) pa_nil))) (pv 6) (nomark _))
          (pw_or1 (pt_cmpR op_ne (pe_callB (cr_reprD hg hu) (by rfl) G.repr b_repr (pa_cons (pe_lst (pa_cons (pv 3) (pa_cons (pv 4) pa_nil))) pa_nil)) (pv 5) (nomark _))))))
        (pss_one (ps_ret pe_bl)) pss_nil)
      (pss_cons (ps_set (i := 8) scLaw.nd rfl (.inl rfl) (pe_call oP h7 (by rfl) gP kP bP .nil pass0 (pa_cons (pv 3) (pa_cons (pv 4) pa_nil))))
      (pss_cons (ps_if (pt_cmpR op_ne (pe_cmp (pc_isN (pv 8)) rfl) (pe_cmp (pc_isN (pv 6)) rfl) (nomark _)) (pss_one (ps_ret pe_bl)) pss_nil)
      (pss_cons (ps_if (PW.pt (pw_and (pt_cmp (pc_notN (pv 6))) (pw_and1 (PW.pt (pw_or (pt_cmpR op_lt (pe_callB cr_len (by rfl) G.len b_len (pa_cons (pv 8) pa_nil)) (pe_callB cr_len (by rfl) G.len b_len (pa_cons (pv 6) pa_nil)) (nomark _)) (pw_or1 (pt_val (pe_call oO h1 (by rfl) gO kO bO .nil pass0 (pa_cons (pv 6) pa_nil)))))))))
        (pss_one (ps_ret pe_bl)) pss_nil)
      (pss_cons (ps_set (i := 9) scLaw.nd rfl (.inl rfl) pe_non)
      (pss_cons (ps_if (pt_cmp (pc_notN (pv 6))) (pss_one (ps_set (i := 9) scLaw.nd rfl (.inl rfl) (pe_callB cr_len (by rfl) G.len b_len (pa_cons (pv 6) pa_nil)))) pss_nil)
      (pss_one (ps_if (pt_not (pt_val (pe_call oM hr (by rfl) gM kM bM .nil pass0 (pa_cons (pv 1) (pa_cons (pv 3) (pa_cons (pv 4) (pa_cons (pv 9) pa_nil))))))) (pss_one (ps_ret pe_bl)) pss_nil)))))))))))))))
    (pss_one (ps_ret pe_bl))), ?_⟩
  refine ⟨_, rfl, a, ns, rfl, ha, l63, fun H0 st cl s0 nst ncl p0 => ?_⟩
  have t0 : LamX.Tabs T H0 := tabs.ext s0
  refine ⟨4, rfl, by decide, by decide, ?_⟩
  refine for_range (lo := 0) (n := (4 : Int).toNat) (fun j σ H' => ∃ v2 v3 v4 v5 v6 v7 v8 v9, σ = [some (.ref a), some (.ref st), v2, v3, v4, v5, v6, v7, v8, v9] ∧ Pot H' st cl (j * 1000) ∧ LamX.Tabs T H')
    ⟨_, _, _, _, _, _, _, _, rfl, p0.mono (by omega), t0⟩ (fun j σ H' hj hP => ?_) (fun σ H' hP => q _)
  obtain ⟨v2, v3, v4, v5, v6, v7, v8, v9, rfl, pj, tj⟩ := hP
  have j4 : j < 4 := hj
  clear hj
  -- the cells
  refine ⟨_, rfl, (by show 4 ≤ sizeLine; decide), fun L1 n1 => ⟨by show 5 ≤ sizeLine; decide, fun L2 n2 => ⟨by show 2 ≤ sizeLine; decide, fun L0 n0 => ?_⟩⟩⟩
  have sA := ((same_new (o := .lst [V.int 0, V.int 1, V.int 2, V.int 3]) n1).trans (same_new (o := .lst [V.int 1, V.int 2, V.int 4, V.int 9, V.int 30]) n2)).trans (same_new (o := .lst [V.ref L1, V.ref L2]) n0)
  have s12 := same_new (o := .lst [V.int 1, V.int 2, V.int 4, V.int 9, V.int 30]) n2
  have s20 := same_new (o := .lst [V.ref L1, V.ref L2]) n0
  have pA := pj.same sA
  have o1 := pj.off n1
  have o2 := (pj.same (same_new (o := .lst [V.int 0, V.int 1, V.int 2, V.int 3]) n1)).off n2
  have o0 := ((pj.same (same_new (o := .lst [V.int 0, V.int 1, V.int 2, V.int 3]) n1)).same s12).off n0
  refine ⟨_, rfl, st, cl, _, _, rfl, pA, by omega, by decide, by decide, fun H4 x4 d4 p4 x40 x41 => ?_⟩
  have t4 := d4.tabs pA (tj.ext sA)
  obtain ⟨Lx, ws, hat, hLx, nx1, nx2, lw0, lw1, hws⟩ : ∃ (Lx : Addr) (ws : List Int), atI [V.ref L1, V.ref L2] x4 = some (.ref Lx) ∧ H4 Lx = some (.lst (ws.map V.int)) ∧ Lx ≠ st ∧ Lx ≠ cl ∧ 0 < ws.length ∧ ws.length < 1000 ∧ ∀ x, x ∈ ws → 0 ≤ x ∧ x ≤ 30 := by
    have hx : x4 = 0 ∨ x4 = 1 := by omega
    rcases hx with rfl | rfl
    · refine ⟨L1, [0, 1, 2, 3], atI_nat (j := 0) rfl, ?_, o1.1, o1.2, by decide, by decide, by decide⟩
      rw [d4.at o1.1 o1.2]
      exact s20 _ _ (s12 _ _ upd_same)
    · refine ⟨L2, [1, 2, 4, 9, 30], atI_nat (j := 1) rfl, ?_, o2.1, o2.2, by decide, by decide, by decide⟩
      rw [d4.at o2.1 o2.2]
      exact s20 _ _ upd_same
  refine ⟨L0, _, _, _, rfl, rfl, SqL.of ((d4.at o0.1 o0.2).trans upd_same), hat, ?_⟩
  refine ⟨st, cl, Lx, _, 3, 3, ws, rfl, p4, by omega, by decide, by decide, by decide, by decide, lw0, lw1, nx1, nx2, hLx, hws, fun H5 x5 r5 c5 g5 s5 p5 dB5 sm5 _ _ => ?_⟩
  have t5 : LamX.Tabs T H5 := tabs2 s5 p4 t4
  dsimp only [gName, List.set]
  refine via (fun σ' H6 => ∃ (x3 : V) (r c : Nat) (g : Mat), σ' = [some (.ref a), some (.ref st), some (.int (0 + (j : Nat))), some x3, v4, v5, v6, v7, v8, v9] ∧ Pot H6 st cl (j * 1000 + 250) ∧ LamX.Tabs T H6 ∧ DT (hid2 st cl H6) x3 (gridD r c g) ∧ Sm r c g) ?_ (fun R hR => ?_)
  rotate_left
  · refine ⟨_, rfl, rfl, _, rfl, ite2 (fun hb => ?_) (fun hb => ?_)⟩
    · refine ⟨_, rfl, st, cl, _, _, rfl, p5, by omega, by decide, by decide, fun H7 x7 d7 p7 x70 x71 => ⟨rfl, _, rfl, ite2 (fun hc => ?_) (fun hc => ?_)⟩⟩
      · have t7 := d7.tabs p5 t5
        refine ⟨_, rfl, (by show 3 ≤ sizeLine; decide), fun L3 n3 => ?_⟩
        obtain ⟨f1, f2⟩ := p7.off n3
        have s8 := same_new (o := .lst [V.int 1, V.int 2, V.int 3]) n3
        refine ⟨st, cl, L3, _, 4, 3, [1, 2, 3], rfl, p7.same s8, by omega, by decide, by decide, by decide, by decide, by decide, by decide, f1, f2, upd_same, by decide, fun H9 x9 r9 c9 g9 s9 p9 dB9 sm9 _ _ => ?_⟩
        exact hR _ _ ⟨x9, r9, c9, g9, rfl, p9.mono (by omega), tabs2 s9 (p7.same s8) (t7.ext s8), dB9, sm9⟩
      · exact hR _ _ ⟨x5, r5, c5, g5, rfl, p7.mono (by omega), d7.tabs p5 t5, dB5.same d7.same, sm5⟩
    · exact hR _ _ ⟨x5, r5, c5, g5, rfl, p5.mono (by omega), t5, dB5, sm5⟩
  · rintro σ6 H6 ⟨x3, r, c, g, rfl, p6, t6, dB6, sm⟩
    have r4 := sm.r4
    have c4 := sm.c4
    have rc : r * c ≤ 4 * 4 := Nat.mul_le_mul r4 c4
    have gr : Gr r c g := ⟨sm.r0, sm.c0, by omega, by omega, sm.lo, fun i k hi hk => by have := sm.hi i k hi hk; omega⟩
    -- the guards
    refine ⟨_, rfl, _, rfl, _, rfl, r, c, g, _, rfl, dB6.same hid2_same, sm.r0, sm.c0, by omega, by omega, fun H7 pa ps s7 npa hpa dps => ?_⟩
    have p7 := p6.same s7
    have t7 := t6.ext s7
    have dB7 := dB6.same (hid2_mono s7)
    have dP7 : DT (hid2 st cl H7) (.ref pa) (Cv.hD (places r c)) := hD_off p7 (.lst hpa dps)
    refine ⟨st, cl, _, r, c, g, _, _, rfl, p7, by omega, dB7, dP7, sm, fun H8 v8 gs0 s8 p8 dG8 ok8 hB8 => ?_⟩
    have t8 := tabs2 s8 p7 t7
    have dB8 := dB7.same s8
    refine ⟨_, rfl, st, cl, _, _, rfl, p8, by omega, by decide, by decide, fun H9 x9 d9 p9 x90 x91 => ⟨_, _, rfl, rfl, _, rfl, ?_⟩⟩
    have t9 := d9.tabs p8 t8
    have dB9 := dB8.same d9.same
    have dG9 := dG8.same d9.same
    obtain ⟨n9, en9⟩ : ∃ n : Nat, 1 + x9 = (n : Int) := ⟨(1 + x9).toNat, by omega⟩
    obtain ⟨ga, gxs, rfl, hga, dgx⟩ := DT.inList (ds := gs0.map gdD) (dG9.same hid2_same)
    refine ⟨ga, _, rfl, SqL.of hga, fun L10 n10 => ?_⟩
    rw [en9, cut_take]
    have s10 := same_new (o := .lst (gxs.take n9)) n10
    obtain ⟨gs, egs⟩ : ∃ gs, gs = gs0.take n9 := ⟨_, rfl⟩
    have okg : GdsOk r c gs := by
      rw [egs]
      exact ok8.take
    have hBg : Bnd gs := by
      rw [egs]
      exact hB8.take
    have p10 := p9.same s10
    have dB10 := dB9.same (hid2_mono s10)
    have t10 := t9.ext s10
    have dG10 : DT (hid2 st cl (upd H9 L10 (.lst (gxs.take n9)))) (.ref L10) (gdsD gs) := by
      refine gdsD_off p10 (.lst upd_same ?_)
      rw [egs, List.map_take]
      exact (DTs.take dgx).same s10
    clear dG9 dgx hga ok8 hB8 dG8 egs
    generalize upd H9 L10 (.lst (gxs.take n9)) = H10 at p10 dB10 t10 dG10 ⊢
    have DX : ∀ {H' : Hp}, Ext H10 H' → DT H' x3 (gridD r c g) := fun {H'} e => (dB10.ext (hid2_ext e)).same hid2_same
    have DY : ∀ {H' : Hp}, Ext H10 H' → DT H' (.ref L10) (gdsD gs) := fun {H'} e => (dG10.ext (hid2_ext e)).same hid2_same
    -- kept
    refine ⟨_, rfl, _, rfl, (by show 2 ≤ sizeLine; decide), fun L11 n11 => ?_⟩
    have s11 := same_new (o := .lst [x3, V.ref L10]) n11
    have e11 : Ext H10 (upd H10 L11 (.lst [x3, V.ref L10])) := .of s11
    refine ⟨L11, bothD r c g gs, rfl, .lst upd_same (.cons (DX e11) (.cons (DY e11) .nil)), (both_tiny sm okg hBg).show_, both_noDict sm okg hBg, both_dep r c g gs, both_shown sm okg hBg, ?_⟩
    have t11 := t10.ext s11
    generalize upd H10 L11 (.lst [x3, V.ref L10]) = H11 at e11 t11 ⊢
    -- due
    refine ⟨_, rfl, _, rfl, r, c, g, gs, _, _, rfl, DX e11, DY e11, gr, okg, by omega, fun H12 v12 o s12 F12 d12 => ?_⟩
    have e12 : Ext H10 H12 := e11.trans (.of s12)
    have t12 := t11.ext s12
    -- found
    refine ⟨_, rfl, _, rfl, r, c, g, gs, _, _, rfl, DX e12, DY e12, gr, okg, by omega, t12, fun H13 v13 o13 e13 t13 F13 d13 => ?_⟩
    have eo13 : o13 = o := First.unique F13 F12
    rw [eo13] at d13
    have e13' := e12.trans e13
    refine ⟨_, rfl, _, rfl, oD o, oD o, d13.dt.dp, (d12.ext e13).dt.dp, shaped_oD _, shaped_oD _, _, rfl, ?_⟩
    rw [eqv_oD]
    refine iteF ?_
    refine ⟨_, rfl, _, rfl, r, c, g, gs, _, _, rfl, DX e13', DY e13', gr, okg, by omega, t13, fun H14 v14 o14 e14 t14 F14 d14 => ?_⟩
    have eo14 : o14 = o := First.unique F14 F12
    rw [eo14] at d14
    have e14' := e13'.trans e14
    refine ⟨_, rfl, oD o, oD o, d14.dt.dp, (d12.ext (e13.trans e14)).dt.dp, shaped_oD _, shaped_oD _, _, rfl, ?_⟩
    rw [eqv_oD]
    refine iteF ?_
    -- told again
    refine ⟨_, rfl, _, rfl, (by show 2 ≤ sizeLine; decide), fun L15 n15 => ?_⟩
    have s15 := same_new (o := .lst [x3, V.ref L10]) n15
    have e15 := e14'.trans (.of s15)
    refine ⟨L15, bothD r c g gs, rfl, .lst upd_same (.cons (DX e15) (.cons (DY e15) .nil)), (both_tiny sm okg hBg).show_, both_noDict sm okg hBg, both_dep r c g gs, both_shown sm okg hBg, _, rfl, rfl, _, rfl, iteNS rfl ?_⟩
    have d15 := (d12.ext (e13.trans e14)).ext (.of s15)
    have t15 := t14.ext s15
    generalize upd H14 L15 (.lst [x3, V.ref L10]) = H15 at e15 t15 d15 ⊢
    -- pattern
    refine ⟨_, rfl, _, rfl, r, c, g, gs, _, _, rfl, DX e15, DY e15, gr, okg, fun H16 v16 s16 hv => ?_⟩
    have e16 := e15.trans (.of s16)
    have t16 := t15.ext s16
    have d16 := d15.ext (.of s16)
    have hp : ∀ x, x ∈ gs → 0 < x.2.2.1 + x.2.2.2 := fun x hx => (okg.ok x hx).s
    have fin : ∀ {H' : Hp} {w3 w4 w5 w6 w7 w8 w9 : Option V}, Pot H' st cl (j * 1000 + 1000) → LamX.Tabs T H' → ∃ v2 v3 v4 v5 v6 v7 v8 v9, [some (.ref a), some (.ref st), some (.int (0 + (j : Nat))), w3, w4, w5, w6, w7, w8, w9] = ([some (.ref a), some (.ref st), v2, v3, v4, v5, v6, v7, v8, v9] : _root_.L2.St) ∧ Pot H' st cl ((j + 1) * 1000) ∧ LamX.Tabs T H' :=
      fun {H' w3 w4 w5 w6 w7 w8 w9} p t => ⟨_, _, _, _, _, _, _, _, rfl, p.mono (by omega), t⟩
    cases o with
    | none =>
      obtain rfl : v12 = V.non := d12
      have hns : ¬ Safe r c g (places r c) gs := (First.all (fun h => mem_listsOf) F12).mp rfl
      obtain rfl : v16 = V.non := by
        rcases hv with ⟨z, _⟩ | ⟨h, _, hsub, hs⟩
        · exact z
        · exact absurd (hs.mono hsub.subset) hns
      refine ⟨_, rfl, _, rfl, rfl, _, rfl, iteNS rfl ?_⟩
      refine ⟨_, rfl, _, rfl, iteF (iteF ?_)⟩
      refine ⟨_, rfl, _, rfl, iteF ?_⟩
      refine ⟨_, rfl, _, rfl, _, rfl, _, rfl, st, cl, _, r, c, g, gs, none, x3, .ref L10, rfl, p10.ext e16, by omega, dB10.ext (hid2_ext e16), dG10.ext (hid2_ext e16), sm, okg, hBg, t16, F12, fun H17 e17 t17 p17 => ⟨_, rfl, iteF ?_⟩⟩
      exact fin (p17.mono (by omega)) t17
    | some h =>
      obtain ⟨hm, hs, hmin⟩ := F12.least (listsOf_byLen _)
      have hsub : h.Sublist (places r c) := mem_listsOf.mp hm
      have hlen : h.length ≤ 16 := by
        have h1 := hsub.length_le
        rw [places_len] at h1
        omega
      have hall : Safe r c g (places r c) gs := hs.mono hsub.subset
      obtain ⟨h16, dh16, hsub16, hs16⟩ : ∃ h, DT H16 v16 (Cv.hD h) ∧ h.Sublist (places r c) ∧ Safe r c g h gs := by
        rcases hv with ⟨_, z⟩ | z
        · exact absurd hall z
        · exact z
      have hle := hmin h16 (mem_listsOf.mpr hsub16) hs16
      obtain ⟨a16, xs16, rfl, ha16, hl16, _⟩ := DT.list (f := pD) dh16
      have d16' : DT H16 v12 (Cv.hD h) := d16
      obtain ⟨a12, xs12, rfl, ha12, hl12, _⟩ := id (DT.list (f := pD) d16')
      refine ⟨_, rfl, _, rfl, rfl, _, rfl, iteNS rfl ?_⟩
      refine ⟨_, rfl, _, rfl, iteT ?_⟩
      refine ⟨_, rfl, a16, _, rfl, .inl (SqL.of ha16), _, rfl, a12, _, rfl, .inl (SqL.of ha12), _, _, rfl, rfl, _, rfl, ite2 (fun hb => ?_) (fun _ => ?_)⟩
      · have := of_decide_eq_true hb
        exfalso
        omega
      refine ⟨_, rfl, h, _, rfl, d16', by omega, fun H17 b s17 hb => ⟨_, rfl, ?_⟩⟩
      have hbf : b = false := by
        cases b with
        | false => rfl
        | true => exact absurd (hb.mp rfl) (F12.notLone (listsOf_byLen _) (fun h => mem_listsOf) hp)
      rw [hbf]
      refine iteF ?_
      have e17 := e16.trans (.of s17)
      have t17 := t16.ext s17
      refine ⟨_, rfl, _, rfl, iteT ⟨_, rfl, a12, _, rfl, .inl (SqL.of (s17 _ _ ha12)), ?_⟩⟩
      refine ⟨_, rfl, _, rfl, _, rfl, _, rfl, st, cl, _, r, c, g, gs, some h, x3, .ref L10, by rw [hl12]; rfl, p10.ext e17, by omega, dB10.ext (hid2_ext e17), dG10.ext (hid2_ext e17), sm, okg, hBg, t17, F12, fun H18 e18 t18 p18 => ⟨_, rfl, iteF ?_⟩⟩
      exact fin (p18.mono (by omega)) t18
end
end Cv

set_option maxHeartbeats 4000000
/-! Countveil, the end 1: the law's call from the claim's caller, where no repr runs around. -/
namespace Cv
open PySem PySem.Spec PyProof.Rows L2
/-- what is to be shown of the call over a base that holds the module -/
def CallHere (P : Program) (w : PySem.World) (K : PySem.W.Frag) (mg : Str → Option Value) (base : Heap) (fa T : Addr) (n : Nat) : Prop :=
  ∀ (s : Shared) (H : Hp) (a : Addr) (ns : List Int), Env0 P w K mg base callerA [] s H → ns.length ≤ n → H T = some (.tbl #[]) → SqL K H a (ns.map V.int) →
    codeAny (model P w) callerA (.call (.ref fa) ⟨[.ref a], []⟩) (CR CX0 [] P w H s (fun v _ => v = .bl true) E0) s
abbrev tabO : Obj := { cls := .none, data := .fields #[] }
abbrev lstO (us : List Value) : Obj := { cls := .type "list", data := .seq us.toArray }
/-- what is tracked at the call: the table, the script if the module doesn't hold it -/
def hp0 (K : PySem.W.Frag) (T a : Addr) (us : List Value) (ns : List Int) : Hp := fun b =>
  if b = T then some (.tbl #[]) else if b = a ∧ (K.lookup a).isNone = true then some (.frz (lstO us) (.lst (ns.map V.int))) else none
section
variable {P : Program} {w : PySem.World} {K : PySem.W.Frag} {mg mb : Str → Option Value} {s : Shared} {fa c T a : Addr} {us : List Value} {ns : List Int} {n : Nat}
theorem hp0_T : hp0 K T a us ns T = some (.tbl #[]) := if_pos rfl
theorem hp0_in {b : Addr} {u : HO} (e : hp0 K T a us ns b = some u) : (b = T ∧ u = .tbl #[]) ∨ (b = a ∧ K.lookup a = none ∧ u = .frz (lstO us) (.lst (ns.map V.int))) := by
  unfold hp0 at e
  by_cases h : b = T
  · rw [if_pos h] at e
    exact .inl ⟨h, (Option.some.inj e).symm⟩
  · rw [if_neg h] at e
    by_cases h2 : b = a ∧ (K.lookup a).isNone = true
    · rw [if_pos h2] at e
      exact .inr ⟨h2.1, Option.isNone_iff_eq_none.mp h2.2, (Option.some.inj e).symm⟩
    · rw [if_neg h2] at e
      cases e
/-- an object that is no list and no table isn't tracked -/
theorem hp0_off (hT : s.heap.get? T = some tabO) (hA : s.heap.get? a = some (lstO us)) {b : Addr} {o : Obj} (e : s.heap.get? b = some o) (h1 : o ≠ tabO) (h2 : o ≠ lstO us) : hp0 K T a us ns b = none := by
  cases q : hp0 K T a us ns b with
  | none => rfl
  | some u =>
    rcases hp0_in q with ⟨rfl, _⟩ | ⟨rfl, _⟩
    · rw [hT] at e
      exact absurd (Option.some.inj e).symm h1
    · rw [hA] at e
      exact absurd (Option.some.inj e).symm h2
theorem law_here (KX : K.In s.heap) (G : s.heap.Ns mainGlobals mg) (B : s.heap.Ns builtinsNs mb) (bb : ∀ x : Str, x ≠ "__name__" → mb x = bootBuiltins x) (lim : s.heap.NoLimit) (gn : s.gens = #[])
    (hT : s.heap.get? T = some tabO) (nT : K.lookup T = none) (hc : PySem.W.CodeHd s.heap c T)
    (bm : ∃ (m : Addr) (o : Obj), mg "__builtins__" = some (.ref m) ∧ m ≠ builtinsNs ∧ s.heap.get? m = some o ∧ o.cls = .type "module" ∧ o.dict = some builtinsNs ∧ o.data = .plain)
    (hA : s.heap.get? a = some (lstO us)) (hi : IntsAre us ns) (hn : ns.length ≤ n) (hz : n ≤ sizeLine)
    (F : ∀ base : Heap, K.In base → base.Ns mainGlobals mg → LamX.TabB base mg c T → CallHere P w K mg base fa T n) :
    codeAny (model P w) callerA (.call (.ref fa) ⟨[.ref a], []⟩) (fun r s' => r = .ok (.ret (.bool true)) ∧ OldK s.heap s'.heap ∧ s'.os = s.os ∧ AllBare s'.gens) s := by
  have rv : Vals (ns.map V.int) us := vals_ints hi
  have hl : us.length = ns.length := hi.length
  have aT : a ≠ T := fun z => by
    rw [z, hT] at hA
    have : tabO = lstO us := Option.some.inj hA
    injection this with z1
    cases z1
  obtain ⟨H, eH⟩ : ∃ H, H = hp0 K T a us ns := ⟨_, rfl⟩
  have off : ∀ {b : Addr} {o : Obj}, s.heap.get? b = some o → o ≠ tabO → o ≠ lstO us → H b = none := fun {b o} e h1 h2 => by
    rw [eH]
    exact hp0_off hT hA e h1 h2
  have atT : H T = some (.tbl #[]) := by
    rw [eH]
    exact hp0_T
  have atA : SqL K H a (ns.map V.int) := by
    cases k : K.lookup a with
    | none =>
      refine .inl (.inr ⟨lstO us, ?_⟩)
      rw [eH]
      unfold hp0
      rw [if_neg aT, if_pos ⟨rfl, by rw [k]; rfl⟩]
    | some o =>
      have e := KX a o k
      rw [hA] at e
      cases e
      exact .inr ⟨_, us.toArray, _, k, rfl, rfl, rfl, by rw [List.size_toArray, hl]; exact Nat.le_trans hn hz, by simpa using rv⟩
  have ok : HOk P w H s.heap := fun b u e => by
    rw [eH] at e
    rcases hp0_in e with ⟨rfl, rfl⟩ | ⟨rfl, _, rfl⟩
    · exact hT
    · exact ⟨hA, by rw [List.length_map]; exact Nat.le_trans hn hz, us, _, rv, hA⟩
  have get : ∀ {b : Addr} {o : Obj}, s.heap.get? b = some o → o ≠ tabO → o ≠ lstO us → (hidT s.heap H).get? b = some o := fun e h1 h2 => hidT_get e (off e h1 h2)
  have dictN : ∀ {o : Obj} {es : Array DictEntry} {ep : Nat}, o.data = .dict es ep → o ≠ tabO ∧ o ≠ lstO us := fun {o es ep} e => ⟨fun z => (by rw [z] at e; cases e), fun z => (by rw [z] at e; cases e)⟩
  have plainN : ∀ {o : Obj}, o.data = .plain → o ≠ tabO ∧ o ≠ lstO us := fun {o} e => ⟨fun z => (by rw [z] at e; cases e), fun z => (by rw [z] at e; cases e)⟩
  have space : ∀ {b : Addr} {m : Str → Option Value}, s.heap.Ns b m → (hidT s.heap H).Ns b m := fun {b m} ⟨o, es, ep, e, d, r⟩ => ⟨o, es, ep, get e (dictN d).1 (dictN d).2, d, r⟩
  have Kb : K.In (hidT s.heap H) := fun b o e => hidT_get (KX b o e) (by
    cases q : H b with
    | none => rfl
    | some u =>
      rw [eH] at q
      rcases hp0_in q with ⟨rfl, _⟩ | ⟨rfl, k, _⟩
      · rw [nT] at e
        cases e
      · rw [k] at e
        cases e)
  have tb : LamX.TabB (hidT s.heap H) mg c T := by
    refine ⟨?_, ?_, fun z => ?_⟩
    · obtain ⟨o, vs, file, tf, flags, tg, inF, text, tt, e, cl, da, rest⟩ := hc
      refine ⟨o, vs, file, tf, flags, tg, inF, text, tt, get e (fun z => ?_) (fun z => ?_), cl, da, rest⟩
      · rw [z] at cl
        cases cl
      · rw [z] at cl
        have := (Value.type.inj cl)
        exact absurd this (by decide)
    · obtain ⟨m, o, e1, e2, e3, e4, e5, e6⟩ := bm
      refine ⟨m, o, e1, e2, fun z => ?_, fun z => ?_, get e3 (plainN e6).1 (plainN e6).2, e4, e5, e6⟩
      · obtain ⟨o2, es, ep, f1, f2, _⟩ := G
        rw [z, f1] at e3
        cases e3
        rw [f2] at e6
        cases e6
      · rw [z, hT] at e3
        cases e3
        cases e6
    · obtain ⟨o2, es, ep, f1, f2, _⟩ := G
      rw [z, hT] at f1
      cases f1
      cases f2
  have env : Env0 P w K mg (hidT s.heap H) callerA [] s H :=
    { frames := rfl, mod := ⟨Kb, space G, ⟨mb, space B, bb⟩, let ⟨mc, l1, l2⟩ := lim; ⟨mc, space l1, l2⟩⟩, bs := fun b o e => of_hidT e, bsz := Nat.le_of_eq (hidT_size _ _), funs := trivial, frf := fun b hb => (nomatch hb), hok := ok, bare := .of_eq gn }
  refine codeAny_mono (F _ Kb (space G) tb s H a ns env hn atT atA) fun r s' hr => ?_
  match r, hr with
  | .ok (.ret u), hr =>
    obtain ⟨v, H', os, bare, un, ok', rl, rfl⟩ := hr
    obtain rfl : u = Value.bool true := rl
    have tab : ∃ more : Array Value, s'.heap.get? T = some { cls := .none, data := .fields more } := by
      obtain ⟨more, e⟩ := un.tbls T #[] atT
      exact ⟨_, ok' T _ e⟩
    have stay : ∀ b o, b ≠ T → s.heap.get? b = some o → s'.heap.get? b = some o := fun b o hb e => by
      cases q : H b with
      | none => exact un.keep b o e q (fun z => by cases z) (fun z => by cases z)
      | some u =>
        have q1 := q
        rw [eH] at q1
        rcases hp0_in q1 with ⟨z, _⟩ | ⟨rfl, _, rfl⟩
        · exact absurd z hb
        · have h2 := (ok' b _ (un.frzs b _ _ q)).1
          rw [hA] at e
          cases e
          exact h2
    refine ⟨rfl, ⟨fun b o e => ?_, fun b o e => ?_⟩, os, bare⟩
    · by_cases hb : b = T
      · subst hb
        rw [hT] at e
        cases e
        obtain ⟨more, hm⟩ := tab
        exact .inr (.inl ⟨(hc.tab hT).isCodeTable, rfl, #[], more, rfl, by rw [Array.empty_append]; exact hm⟩)
      · exact .inl (stay b o hb e)
    · by_cases hb : b = T
      · subst hb
        obtain ⟨more, hm⟩ := tab
        exact ⟨_, hm⟩
      · exact ⟨o, stay b o hb e⟩
end
/-- the end of a law: the call from the claim's caller -/
theorem walk_here {l : PySem.W.OpenLaw} {n : Nat} {q : Program} {loose : List Str} {XP : (Str → Option Value) → Heap → Prop} {YP : PySem.World → Heap → Prop} {d : PySem.DefRec} (hn : l.most = some n) (hz : n ≤ sizeLine) (hd : d.params.defaults = [])
    (F : ∀ (w : PySem.World) (mg : Str → Option Value) (fa : Addr) (h : Heap), YP w h → h.Ns mainGlobals mg → mg d.name = some (.ref fa) → ∃ (K : PySem.W.Frag) (c T : Addr), K.In h ∧ h.get? T = some tabO ∧ K.lookup T = none ∧ PySem.W.CodeHd h c T ∧
      ∀ base : Heap, K.In base → base.Ns mainGlobals mg → LamX.TabB base mg c T → CallHere l.prog w K mg base fa T n) :
    PySem.W.WalkO q loose XP YP l.row.toRowW d [] (fun f vs => PySem.call f vs) := by
  refine Att.attach_callB hn hd fun w s₀ s₁ mg mb fa o pm cd doc a vs ns G Y ho hdt hcd hmg hobj hints hlen hbits hg => ?_
  obtain ⟨K, c, T, KX, hT, nT, hc, hF⟩ := F w mg fa _ Y G.T.g hmg
  exact law_here KX G.T.g G.T.b G.T.builtins G.T.nolimit hg hT nT hc G.T.bmain hobj hints hlen hz hF
end Cv

set_option maxHeartbeats 8000000
/-! Countveil, the end 2: what the top has left, by names; every def's promise. -/
namespace Cv
open PySem PySem.Spec PyProof.Rows L2
def dG (x : Str) (st : Stmt) : He.DefD := ⟨(x, none), x, x, defArgs st, defBody st, defScope st, [], []⟩
def dM (m q : Str) (st : Stmt) : He.DefD := ⟨("Moves", some m), m, q, defArgs st, defBody st, defScope st, [], []⟩
def hFacts0 : List He.Fa := [.free "isinstance", .free "int", .free "bool", .free "list", .free "tuple", .free "all", .free "any", .free "len", .free "enumerate", .free "zip", .free "range", .free "sorted", .free "min", .free "repr", .free "abs", .int "MOST_SIDE" 6, .int "MOST_CELL" (10 ^ 9), .int "MOST_GUARDS" 8, .int "MOST_SMALL" 16, .glo "is_whole"]
def hFacts1 : List He.Fa := [.glo "is_block", .glo "sheet_in", .glo "is_place", .glo "must_be_sheet", .glo "paper_of", .glo "is_guard", .glo "are_guards", .glo "must_be_guarded", .glo "first_told", .glo "ends_of", .glo "safe_in", .glo "must_be_asked", .glo "safe_wrong", .glo "places_of", .glo "must_be_cells", .glo "pattern", .glo "is_lone", .glo "fewest", .glo "_law_left", .glo "_law_draw"]
def hFacts2 : List He.Fa := [.glo "_law_pick", .glo "_law_block", .glo "_law_spots", .glo "_law_guards", .glo "_law_lists", .glo "_law_due", .glo "_law_lone", .glo "_law_as_many", .glo "law", .glo "lists_of", .glo "Moves", .cls "Moves", .noat "Moves" "world", .noat "Moves" "place", .noat "Moves" "up", .noat "Moves" "others", .meth "Moves" "reached", .meth "Moves" "way", .meth "Moves" "move", .meth "Moves" "standing"]
def hFacts3 : List He.Fa := [.mkr "Moves"]
def hFacts : List He.Fa := hFacts0 ++ hFacts1 ++ hFacts2 ++ hFacts3
def hDefs0 : List He.DefD := [dG "is_whole" sWhole, dG "is_block" sBlock, dG "sheet_in" sSheetIn, dG "is_place" sPlace, dG "must_be_sheet" sMustSheet, dG "paper_of" sPaper, dG "is_guard" sGuard, dG "are_guards" sGuards, dG "must_be_guarded" sMustG, dG "first_told" sTold, dG "ends_of" sEnds, dG "safe_in" sSafeIn, dG "must_be_asked" sMustAsk, dG "safe_wrong" sSafeWrong, dG "places_of" sPlaces, dG "must_be_cells" sMustCells, dG "pattern" sPattern, dG "is_lone" sLone, dG "fewest" sFewest, dG "_law_left" sLLeft]
def hDefs1 : List He.DefD := [dG "_law_draw" sLDraw, dG "_law_pick" sLPick, dG "_law_block" sLBlock, dG "_law_spots" sLSpots, dG "_law_guards" sLGuards, dG "_law_lists" sLLists, dG "_law_due" sLDue, dG "_law_lone" sLLone, dG "_law_as_many" sLMany, dG "law" sLaw, dG "lists_of" sLists, dM "__init__" "Moves.__init__" sInit, dM "reached" "Moves.reached" sReached, dM "way" "Moves.way" sWay, dM "move" "Moves.move" sMove, dM "standing" "Moves.standing" sStanding]
def hDefs : List He.DefD := hDefs0 ++ hDefs1
def hTabs : List He.Defn := [("lists_of", none)]
def hEx : PySem.W.Frag → Bool := fun _ => true
theorem funD_fun {K : PySem.W.Frag} {x qual : Str} {st : Stmt} {f : Addr} {fd : FuncData} (F : FunD K x qual (defArgs st) (defBody st) (defScope st) [] [] f fd) : Fun K x qual st f fd := by
  obtain ⟨⟨oc, od, dV, kV, doc, pm, an, cdv, ct, osl, e, lk, hc, df, kw⟩, kp⟩ := F
  rcases df with ⟨_, rfl⟩ | ⟨z, _⟩
  · exact ⟨⟨oc, od, kV, doc, pm, an, cdv, ct, osl, e, lk, hc⟩, kp⟩
  · exact absurd rfl z
theorem funD_code {K : PySem.W.Frag} {x : Str} {st : Stmt} {fd : FuncData} (F : FunD K x x (defArgs st) (defBody st) (defScope st) [] [] (He.fAd K (x, none)) fd) : FunC K x x st (He.fAd K (x, none)) fd (He.codeOf K (x, none)) := by
  obtain ⟨⟨oc, od, dV, kV, doc, pm, an, cdv, ct, osl, e, lk, hc, df, kw⟩, kp⟩ := F
  obtain ⟨c, rfl⟩ := He.codeIn_ref hc
  have ec : He.codeOf K (x, none) = c := He.codeOf_eq lk (by rw [e] <;> rfl)
  rw [ec]
  rcases df with ⟨_, rfl⟩ | ⟨z, _⟩
  · exact ⟨⟨oc, od, kV, doc, pm, an, ct, osl, e, lk, hc⟩, kp⟩
  · exact absurd rfl z
section
variable {P : Program} {w : PySem.World} {K : PySem.W.Frag} {mg : Str → Option Value} {h base : Heap} {fa : Addr}
theorem tabs0 {Pt : Addr} {H : Hp} (e : H Pt = some (.tbl #[])) : LamX.Tabs [(Pt, lamQ)] H := fun p hp => by
  rw [List.mem_singleton] at hp
  subst hp
  refine ⟨#[], e, ?_, fun pos cv z => ?_⟩
  · first
      | trivial
      | exact TriplesOk.nil
      | simp [TriplesOk]
  · first
      | cases z
      | (simp [codeAmong] at z)
theorem def_g (c : He.SaysD hFacts hDefs K) (i : Nat) (x : Str) (st : Stmt) (e : hDefs[i]? = some (dG x st)) : ∃ fd, Fun K x x st (He.ga K x) fd := by
  obtain ⟨fd, F⟩ := c.def_ i e
  exact ⟨fd, funD_fun F⟩
theorem def_m (c : He.SaysD hFacts hDefs K) (i : Nat) (m q : Str) (st : Stmt) (e : hDefs[i]? = some (dM m q st)) : ∃ fd, Fun K m q st (He.ma K (He.ga K "Moves") m) fd := by
  obtain ⟨fd, F⟩ := c.def_ i e
  exact ⟨fd, funD_fun F⟩
theorem all_here (X : K.In h) (N : h.Ns mainGlobals mg) (c : He.SaysD hFacts hDefs K) (hfa : mg "law" = some (.ref fa)) (TB : LamX.TabB base mg (He.cT K ("lists_of", none)).1 (He.cT K ("lists_of", none)).2) : CallHere P w K mg base fa (He.cT K ("lists_of", none)).2 63 := by
  have G : Gb mg :=
    { isi := He.free_ok X N (c.fact 0 (f := .free "isinstance") rfl),
      int := He.free_ok X N (c.fact 1 (f := .free "int") rfl),
      bool := He.free_ok X N (c.fact 2 (f := .free "bool") rfl),
      list := He.free_ok X N (c.fact 3 (f := .free "list") rfl),
      tuple := He.free_ok X N (c.fact 4 (f := .free "tuple") rfl),
      all := He.free_ok X N (c.fact 5 (f := .free "all") rfl),
      any := He.free_ok X N (c.fact 6 (f := .free "any") rfl),
      len := He.free_ok X N (c.fact 7 (f := .free "len") rfl),
      enum := He.free_ok X N (c.fact 8 (f := .free "enumerate") rfl),
      zip := He.free_ok X N (c.fact 9 (f := .free "zip") rfl),
      range := He.free_ok X N (c.fact 10 (f := .free "range") rfl),
      sorted := He.free_ok X N (c.fact 11 (f := .free "sorted") rfl),
      min := He.free_ok X N (c.fact 12 (f := .free "min") rfl),
      repr := He.free_ok X N (c.fact 13 (f := .free "repr") rfl),
      abs := He.free_ok X N (c.fact 14 (f := .free "abs") rfl),
      side := He.int_ok X N (c.fact 15 (f := .int "MOST_SIDE" 6) rfl),
      cell := He.int_ok X N (c.fact 16 (f := .int "MOST_CELL" (10 ^ 9)) rfl),
      guards := He.int_ok X N (c.fact 17 (f := .int "MOST_GUARDS" 8) rfl),
      small := He.int_ok X N (c.fact 18 (f := .int "MOST_SMALL" 16) rfl) }
  have g_whole : mg "is_whole" = some (.ref (He.ga K "is_whole")) := He.glo_ok X N (c.fact 19 (f := .glo "is_whole") rfl)
  have g_block : mg "is_block" = some (.ref (He.ga K "is_block")) := He.glo_ok X N (c.fact 20 (f := .glo "is_block") rfl)
  have g_sheetIn : mg "sheet_in" = some (.ref (He.ga K "sheet_in")) := He.glo_ok X N (c.fact 21 (f := .glo "sheet_in") rfl)
  have g_place : mg "is_place" = some (.ref (He.ga K "is_place")) := He.glo_ok X N (c.fact 22 (f := .glo "is_place") rfl)
  have g_mustSheet : mg "must_be_sheet" = some (.ref (He.ga K "must_be_sheet")) := He.glo_ok X N (c.fact 23 (f := .glo "must_be_sheet") rfl)
  have g_paper : mg "paper_of" = some (.ref (He.ga K "paper_of")) := He.glo_ok X N (c.fact 24 (f := .glo "paper_of") rfl)
  have g_guard : mg "is_guard" = some (.ref (He.ga K "is_guard")) := He.glo_ok X N (c.fact 25 (f := .glo "is_guard") rfl)
  have g_guards : mg "are_guards" = some (.ref (He.ga K "are_guards")) := He.glo_ok X N (c.fact 26 (f := .glo "are_guards") rfl)
  have g_mustG : mg "must_be_guarded" = some (.ref (He.ga K "must_be_guarded")) := He.glo_ok X N (c.fact 27 (f := .glo "must_be_guarded") rfl)
  have g_told : mg "first_told" = some (.ref (He.ga K "first_told")) := He.glo_ok X N (c.fact 28 (f := .glo "first_told") rfl)
  have g_ends : mg "ends_of" = some (.ref (He.ga K "ends_of")) := He.glo_ok X N (c.fact 29 (f := .glo "ends_of") rfl)
  have g_safeIn : mg "safe_in" = some (.ref (He.ga K "safe_in")) := He.glo_ok X N (c.fact 30 (f := .glo "safe_in") rfl)
  have g_mustAsk : mg "must_be_asked" = some (.ref (He.ga K "must_be_asked")) := He.glo_ok X N (c.fact 31 (f := .glo "must_be_asked") rfl)
  have g_safeWrong : mg "safe_wrong" = some (.ref (He.ga K "safe_wrong")) := He.glo_ok X N (c.fact 32 (f := .glo "safe_wrong") rfl)
  have g_places : mg "places_of" = some (.ref (He.ga K "places_of")) := He.glo_ok X N (c.fact 33 (f := .glo "places_of") rfl)
  have g_mustCells : mg "must_be_cells" = some (.ref (He.ga K "must_be_cells")) := He.glo_ok X N (c.fact 34 (f := .glo "must_be_cells") rfl)
  have g_pattern : mg "pattern" = some (.ref (He.ga K "pattern")) := He.glo_ok X N (c.fact 35 (f := .glo "pattern") rfl)
  have g_lone : mg "is_lone" = some (.ref (He.ga K "is_lone")) := He.glo_ok X N (c.fact 36 (f := .glo "is_lone") rfl)
  have g_fewest : mg "fewest" = some (.ref (He.ga K "fewest")) := He.glo_ok X N (c.fact 37 (f := .glo "fewest") rfl)
  have g_lleft : mg "_law_left" = some (.ref (He.ga K "_law_left")) := He.glo_ok X N (c.fact 38 (f := .glo "_law_left") rfl)
  have g_ldraw : mg "_law_draw" = some (.ref (He.ga K "_law_draw")) := He.glo_ok X N (c.fact 39 (f := .glo "_law_draw") rfl)
  have g_lpick : mg "_law_pick" = some (.ref (He.ga K "_law_pick")) := He.glo_ok X N (c.fact 40 (f := .glo "_law_pick") rfl)
  have g_lblock : mg "_law_block" = some (.ref (He.ga K "_law_block")) := He.glo_ok X N (c.fact 41 (f := .glo "_law_block") rfl)
  have g_lspots : mg "_law_spots" = some (.ref (He.ga K "_law_spots")) := He.glo_ok X N (c.fact 42 (f := .glo "_law_spots") rfl)
  have g_lguards : mg "_law_guards" = some (.ref (He.ga K "_law_guards")) := He.glo_ok X N (c.fact 43 (f := .glo "_law_guards") rfl)
  have g_llists : mg "_law_lists" = some (.ref (He.ga K "_law_lists")) := He.glo_ok X N (c.fact 44 (f := .glo "_law_lists") rfl)
  have g_ldue : mg "_law_due" = some (.ref (He.ga K "_law_due")) := He.glo_ok X N (c.fact 45 (f := .glo "_law_due") rfl)
  have g_llone : mg "_law_lone" = some (.ref (He.ga K "_law_lone")) := He.glo_ok X N (c.fact 46 (f := .glo "_law_lone") rfl)
  have g_lmany : mg "_law_as_many" = some (.ref (He.ga K "_law_as_many")) := He.glo_ok X N (c.fact 47 (f := .glo "_law_as_many") rfl)
  have g_law : mg "law" = some (.ref (He.ga K "law")) := He.glo_ok X N (c.fact 48 (f := .glo "law") rfl)
  have g_lists : mg "lists_of" = some (.ref (He.ga K "lists_of")) := He.glo_ok X N (c.fact 49 (f := .glo "lists_of") rfl)
  have g_Moves : mg "Moves" = some (.ref (He.ga K "Moves")) := He.glo_ok X N (c.fact 50 (f := .glo "Moves") rfl)
  obtain ⟨fd_whole, F_whole⟩ := def_g c 0 "is_whole" sWhole rfl
  obtain ⟨fd_block, F_block⟩ := def_g c 1 "is_block" sBlock rfl
  obtain ⟨fd_sheetIn, F_sheetIn⟩ := def_g c 2 "sheet_in" sSheetIn rfl
  obtain ⟨fd_place, F_place⟩ := def_g c 3 "is_place" sPlace rfl
  obtain ⟨fd_mustSheet, F_mustSheet⟩ := def_g c 4 "must_be_sheet" sMustSheet rfl
  obtain ⟨fd_paper, F_paper⟩ := def_g c 5 "paper_of" sPaper rfl
  obtain ⟨fd_guard, F_guard⟩ := def_g c 6 "is_guard" sGuard rfl
  obtain ⟨fd_guards, F_guards⟩ := def_g c 7 "are_guards" sGuards rfl
  obtain ⟨fd_mustG, F_mustG⟩ := def_g c 8 "must_be_guarded" sMustG rfl
  obtain ⟨fd_told, F_told⟩ := def_g c 9 "first_told" sTold rfl
  obtain ⟨fd_ends, F_ends⟩ := def_g c 10 "ends_of" sEnds rfl
  obtain ⟨fd_safeIn, F_safeIn⟩ := def_g c 11 "safe_in" sSafeIn rfl
  obtain ⟨fd_mustAsk, F_mustAsk⟩ := def_g c 12 "must_be_asked" sMustAsk rfl
  obtain ⟨fd_safeWrong, F_safeWrong⟩ := def_g c 13 "safe_wrong" sSafeWrong rfl
  obtain ⟨fd_places, F_places⟩ := def_g c 14 "places_of" sPlaces rfl
  obtain ⟨fd_mustCells, F_mustCells⟩ := def_g c 15 "must_be_cells" sMustCells rfl
  obtain ⟨fd_pattern, F_pattern⟩ := def_g c 16 "pattern" sPattern rfl
  obtain ⟨fd_lone, F_lone⟩ := def_g c 17 "is_lone" sLone rfl
  obtain ⟨fd_fewest, F_fewest⟩ := def_g c 18 "fewest" sFewest rfl
  obtain ⟨fd_lleft, F_lleft⟩ := def_g c 19 "_law_left" sLLeft rfl
  obtain ⟨fd_ldraw, F_ldraw⟩ := def_g c 20 "_law_draw" sLDraw rfl
  obtain ⟨fd_lpick, F_lpick⟩ := def_g c 21 "_law_pick" sLPick rfl
  obtain ⟨fd_lblock, F_lblock⟩ := def_g c 22 "_law_block" sLBlock rfl
  obtain ⟨fd_lspots, F_lspots⟩ := def_g c 23 "_law_spots" sLSpots rfl
  obtain ⟨fd_lguards, F_lguards⟩ := def_g c 24 "_law_guards" sLGuards rfl
  obtain ⟨fd_llists, F_llists⟩ := def_g c 25 "_law_lists" sLLists rfl
  obtain ⟨fd_ldue, F_ldue⟩ := def_g c 26 "_law_due" sLDue rfl
  obtain ⟨fd_llone, F_llone⟩ := def_g c 27 "_law_lone" sLLone rfl
  obtain ⟨fd_lmany, F_lmany⟩ := def_g c 28 "_law_as_many" sLMany rfl
  obtain ⟨fd_law, F_law⟩ := def_g c 29 "law" sLaw rfl
  obtain ⟨fd_init, F_init⟩ := def_m c 31 "__init__" "Moves.__init__" sInit rfl
  obtain ⟨fd_reached, F_reached⟩ := def_m c 32 "reached" "Moves.reached" sReached rfl
  obtain ⟨fd_way, F_way⟩ := def_m c 33 "way" "Moves.way" sWay rfl
  obtain ⟨fd_move, F_move⟩ := def_m c 34 "move" "Moves.move" sMove rfl
  obtain ⟨fd_standing, F_standing⟩ := def_m c 35 "standing" "Moves.standing" sStanding rfl
  have T : Mt K (He.ga K "Moves") := ⟨He.cls_ok (c.fact 51 (f := .cls "Moves") rfl), He.noat_ok (c.fact 52 (f := .noat "Moves" "world") rfl), He.noat_ok (c.fact 53 (f := .noat "Moves" "place") rfl), He.noat_ok (c.fact 54 (f := .noat "Moves" "up") rfl), He.noat_ok (c.fact 55 (f := .noat "Moves" "others") rfl)⟩
  have h_whole : Has P w K mg base 1 "is_whole" ["thing"] spWhole := ⟨_, fd_whole, g_whole, F_whole.kp, (F_whole.binds fun _ _ _ _ _ _ us hl => match us, hl with | [_], _ => rfl), ok_whole F_whole G⟩
  have h_place : Has P w K mg base 2 "is_place" ["cells", "thing"] spPlace := ⟨_, fd_place, g_place, F_place.kp, (F_place.binds fun _ _ _ _ _ _ us hl => match us, hl with | [_, _], _ => rfl), ok_place F_place G h_whole⟩
  have h_block : Has P w K mg base 2 "is_block" ["thing", "most"] spBlock := ⟨_, fd_block, g_block, F_block.kp, (F_block.binds fun _ _ _ _ _ _ us hl => match us, hl with | [_, _], _ => rfl), ok_block F_block G h_whole⟩
  have h_sheetIn : Has P w K mg base 3 "sheet_in" ["thing"] spSheetIn := ⟨_, fd_sheetIn, g_sheetIn, F_sheetIn.kp, (F_sheetIn.binds fun _ _ _ _ _ _ us hl => match us, hl with | [_], _ => rfl), ok_sheetIn F_sheetIn G h_block h_place⟩
  have h_mustSheet : Has P w K mg base 4 "must_be_sheet" ["sheet"] spSheetIn := ⟨_, fd_mustSheet, g_mustSheet, F_mustSheet.kp, (F_mustSheet.binds fun _ _ _ _ _ _ us hl => match us, hl with | [_], _ => rfl), ok_mustSheet F_mustSheet h_sheetIn⟩
  have h_init : HasC P w K mg base 1 (He.ga K "Moves") "Moves" ["self", "sheet", "place", "up"] (spInit (He.ga K "Moves")) := ⟨_, fd_init, g_Moves, He.mkr_ok (c.fact 60 (f := .mkr "Moves") rfl), (F_init.binds fun _ _ _ _ _ _ us hl => match us, hl with | [_, _, _, _], _ => rfl), ok_init F_init G T⟩
  have h_reached : HasM P w K mg base 1 (He.ga K "Moves") "reached" ["self"] (spReached (He.ga K "Moves")) := ⟨_, fd_reached, He.meth_ok (c.fact 56 (f := .meth "Moves" "reached") rfl), (F_reached.binds fun _ _ _ _ _ _ us hl => match us, hl with | [_], _ => rfl), ok_reached F_reached T⟩
  have h_way : HasM P w K mg base 1 (He.ga K "Moves") "way" ["self", "rows", "columns"] (spWay (He.ga K "Moves")) := ⟨_, fd_way, He.meth_ok (c.fact 57 (f := .meth "Moves" "way") rfl), (F_way.binds fun _ _ _ _ _ _ us hl => match us, hl with | [_, _, _], _ => rfl), ok_way F_way T⟩
  have h_standing : HasM P w K mg base 1 (He.ga K "Moves") "standing" ["self"] (spStanding (He.ga K "Moves")) := ⟨_, fd_standing, He.meth_ok (c.fact 59 (f := .meth "Moves" "standing") rfl), (F_standing.binds fun _ _ _ _ _ _ us hl => match us, hl with | [_], _ => rfl), ok_standing F_standing T⟩
  have h_move : HasM P w K mg base 2 (He.ga K "Moves") "move" ["self"] (spMove (He.ga K "Moves")) := ⟨_, fd_move, He.meth_ok (c.fact 58 (f := .meth "Moves" "move") rfl), (F_move.binds fun _ _ _ _ _ _ us hl => match us, hl with | [_], _ => rfl), ok_move F_move G T h_reached h_way h_standing⟩
  have h_paper : Has P w K mg base 3 "paper_of" ["sheet", "place"] spPaper := ⟨_, fd_paper, g_paper, F_paper.kp, (F_paper.binds fun _ _ _ _ _ _ us hl => match us, hl with | [_, _], _ => rfl), ok_paper F_paper G T h_init h_move h_standing⟩
  have h_guard : Has P w K mg base 3 "is_guard" ["cells", "thing"] spGuard := ⟨_, fd_guard, g_guard, F_guard.kp, (F_guard.binds fun _ _ _ _ _ _ us hl => match us, hl with | [_, _], _ => rfl), ok_guard F_guard G h_whole h_place⟩
  have h_guards : Has P w K mg base 4 "are_guards" ["cells", "thing"] spGuards := ⟨_, fd_guards, g_guards, F_guards.kp, (F_guards.binds fun _ _ _ _ _ _ us hl => match us, hl with | [_, _], _ => rfl), ok_guards F_guards G h_guard⟩
  have h_mustG : Has P w K mg base 5 "must_be_guarded" ["cells", "guards"] spMustG := ⟨_, fd_mustG, g_mustG, F_mustG.kp, (F_mustG.binds fun _ _ _ _ _ _ us hl => match us, hl with | [_, _], _ => rfl), ok_mustG F_mustG h_guards⟩
  have h_mustAsk : Has P w K mg base 6 "must_be_asked" ["sheet", "guards"] spMustAsk := ⟨_, fd_mustAsk, g_mustAsk, F_mustAsk.kp, (F_mustAsk.binds fun _ _ _ _ _ _ us hl => match us, hl with | [_, _], _ => rfl), ok_mustAsk F_mustAsk h_mustSheet h_mustG⟩
  have h_told : Has P w K mg base 1 "first_told" ["sheet", "guards"] spTold := ⟨_, fd_told, g_told, F_told.kp, (F_told.binds fun _ _ _ _ _ _ us hl => match us, hl with | [_, _], _ => rfl), ok_told F_told G⟩
  have h_ends : Has P w K mg base 4 "ends_of" ["sheet", "guard"] spEnds := ⟨_, fd_ends, g_ends, F_ends.kp, (F_ends.binds fun _ _ _ _ _ _ us hl => match us, hl with | [_, _], _ => rfl), ok_ends F_ends h_paper⟩
  have h_safeIn : Has P w K mg base 5 "safe_in" ["sheet", "guards"] spSafeIn := ⟨_, fd_safeIn, g_safeIn, F_safeIn.kp, (F_safeIn.binds fun _ _ _ _ _ _ us hl => match us, hl with | [_, _], _ => rfl), ok_safeIn F_safeIn G h_told h_ends⟩
  have h_safeWrong : Has P w K mg base 7 "safe_wrong" ["sheet", "guards"] spSafeIn := ⟨_, fd_safeWrong, g_safeWrong, F_safeWrong.kp, (F_safeWrong.binds fun _ _ _ _ _ _ us hl => match us, hl with | [_, _], _ => rfl), ok_safeWrong F_safeWrong h_mustAsk h_safeIn⟩
  have h_places : Has P w K mg base 1 "places_of" ["cells"] spPlaces := ⟨_, fd_places, g_places, F_places.kp, (F_places.binds fun _ _ _ _ _ _ us hl => match us, hl with | [_], _ => rfl), ok_places F_places G⟩
  have h_mustCells : Has P w K mg base 6 "must_be_cells" ["cells", "guards"] spMustCells := ⟨_, fd_mustCells, g_mustCells, F_mustCells.kp, (F_mustCells.binds fun _ _ _ _ _ _ us hl => match us, hl with | [_, _], _ => rfl), ok_mustCells F_mustCells h_sheetIn h_mustG⟩
  have h_pattern : Has P w K mg base 7 "pattern" ["cells", "guards"] spPattern := ⟨_, fd_pattern, g_pattern, F_pattern.kp, (F_pattern.binds fun _ _ _ _ _ _ us hl => match us, hl with | [_, _], _ => rfl), ok_pattern F_pattern h_mustCells h_places h_safeIn⟩
  generalize ePt : (He.cT K ("lists_of", none)).2 = Pt at TB ⊢
  obtain ⟨fd_lists, D_lists⟩ := c.def_ 30 (d := dG "lists_of" sLists) rfl
  have C_lists : FunC K "lists_of" "lists_of" sLists (He.ga K "lists_of") fd_lists (He.cT K ("lists_of", none)).1 := funD_code D_lists
  have F_lists := C_lists.fun
  have h_lists : Has P w K mg base 2 "lists_of" ["places"] (spLists [(Pt, lamQ)]) := ⟨_, fd_lists, g_lists, F_lists.kp, (F_lists.binds fun _ _ _ _ _ _ us hl => match us, hl with | [_], _ => rfl), ok_lists C_lists G TB (List.mem_singleton.mpr rfl) (fun q hq _ => by rw [List.mem_singleton.mp hq])⟩
  have h_lone : Has P w K mg base 1 "is_lone" ["hidden"] spLone := ⟨_, fd_lone, g_lone, F_lone.kp, (F_lone.binds fun _ _ _ _ _ _ us hl => match us, hl with | [_], _ => rfl), ok_lone F_lone G⟩
  have h_fewest : Has P w K mg base 7 "fewest" ["cells", "guards"] (spFewest [(Pt, lamQ)]) := ⟨_, fd_fewest, g_fewest, F_fewest.kp, (F_fewest.binds fun _ _ _ _ _ _ us hl => match us, hl with | [_, _], _ => rfl), ok_fewest F_fewest G h_mustCells h_places h_safeIn h_lists h_lone⟩
  have h_lleft : Has P w K mg base 1 "_law_left" ["_law_script"] (spLLeft K) := ⟨_, fd_lleft, g_lleft, F_lleft.kp, (F_lleft.binds fun _ _ _ _ _ _ us hl => match us, hl with | [_], _ => rfl), ok_lleft F_lleft G⟩
  have h_ldraw : Has P w K mg base 1 "_law_draw" ["_law_left_here", "_law_out_of"] spLDraw := ⟨_, fd_ldraw, g_ldraw, F_ldraw.kp, (F_ldraw.binds fun _ _ _ _ _ _ us hl => match us, hl with | [_, _], _ => rfl), ok_ldraw F_ldraw G⟩
  have h_lpick : Has P w K mg base 2 "_law_pick" ["_law_left_here", "_law_things"] spLPick := ⟨_, fd_lpick, g_lpick, F_lpick.kp, (F_lpick.binds fun _ _ _ _ _ _ us hl => match us, hl with | [_, _], _ => rfl), ok_lpick F_lpick G h_ldraw⟩
  have h_lblock : Has P w K mg base 3 "_law_block" ["_law_left_here", "_law_most_rows", "_law_most_columns", "_law_worths"] spLBlock := ⟨_, fd_lblock, g_lblock, F_lblock.kp, (F_lblock.binds fun _ _ _ _ _ _ us hl => match us, hl with | [_, _, _, _], _ => rfl), ok_lblock F_lblock G h_ldraw h_lpick⟩
  have h_lspots : Has P w K mg base 1 "_law_spots" ["_law_block_here"] spLSpots := ⟨_, fd_lspots, g_lspots, F_lspots.kp, (F_lspots.binds fun _ _ _ _ _ _ us hl => match us, hl with | [_], _ => rfl), ok_lspots F_lspots G⟩
  have h_lguards : Has P w K mg base 2 "_law_guards" ["_law_left_here", "_law_block_here", "_law_places", "_law_far"] spLGuards := ⟨_, fd_lguards, g_lguards, F_lguards.kp, (F_lguards.binds fun _ _ _ _ _ _ us hl => match us, hl with | [_, _, _, _], _ => rfl), ok_lguards F_lguards G h_ldraw⟩
  have h_llists : Has P w K mg base 1 "_law_lists" ["_law_places"] spLLists := ⟨_, fd_llists, g_llists, F_llists.kp, (F_llists.binds fun _ _ _ _ _ _ us hl => match us, hl with | [_], _ => rfl), ok_llists F_llists G⟩
  have h_ldue : Has P w K mg base 8 "_law_due" ["_law_block_here", "_law_guards_here"] spLDue := ⟨_, fd_ldue, g_ldue, F_ldue.kp, (F_ldue.binds fun _ _ _ _ _ _ us hl => match us, hl with | [_, _], _ => rfl), ok_ldue F_ldue G h_safeWrong h_lspots h_llists⟩
  have h_llone : Has P w K mg base 1 "_law_lone" ["_law_hidden"] spLLone := ⟨_, fd_llone, g_llone, F_llone.kp, (F_llone.binds fun _ _ _ _ _ _ us hl => match us, hl with | [_], _ => rfl), ok_llone F_llone G⟩
  have h_lmany : Has P w K mg base 8 "_law_as_many" ["_law_left_here", "_law_block_here", "_law_guards_here", "_law_many"] (spLMany [(Pt, lamQ)]) := ⟨_, fd_lmany, g_lmany, F_lmany.kp, (F_lmany.binds fun _ _ _ _ _ _ us hl => match us, hl with | [_, _, _, _], _ => rfl), ok_lmany F_lmany G h_ldraw h_fewest⟩
  have efa : fa = He.ga K "law" := by
    rw [g_law] at hfa
    injection hfa with z
    injection z with z2
    exact z2.symm
  rw [efa]
  intro s H a ns e0 hn hT hS
  have b_law : Binds K fd_law ["_law_script"] [] := F_law.binds fun _ _ _ _ _ _ us hl => match us, hl with | [_], _ => rfl
  have KX : K.In s.heap := e0.mod.kin.keeps fun b o e => (e0.bs b o e).1
  obtain ⟨⟨oc, od, kV, doc, pm, an, cdv, ct, osl, efd, lk, hcd⟩, kp⟩ := F_law
  subst efd
  refine LamX.run_ofS (CX := CX0) (k := 8) (us := [.ref a]) (vs := [.ref a]) lk hcd scLaw ⟨rfl, by decide, by decide⟩ e0 (b_law s [.ref a] KX rfl) (.cons rfl .nil) rfl fun hr => ?_
  obtain ⟨t, p, q⟩ := law_body (P := P) (w := w) (base := base) (cdv := cdv) (outer := []) (E := E0) (Q := fun v _ => v = .bl true) G h_lleft h_ldraw h_lblock h_lspots h_lguards h_ldue h_fewest h_pattern h_llone h_lmany (by rfl) hr hS hn (tabs0 hT) (fun _ => rfl)
  exact ⟨t, p.nox, q⟩
end
end Cv

set_option maxHeartbeats 0
/-! Countveil, the end 3: the top's run in the kernel. -/
namespace Cv
open PySem PySem.W PySem.Calls PyProof.Rows
abbrev RR : OpenRow := OpenLaw.row PySem.Challenge.rw_countveil_k42_whole_fewest_hidden
abbrev qv : Program := view RR.prog [45]
def nmA : List PySem.Str := ["CountError", "NoGuards", "TooGreat", "NoSheet", "is_whole", "MOST_SIDE", "MOST_CELL", "is_block", "sheet_in", "is_place", "must_be_sheet", "Moves", "paper_of", "MOST_GUARDS", "MOST_SMALL", "is_guard", "are_guards", "must_be_guarded", "first_told", "ends_of"]
def nmB : List PySem.Str := ["safe_in", "must_be_asked", "safe_wrong", "places_of", "must_be_cells", "pattern", "lists_of", "is_lone", "fewest", "_law_left", "_law_draw", "_law_pick", "_law_block", "_law_spots", "_law_some", "_law_guards", "_law_lists", "_law_due", "_law_lone", "_law_as_many"]
def nm : List PySem.Str := nmA ++ nmB
abbrev hk : Hook := He.hookX 5 hFacts hDefs [] hTabs hEx
def ob (s : SharedT) : He.AlX := He.obsX 5 hFacts hDefs [] hTabs hEx (HandSHeadRun.getT s)
theorem ob_eq (s : SharedT) : ob s = hk.obs s.abs := He.obsX_eq (HandSHeadRun.getT_eq s)
theorem run (w : World) : HandSHeadRun.RunEq RR qv hk ob 20000 nm w := by
  intro os
  kernel_rfl
end Cv

/-! Countveil, the end 4: the statement. -/
open PySem PySem.W PySem.Calls PyProof.Rows
theorem PySem.Challenge.cw_countveil_k42_whole_fewest_hidden_holds : PySem.Challenge.rw_countveil_k42_whole_fewest_hidden.Holds := by
  w_on; o_law
  refine HandSHeadRun.head_any (r := OpenLaw.row PySem.Challenge.rw_countveil_k42_whole_fewest_hidden) (q := Cv.qv) (H := Cv.hk) (ob := Cv.ob) (M := 20000) (loose := Cv.nm) (d := HandSHeadRun.topDef (OpenLaw.row PySem.Challenge.rw_countveil_k42_whole_fewest_hidden).prog 45) (kwd := []) Cv.ob_eq
    (by kernel_rfl) (fun s => by kernel_rfl) Cv.run (by kernel_rfl) (by kernel_rfl) (by kernel_rfl) (by rfl) (by first | assumption | decide +kernel) (by decide +kernel) ⟨rfl, rfl, rfl, rfl, rfl, by decide +kernel⟩ ?hw ?hc
  case hw => w_witness2
  case hc =>
    refine Cv.walk_here (l := PySem.Challenge.rw_countveil_k42_whole_fewest_hidden) (n := 63) rfl (by decide) (by kernel_rfl) ?_
    intro w mg fa h Y G hmg0
    obtain ⟨K, KX, c⟩ := Y
    have hmg : mg ("law" : PySem.Str) = some (.ref fa) := by
      have e : (HandSHeadRun.topDef (OpenLaw.row PySem.Challenge.rw_countveil_k42_whole_fewest_hidden).prog 45).name = ("law" : PySem.Str) := by kernel_rfl
      rw [← e]
      exact hmg0
    have hm : (("lists_of", none) : He.Defn) ∈ Cv.hTabs := List.mem_singleton.mpr rfl
    exact ⟨K, (He.cT K ("lists_of", none)).1, (He.cT K ("lists_of", none)).2, KX, c.empty _ hm, c.out _ hm, codeHd_of_K KX (c.hd _ hm), fun base _ _ TB => Cv.all_here KX G c.t.d hmg TB⟩
