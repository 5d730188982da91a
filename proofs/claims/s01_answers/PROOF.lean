import PyProof.Rows.All
import Wide.All
import OpenK.AllK
import Wide.FinOn
import Open.SpecLaws
import KE.OsHead
import KE.OsGo
import HandS.ForSpec
import HandS.Comp
import HandS.Codes
import HandS.Evl
import PySem.Challenge.RW_icebreaks_s01_answers
set_option Elab.async false
set_option linter.all false
set_option maxRecDepth 100000
set_option maxHeartbeats 4000000
namespace Ib
open Km562 (Schedule)

/-! ### sums and thicknesses -/
theorem sum_nil : Km562.sum [] = 0 := rfl
theorem foldl_add (l : List Nat) : ∀ a : Nat, l.foldl (fun (a b : Nat) => a + b) a = a + l.foldl (fun (a b : Nat) => a + b) 0 := by
  induction l with
  | nil => intro a; rfl
  | cons x r ih => intro a; simp only [List.foldl_cons]; rw [ih (a + x), ih (0 + x)]; omega
theorem sum_cons (x : Nat) (l : List Nat) : Km562.sum (x :: l) = x + Km562.sum l := by
  unfold Km562.sum
  rw [List.foldl_cons, foldl_add]
  omega
theorem sum_append (l m : List Nat) : Km562.sum (l ++ m) = Km562.sum l + Km562.sum m := by
  induction l with
  | nil => simp [sum_nil]
  | cons x r ih => rw [List.cons_append, sum_cons, sum_cons, ih]; omega
theorem sum_snoc (l : List Nat) (x : Nat) : Km562.sum (l ++ [x]) = Km562.sum l + x := by
  rw [sum_append, sum_cons, sum_nil]; omega
theorem sum_le {m : Nat} : ∀ l : List Nat, (∀ x ∈ l, x ≤ m) → Km562.sum l ≤ m * l.length
  | [], _ => by simp [sum_nil]
  | x :: r, h => by
    have h1 := sum_le r fun y hy => h y (List.mem_cons_of_mem _ hy)
    have h2 := h x (List.mem_cons_self ..)
    rw [sum_cons, List.length_cons, Nat.mul_add]
    omega

/-- the thickness over the growth alone -/
def th (G : List Nat) (f l : Nat) : Nat := Km562.sum ((List.range (l + 1 - f)).map fun i => G.getD (f + i) 0)
/-- its first i days -/
def thp (G : List Nat) (f i : Nat) : Nat := Km562.sum ((List.range i).map fun j => G.getD (f + j) 0)
theorem thp_zero (G : List Nat) (f : Nat) : thp G f 0 = 0 := rfl
theorem thp_succ (G : List Nat) (f i : Nat) : thp G f (i + 1) = thp G f i + G.getD (f + i) 0 := by
  unfold thp
  rw [List.range_succ, List.map_append, List.map_cons, List.map_nil, sum_snoc]
theorem th_thp (G : List Nat) (f l : Nat) : th G f l = thp G f (l + 1 - f) := rfl
theorem thickness_th (s : Schedule) (f l : Nat) : Km562.thickness s f l = th s.growth f l := rfl
theorem thp_add (G : List Nat) (f i j : Nat) : thp G f (i + j) = thp G f i + thp G (f + i) j := by
  induction j with
  | zero => rfl
  | succ j ih =>
    rw [← Nat.add_assoc, thp_succ, thp_succ, ih, Nat.add_assoc f i j]
    omega
theorem th_split (G : List Nat) {f m l : Nat} (h1 : f ≤ m + 1) (h2 : m ≤ l) : th G f l = th G f m + th G (m + 1) l := by
  unfold th
  have e := thp_add G f (m + 1 - f) (l + 1 - (m + 1))
  unfold thp at e
  rw [show m + 1 - f + (l + 1 - (m + 1)) = l + 1 - f by omega, show f + (m + 1 - f) = m + 1 by omega] at e
  exact e
theorem getD_le {G : List Nat} {m : Nat} (h : ∀ g ∈ G, g ≤ m) (i : Nat) : G.getD i 0 ≤ m := by
  rw [List.getD_eq_getElem?_getD]
  cases e : G[i]? with
  | none => exact Nat.zero_le _
  | some x => exact h x (List.mem_of_getElem? e)
theorem thp_le {G : List Nat} (h : ∀ g ∈ G, g ≤ 30) (f i : Nat) : thp G f i ≤ 30 * i := by
  unfold thp
  have := sum_le (m := 30) ((List.range i).map fun j => G.getD (f + j) 0) (by
    intro x hx
    obtain ⟨j, _, rfl⟩ := List.mem_map.mp hx
    exact getD_le h _)
  rw [List.length_map, List.length_range] at this
  exact this
theorem th_le {G : List Nat} (h : ∀ g ∈ G, g ≤ 30) {f l : Nat} (hl : l + 1 ≤ 10) : th G f l ≤ 300 := by
  have := thp_le h f (l + 1 - f)
  rw [th_thp]
  omega
theorem thp_all (G : List Nat) : ∀ i, i ≤ G.length → thp G 0 i = Km562.sum (G.take i)
  | 0, _ => rfl
  | i + 1, h => by
    rw [thp_succ, thp_all G i (by omega), List.take_add_one, List.getElem?_eq_getElem (show i < G.length by omega), sum_append, Nat.zero_add]
    show _ + _ = _ + Km562.sum [_]
    rw [sum_cons, sum_nil, List.getD_eq_getElem?_getD, List.getElem?_eq_getElem (show i < G.length by omega)]
    rfl

/-! ### the state's invariant -/
structure Ok (s : Schedule) : Prop where
  len : s.growth.length ≤ 10
  gr : ∀ g ∈ s.growth, g ≤ 30
  tc : s.tripCost ≤ 9999
  mt : s.maxThickness ≤ 999
  asc : s.breaks.Pairwise (· < ·)
  inn : ∀ b ∈ s.breaks, b < s.growth.length

/-! ### the rows of efforts -/
abbrev Best := Option (Nat × List Nat)
def zo : Best → Int
  | none => -1
  | some r => (r.1 : Int)
theorem zo_none : zo none = -1 := rfl
theorem zo_some (r : Nat × List Nat) : zo (some r) = (r.1 : Int) := rfl
theorem zo_ge (b : Best) : -1 ≤ zo b := by
  cases b with
  | none => exact Int.le_refl _
  | some r => rw [zo_some]; omega
theorem zo_eq_none {b : Best} (h : zo b = -1) : b = none := by
  cases b with
  | none => rfl
  | some r => rw [zo_some] at h; omega
def Z (s : Schedule) (k f : Nat) : Int := zo (Km562.optimalFrom s k f)
def stp (s : Schedule) (k f : Nat) (best : Best) (i : Nat) : Best :=
  if s.maxThickness < Km562.thickness s f (f + i) then best
  else match Km562.optimalFrom s k (f + i + 1) with
  | none => best
  | some rest => match best with
    | none => some (Km562.effort s f (f + i) + rest.1, (f + i) :: rest.2)
    | some other => if Km562.effort s f (f + i) + rest.1 < other.1 then some (Km562.effort s f (f + i) + rest.1, (f + i) :: rest.2) else some other
def bst (s : Schedule) (k f i : Nat) : Best := (List.range i).foldl (stp s k f) none
theorem bst_zero (s : Schedule) (k f : Nat) : bst s k f 0 = none := rfl
theorem bst_succ (s : Schedule) (k f i : Nat) : bst s k f (i + 1) = stp s k f (bst s k f i) i := by
  unfold bst
  rw [List.range_succ, List.foldl_append]
  rfl
theorem opt_zero (s : Schedule) (f : Nat) : Km562.optimalFrom s 0 f = if s.growth.length ≤ f then some (0, []) else none := by
  rw [Km562.optimalFrom]
  rfl
theorem opt_succ (s : Schedule) (k f : Nat) : Km562.optimalFrom s (k + 1) f = bst s k f (s.growth.length - f) := by
  rw [Km562.optimalFrom]
  by_cases h : Km562.dayCount s ≤ f
  · rw [if_pos h]
    have e : s.growth.length - f = 0 := by
      have : s.growth.length ≤ f := h
      omega
    rw [e]
    rfl
  · rw [if_neg h]
    rfl
theorem Z_zero (s : Schedule) (f : Nat) : Z s 0 f = if s.growth.length ≤ f then 0 else -1 := by
  unfold Z
  rw [opt_zero]
  split <;> rfl
theorem Z_end (s : Schedule) (k : Nat) {f : Nat} (h : s.growth.length ≤ f) : Z s (k + 1) f = -1 := by
  unfold Z
  rw [opt_succ, show s.growth.length - f = 0 by omega]
  rfl
/-- effort_with -/
def ew (s : Schedule) (k f d : Nat) : Int := if Z s k (d + 1) = -1 ∨ (s.maxThickness : Int) < (th s.growth f d : Nat) then -1 else ((th s.growth f d * th s.growth f d : Nat) : Int) + Z s k (d + 1)
theorem ew_ge (s : Schedule) (k f d : Nat) : -1 ≤ ew s k f d := by
  unfold ew
  have := zo_ge (Km562.optimalFrom s k (d + 1))
  have h : -1 ≤ Z s k (d + 1) := this
  split <;> omega
def zst (b x : Int) : Int := if x ≠ -1 ∧ (b = -1 ∨ x < b) then x else b
theorem zo_stp (s : Schedule) (k f : Nat) (b : Best) (i : Nat) : zo (stp s k f b i) = zst (zo b) (ew s k f (f + i)) := by
  unfold stp zst ew Z
  rw [thickness_th]
  by_cases h : s.maxThickness < th s.growth f (f + i)
  · rw [if_pos h, if_pos (show _ ∨ _ from Or.inr (by omega))]
    rw [if_neg (fun q => q.1 rfl)]
  · rw [if_neg h]
    cases e : Km562.optimalFrom s k (f + i + 1) with
    | none =>
      rw [if_pos (show zo none = -1 ∨ _ from Or.inl rfl), if_neg (fun q => q.1 rfl)]
    | some rest =>
      have hn : ¬ (zo (some rest) = -1 ∨ (s.maxThickness : Int) < (th s.growth f (f + i) : Nat)) := by
        rw [zo_some]
        omega
      rw [if_neg hn]
      have ee : Km562.effort s f (f + i) = th s.growth f (f + i) * th s.growth f (f + i) := rfl
      cases b with
      | none =>
        rw [zo_none, if_pos ⟨by rw [zo_some]; omega, Or.inl rfl⟩]
        show ((_ + _ : Nat) : Int) = _
        rw [ee, zo_some]
        omega
      | some other =>
        show zo (if Km562.effort s f (f + i) + rest.1 < other.1 then _ else _) = _
        by_cases c : Km562.effort s f (f + i) + rest.1 < other.1
        · rw [if_pos c, if_pos ⟨by rw [zo_some]; omega, Or.inr (by rw [zo_some, zo_some, ← ee]; omega)⟩, zo_some, zo_some, ← ee]
          omega
        · rw [if_neg c, if_neg]
          rw [zo_some, zo_some, ← ee]
          omega
theorem Z_succ (s : Schedule) (k f : Nat) : Z s (k + 1) f = zo (bst s k f (s.growth.length - f)) := by
  unfold Z
  rw [opt_succ]
def row (s : Schedule) (k : Nat) : List Int := (List.range (s.growth.length + 1)).map (Z s k)
theorem row_get (s : Schedule) (k : Nat) {f : Nat} (h : f ≤ s.growth.length) : (row s k)[f]? = some (Z s k f) := by
  unfold row
  rw [List.getElem?_map, List.getElem?_range (by omega)]
  rfl
theorem row_length (s : Schedule) (k : Nat) : (row s k).length = s.growth.length + 1 := by
  unfold row
  rw [List.length_map, List.length_range]
theorem row_zero (s : Schedule) : row s 0 = (List.replicate s.growth.length (-1)) ++ [0] := by
  unfold row
  rw [List.range_succ, List.map_append, List.map_cons, List.map_nil, Z_zero, if_pos (Nat.le_refl _)]
  congr 1
  apply List.ext_getElem?
  intro i
  rw [List.getElem?_map, List.getElem?_replicate]
  by_cases h : i < s.growth.length
  · rw [List.getElem?_range h, if_pos h]
    show some _ = _
    rw [Z_zero, if_neg (by omega)]
  · rw [List.getElem?_eq_none (by simp; omega), if_neg h]
    rfl
theorem row_succ (s : Schedule) (k : Nat) : row s (k + 1) = ((List.range s.growth.length).map (Z s (k + 1))) ++ [-1] := by
  unfold row
  rw [List.range_succ, List.map_append, List.map_cons, List.map_nil, Z_end s k (Nat.le_refl _)]

/-! ### which days the optimal breaks take -/
theorem bst_none {s : Schedule} {k f : Nat} : ∀ {i : Nat}, bst s k f i = none → ∀ j, j < i → ew s k f (f + j) = -1
  | 0, _, j, h => absurd h (Nat.not_lt_zero _)
  | i + 1, e, j, h => by
    have z := zo_stp s k f (bst s k f i) i
    rw [← bst_succ, e, zo_none] at z
    unfold zst at z
    have g1 := ew_ge s k f (f + i)
    have g2 := zo_ge (bst s k f i)
    have e1 : zo (bst s k f i) = -1 ∧ ew s k f (f + i) = -1 := by
      split at z
      · rename_i c; exact absurd z.symm c.1
      · rename_i c
        refine ⟨z.symm, ?_⟩
        apply Classical.byContradiction
        intro q
        exact c ⟨q, Or.inl z.symm⟩
    rcases Nat.lt_succ_iff_lt_or_eq.mp h with h | h
    · exact bst_none (zo_eq_none e1.1) j h
    · rw [h]; exact e1.2
theorem stp_cases (s : Schedule) (k f : Nat) (b : Best) (i : Nat) : stp s k f b i = b ∨ ∃ w rest, Km562.optimalFrom s k (f + i + 1) = some (w, rest) ∧ ew s k f (f + i) = ((th s.growth f (f + i) * th s.growth f (f + i) + w : Nat) : Int) ∧
    stp s k f b i = some (th s.growth f (f + i) * th s.growth f (f + i) + w, (f + i) :: rest) ∧ ∀ o, b = some o → th s.growth f (f + i) * th s.growth f (f + i) + w < o.1 := by
  unfold stp
  rw [thickness_th]
  by_cases h : s.maxThickness < th s.growth f (f + i)
  · rw [if_pos h]; exact Or.inl rfl
  · rw [if_neg h]
    cases e : Km562.optimalFrom s k (f + i + 1) with
    | none => exact Or.inl rfl
    | some rest =>
      have he : ew s k f (f + i) = ((th s.growth f (f + i) * th s.growth f (f + i) + rest.1 : Nat) : Int) := by
        unfold ew Z
        rw [e, if_neg (by rw [zo_some]; omega), zo_some]
        omega
      cases b with
      | none => exact Or.inr ⟨rest.1, rest.2, rfl, he, rfl, fun o q => nomatch q⟩
      | some o =>
        show (if _ < _ then _ else _) = _ ∨ _
        by_cases c : Km562.effort s f (f + i) + rest.1 < o.1
        · rw [if_pos c]
          refine Or.inr ⟨rest.1, rest.2, rfl, he, ?_, fun o' q => ?_⟩
          · show (if _ < _ then _ else _) = _
            rw [if_pos c]
            rfl
          · cases q; exact c
        · rw [if_neg c]; exact Or.inl rfl
theorem bst_some {s : Schedule} {k f : Nat} : ∀ {i : Nat} {v : Nat} {ds : List Nat}, bst s k f i = some (v, ds) →
    ∃ j w rest, j < i ∧ ds = (f + j) :: rest ∧ Km562.optimalFrom s k (f + j + 1) = some (w, rest) ∧ ew s k f (f + j) = (v : Int) ∧ v = th s.growth f (f + j) * th s.growth f (f + j) + w ∧ (∀ j', j' < j → ew s k f (f + j') ≠ (v : Int)) ∧
      ∀ j', j' < i → ew s k f (f + j') = -1 ∨ (v : Int) ≤ ew s k f (f + j')
  | 0, v, ds, h => by rw [bst_zero] at h; cases h
  | i + 1, v, ds, h => by
    rw [bst_succ] at h
    have z := zo_stp s k f (bst s k f i) i
    rcases stp_cases s k f (bst s k f i) i with e | ⟨w, rest, e1, e2, e3, e4⟩
    · rw [h] at e
      obtain ⟨j, w, rest, h1, h2, h3, h4, h5, h6, h7⟩ := bst_some e.symm
      refine ⟨j, w, rest, by omega, h2, h3, h4, h5, h6, fun j' hj' => ?_⟩
      rcases Nat.lt_succ_iff_lt_or_eq.mp hj' with q | q
      · exact h7 j' q
      · rw [h, ← e, zo_some] at z
        unfold zst at z
        subst q
        split at z
        · rename_i c; right; omega
        · rename_i c
          by_cases x : ew s k f (f + j') = -1
          · exact Or.inl x
          · right
            apply Classical.byContradiction
            intro y
            exact c ⟨x, Or.inr (by omega)⟩
    · rw [e3] at h
      cases h
      refine ⟨i, w, rest, by omega, rfl, e1, e2, rfl, fun j' hj' q => ?_, fun j' hj' => ?_⟩
      · cases eb : bst s k f i with
        | none =>
          rw [bst_none eb j' hj'] at q
          omega
        | some o =>
          obtain ⟨o1, o2⟩ := o
          have lt := e4 (o1, o2) eb
          obtain ⟨_, _, _, _, _, _, _, _, _, h7⟩ := bst_some eb
          have := h7 j' hj'
          have lt' : th s.growth f (f + i) * th s.growth f (f + i) + w < o1 := lt
          omega
      · rcases Nat.lt_succ_iff_lt_or_eq.mp hj' with q | q
        · cases eb : bst s k f i with
          | none => exact Or.inl (bst_none eb j' q)
          | some o =>
            obtain ⟨o1, o2⟩ := o
            have lt' : th s.growth f (f + i) * th s.growth f (f + i) + w < o1 := e4 (o1, o2) eb
            obtain ⟨_, _, _, _, _, _, _, _, _, h7⟩ := bst_some eb
            rcases h7 j' q with x | x
            · exact Or.inl x
            · right; omega
        · subst q; right; omega
/-- the optimal breaks from f on, one more than k -/
theorem opt_some {s : Schedule} {k f v : Nat} {ds : List Nat} (h : Km562.optimalFrom s (k + 1) f = some (v, ds)) :
    ∃ d w rest, f ≤ d ∧ d < s.growth.length ∧ ds = d :: rest ∧ Km562.optimalFrom s k (d + 1) = some (w, rest) ∧ ew s k f d = (v : Int) ∧ v = th s.growth f d * th s.growth f d + w ∧ (∀ d', f ≤ d' → d' < d → ew s k f d' ≠ (v : Int)) := by
  rw [opt_succ] at h
  obtain ⟨j, w, rest, h1, h2, h3, h4, h5, h6, _⟩ := bst_some h
  refine ⟨f + j, w, rest, by omega, by omega, h2, h3, h4, h5, fun d' a b => ?_⟩
  have := h6 (d' - f) (by omega)
  rw [show f + (d' - f) = d' by omega] at this
  exact this
theorem opt_none {s : Schedule} {k f : Nat} (h : Km562.optimalFrom s (k + 1) f = none) {d : Nat} (h1 : f ≤ d) (h2 : d < s.growth.length) : ew s k f d = -1 := by
  rw [opt_succ] at h
  have := bst_none h (d - f) (by omega)
  rw [show f + (d - f) = d by omega] at this
  exact this
theorem opt_le {s : Schedule} {k f v : Nat} {ds : List Nat} (h : Km562.optimalFrom s (k + 1) f = some (v, ds)) {d : Nat} (h1 : f ≤ d) (h2 : d < s.growth.length) : ew s k f d = -1 ∨ (v : Int) ≤ ew s k f d := by
  rw [opt_succ] at h
  obtain ⟨_, _, _, _, _, _, _, _, _, h7⟩ := bst_some h
  have := h7 (d - f) (by omega)
  rw [show f + (d - f) = d by omega] at this
  exact this
theorem opt_len {s : Schedule} : ∀ {k f v : Nat} {ds : List Nat}, Km562.optimalFrom s k f = some (v, ds) → ds.length = k ∧ (∀ d ∈ ds, f ≤ d ∧ d < s.growth.length) ∧ ds.Pairwise (· < ·)
  | 0, f, v, ds, h => by
    rw [opt_zero] at h
    split at h
    · cases h
      exact ⟨rfl, fun d hd => absurd hd (by simp), List.Pairwise.nil⟩
    · cases h
  | k + 1, f, v, ds, h => by
    obtain ⟨d, w, rest, h1, h2, rfl, h3, _⟩ := opt_some h
    obtain ⟨a, b, c⟩ := opt_len h3
    refine ⟨by rw [List.length_cons, a], fun x hx => ?_, List.pairwise_cons.mpr ⟨fun x hx => ?_, c⟩⟩
    · rcases List.mem_cons.mp hx with rfl | hx
      · exact ⟨h1, h2⟩
      · have := b x hx; omega
    · have := b x hx; omega
theorem Z_some {s : Schedule} {k f : Nat} (h : Z s k f ≠ -1) : ∃ v ds, Km562.optimalFrom s k f = some (v, ds) ∧ Z s k f = (v : Int) := by
  unfold Z at h ⊢
  cases e : Km562.optimalFrom s k f with
  | none => rw [e] at h; exact absurd rfl h
  | some r => exact ⟨r.1, r.2, rfl, rfl⟩
theorem ew_ne {s : Schedule} {k f d : Nat} (h : ew s k f d ≠ -1) : Z s k (d + 1) ≠ -1 ∧ th s.growth f d ≤ s.maxThickness ∧ ew s k f d = ((th s.growth f d * th s.growth f d : Nat) : Int) + Z s k (d + 1) := by
  unfold ew at h ⊢
  split at h
  · exact absurd rfl h
  · rename_i c
    rw [if_neg c]
    refine ⟨fun q => c (Or.inl q), ?_, rfl⟩
    apply Classical.byContradiction
    intro q
    exact c (Or.inr (by omega))
theorem ew_of {s : Schedule} {k f d v : Nat} {ds : List Nat} (h : Km562.optimalFrom s k (d + 1) = some (v, ds)) (h2 : th s.growth f d ≤ s.maxThickness) : ew s k f d = ((th s.growth f d * th s.growth f d + v : Nat) : Int) := by
  unfold ew Z
  rw [h, zo_some, if_neg (by omega)]
  omega
/-- a first break that may be: the optimum exists and is no greater -/
theorem opt_via {s : Schedule} {k f d w : Nat} {ds : List Nat} (h : Km562.optimalFrom s k (d + 1) = some (w, ds)) (h1 : f ≤ d) (h2 : d < s.growth.length) (h3 : th s.growth f d ≤ s.maxThickness) :
    ∃ v es, Km562.optimalFrom s (k + 1) f = some (v, es) ∧ v ≤ th s.growth f d * th s.growth f d + w := by
  have e := ew_of h h3
  cases q : Km562.optimalFrom s (k + 1) f with
  | none =>
    have := opt_none q h1 h2
    omega
  | some r =>
    refine ⟨r.1, r.2, rfl, ?_⟩
    rcases opt_le (v := r.1) (ds := r.2) q h1 h2 with x | x <;> omega
end Ib
namespace Ib
open Km562 (Schedule)

/-! ### further breaks save, and the optimum is one -/
theorem opt_exists {s : Schedule} (o : Ok s) (hm : 300 ≤ s.maxThickness) : ∀ {k f : Nat}, 1 ≤ k → f + k ≤ s.growth.length → ∃ v ds, Km562.optimalFrom s k f = some (v, ds)
  | 0, _, h, _ => absurd h (by omega)
  | 1, f, _, h => by
    have len := o.len
    have e : Km562.optimalFrom s 0 (s.growth.length - 1 + 1) = some (0, []) := by rw [opt_zero, if_pos (by omega)]
    have t := th_le o.gr (f := f) (l := s.growth.length - 1) (by omega)
    obtain ⟨v, es, h1, _⟩ := opt_via (f := f) e (by omega) (by omega) (by omega)
    exact ⟨v, es, h1⟩
  | k + 2, f, _, h => by
    have len := o.len
    obtain ⟨w, ds, e⟩ := opt_exists o hm (k := k + 1) (f := f + 1) (by omega) (by omega)
    have t := th_le o.gr (f := f) (l := f) (by omega)
    obtain ⟨v, es, h1, _⟩ := opt_via e (Nat.le_refl f) (by omega) (by omega)
    exact ⟨v, es, h1⟩
theorem sq_split (a b : Nat) : a * a + b * b ≤ (a + b) * (a + b) := by
  rw [Nat.add_mul, Nat.mul_add, Nat.mul_add]
  omega
theorem opt_mono {s : Schedule} (o : Ok s) (hm : 300 ≤ s.maxThickness) : ∀ {k f v : Nat} {ds : List Nat}, 1 ≤ k → f + (k + 1) ≤ s.growth.length → Km562.optimalFrom s k f = some (v, ds) →
    ∃ v' es, Km562.optimalFrom s (k + 1) f = some (v', es) ∧ v' ≤ v
  | 0, _, _, _, h, _, _ => absurd h (by omega)
  | k + 1, f, v, ds, _, h2, h => by
    have len := o.len
    obtain ⟨d, w, rest, a1, a2, rfl, e, _, ev, _⟩ := opt_some h
    obtain ⟨l1, l2, l3⟩ := opt_len e
    have tfd := th_le o.gr (f := f) (l := d) (by omega)
    by_cases c : d + 1 + (k + 1) ≤ s.growth.length
    · cases k with
      | zero =>
        rw [opt_zero] at e
        split at e
        · omega
        · cases e
      | succ k =>
        obtain ⟨w', es, e', hw⟩ := opt_mono o hm (by omega) c e
        obtain ⟨v', es', h', hv⟩ := opt_via e' a1 a2 (by omega)
        exact ⟨v', es', h', by omega⟩
    · have hd : f < d := by omega
      have t2 := th_le o.gr (f := f + 1) (l := d) (by omega)
      have t3 := th_le o.gr (f := f) (l := f) (by omega)
      obtain ⟨w', es, e', hw⟩ := opt_via (f := f + 1) e (by omega) a2 (by omega)
      obtain ⟨v', es', h', hv⟩ := opt_via e' (Nat.le_refl f) (by omega) (by omega)
      refine ⟨v', es', h', ?_⟩
      have sp := th_split s.growth (f := f) (m := f) (l := d) (by omega) (by omega)
      have sq := sq_split (th s.growth f f) (th s.growth (f + 1) d)
      rw [← sp] at sq
      omega
/-- valid breaks from f on -/
def Vl (s : Schedule) : Nat → List Nat → Prop
  | f, [] => s.growth.length ≤ f
  | f, d :: r => f ≤ d ∧ d < s.growth.length ∧ th s.growth f d ≤ s.maxThickness ∧ Vl s (d + 1) r
def eff (s : Schedule) (f : Nat) (ds : List Nat) : Nat := Km562.sum ((Km562.thicknessesFrom s f ds).map fun x => x * x)
theorem totalEffort_eff (s : Schedule) (ds : List Nat) : Km562.totalEffort s ds = eff s 0 ds := rfl
theorem eff_cons (s : Schedule) (f d : Nat) (r : List Nat) : eff s f (d :: r) = th s.growth f d * th s.growth f d + eff s (d + 1) r := by
  unfold eff
  rw [Km562.thicknessesFrom, List.map_cons, sum_cons]
  rfl
theorem opt_best {s : Schedule} : ∀ {f : Nat} {ds : List Nat}, Vl s f ds → ∃ v es, Km562.optimalFrom s ds.length f = some (v, es) ∧ v ≤ eff s f ds
  | f, [], h => ⟨0, [], by rw [List.length_nil, opt_zero, if_pos (show s.growth.length ≤ f from h)], Nat.zero_le _⟩
  | f, d :: r, h => by
    obtain ⟨h1, h2, h3, h4⟩ := h
    obtain ⟨w, es, e, hw⟩ := opt_best h4
    obtain ⟨v, es', e', hv⟩ := opt_via e h1 h2 h3
    exact ⟨v, es', e', by rw [eff_cons]; omega⟩

/-! ### thicknesses of breaks -/
/-- where the thickness of the next break begins, behind some breaks -/
def fst_ (f : Nat) (ds : List Nat) : Nat := ds.foldl (fun _ d => d + 1) f
theorem fst_snoc (f : Nat) (ds : List Nat) (d : Nat) : fst_ f (ds ++ [d]) = d + 1 := by
  unfold fst_
  rw [List.foldl_append]
  rfl
theorem ths_snoc (s : Schedule) : ∀ (f : Nat) (ds : List Nat) (d : Nat), Km562.thicknessesFrom s f (ds ++ [d]) = Km562.thicknessesFrom s f ds ++ [th s.growth (fst_ f ds) d]
  | f, [], d => rfl
  | f, x :: r, d => by
    rw [List.cons_append, Km562.thicknessesFrom, Km562.thicknessesFrom, ths_snoc s (x + 1) r d]
    rfl
theorem ths_length (s : Schedule) : ∀ (f : Nat) (ds : List Nat), (Km562.thicknessesFrom s f ds).length = ds.length
  | f, [] => rfl
  | f, x :: r => by
    rw [Km562.thicknessesFrom, List.length_cons, List.length_cons, ths_length s (x + 1) r]
theorem ths_le {s : Schedule} (o : Ok s) : ∀ (f : Nat) (ds : List Nat), (∀ d ∈ ds, d < s.growth.length) → ∀ x ∈ Km562.thicknessesFrom s f ds, x ≤ 300
  | f, [], _, x, h => absurd h (by rw [Km562.thicknessesFrom]; simp)
  | f, d :: r, hd, x, h => by
    rw [Km562.thicknessesFrom] at h
    rcases List.mem_cons.mp h with rfl | h
    · have := hd d (List.mem_cons_self ..)
      have := o.len
      exact th_le o.gr (by omega)
    · exact ths_le o (d + 1) r (fun y hy => hd y (List.mem_cons_of_mem _ hy)) x h
theorem asc_len {n : Nat} : ∀ {l : List Nat} {f : Nat}, l.Pairwise (· < ·) → (∀ d ∈ l, f ≤ d ∧ d < n) → l.length ≤ n - f
  | [], _, _, _ => Nat.zero_le _
  | d :: r, f, h, hb => by
    have h1 := hb d (List.mem_cons_self ..)
    have h2 := List.pairwise_cons.mp h
    have := asc_len (f := d + 1) h2.2 fun x hx => ⟨h2.1 x hx, (hb x (List.mem_cons_of_mem _ hx)).2⟩
    rw [List.length_cons]
    omega
theorem Ok.brk {s : Schedule} (o : Ok s) : s.breaks.length ≤ s.growth.length := by
  have := asc_len (f := 0) o.asc fun d hd => ⟨Nat.zero_le _, o.inn d hd⟩
  omega
/-! ### validity -/
theorem valid_zero {s : Schedule} (o : Ok s) (h : s.growth.length = 0) : s.breaks = [] ∧ Km562.isValid s s.breaks = true := by
  have e : s.breaks = [] := by
    cases q : s.breaks with
    | nil => rfl
    | cons d r =>
      have := o.inn d (by rw [q]; exact List.mem_cons_self ..)
      omega
  refine ⟨e, ?_⟩
  rw [e]
  unfold Km562.isValid Km562.dayCount
  rw [h]
  rfl
theorem valid_nil {s : Schedule} (o : Ok s) (h : s.growth.length ≠ 0) (e : s.breaks = []) : Km562.isValid s s.breaks = false := by
  have len := o.len
  rw [e]
  unfold Km562.isValid Km562.dayCount
  have h1 : (s.growth.length == 0) = false := by simp [h]
  have h2 : (99 + 1 == s.growth.length) = false := by
    apply beq_false_of_ne
    omega
  show ((s.growth.length == 0 || 99 + 1 == s.growth.length) && _) = false
  rw [h1, h2]
  rfl
theorem valid_snoc {s : Schedule} (h : s.growth.length ≠ 0) {l : List Nat} {x : Nat} (e : s.breaks = l ++ [x]) : Km562.isValid s s.breaks = (decide (x + 1 = s.growth.length) && (Km562.thicknesses s s.breaks).all fun x => decide (x ≤ s.maxThickness)) := by
  rw [e]
  unfold Km562.isValid Km562.dayCount
  have h1 : (s.growth.length == 0) = false := by simp [h]
  rw [h1, List.reverse_append]
  show ((false || x + 1 == s.growth.length) && _) = _
  rw [Bool.false_or]
  rfl
theorem vl_of {s : Schedule} : ∀ {f : Nat} {ds : List Nat}, ds.Pairwise (· < ·) → (∀ d ∈ ds, f ≤ d ∧ d < s.growth.length) → (∀ x ∈ Km562.thicknessesFrom s f ds, x ≤ s.maxThickness) → (ds = [] → s.growth.length ≤ f) →
    (∀ l x, ds = l ++ [x] → x + 1 = s.growth.length) → Vl s f ds
  | f, [], _, _, _, h, _ => h rfl
  | f, d :: r, hp, hb, ht, _, hl => by
    have h1 := hb d (List.mem_cons_self ..)
    have h2 := List.pairwise_cons.mp hp
    rw [Km562.thicknessesFrom] at ht
    refine ⟨h1.1, h1.2, ht _ (List.mem_cons_self ..), ?_⟩
    refine vl_of h2.2 (fun x hx => ⟨h2.1 x hx, (hb x (List.mem_cons_of_mem _ hx)).2⟩) (fun x hx => ht x (List.mem_cons_of_mem _ hx)) (fun e => ?_) (fun l x e => hl (d :: l) x (by rw [e]; rfl))
    have := hl [] d (by rw [e]; rfl)
    omega
theorem valid_best {s : Schedule} (o : Ok s) (h : Km562.isValid s s.breaks = true) : ∃ v es, Km562.optimalFrom s s.breaks.length 0 = some (v, es) ∧ v ≤ Km562.totalEffort s s.breaks := by
  by_cases c : s.growth.length = 0
  · obtain ⟨e, _⟩ := valid_zero o c
    rw [e, List.length_nil, opt_zero, if_pos (by omega)]
    exact ⟨0, [], rfl, Nat.zero_le _⟩
  · by_cases q : s.breaks = []
    · rw [valid_nil o c q] at h
      cases h
    · have e : s.breaks = s.breaks.dropLast ++ [s.breaks.getLast q] := (List.dropLast_concat_getLast q).symm
      have vs := valid_snoc c e
      rw [h] at vs
      have vs' := Bool.and_eq_true_iff.mp vs.symm
      have hx := of_decide_eq_true vs'.1
      refine opt_best (vl_of o.asc (fun d hd => ⟨Nat.zero_le _, o.inn d hd⟩) (fun x hx => ?_) (fun e => absurd e q) (fun l x e' => ?_))
      · have := List.all_eq_true.mp vs'.2 x hx
        exact of_decide_eq_true this
      · rw [e] at e'
        have := (List.append_inj' e' rfl).2
        injection this with this _
        omega

/-! ### the last break before a day -/
def lbf (l : List Nat) : Nat := l.foldl (fun (first b : Nat) => max first (b + 1)) 0
theorem lbf_snoc (l : List Nat) (x : Nat) : lbf (l ++ [x]) = max (lbf l) (x + 1) := by
  unfold lbf
  rw [List.foldl_append]
  rfl
theorem fold_le {m : Nat} : ∀ (l : List Nat) (a : Nat), a ≤ m → (∀ b ∈ l, b + 1 ≤ m) → l.foldl (fun (first b : Nat) => max first (b + 1)) a ≤ m
  | [], a, h, _ => h
  | b :: r, a, h, hb => by
    rw [List.foldl_cons]
    exact fold_le r _ (by have := hb b (List.mem_cons_self ..); omega) fun x hx => hb x (List.mem_cons_of_mem _ hx)
theorem lbf_le {l : List Nat} {m : Nat} (h : ∀ b ∈ l, b < m) : lbf l ≤ m := fold_le l 0 (Nat.zero_le _) h
theorem lbf_asc {l : List Nat} {x : Nat} (h : (l ++ [x]).Pairwise (· < ·)) : lbf (l ++ [x]) = x + 1 := by
  rw [lbf_snoc]
  have : lbf l ≤ x := lbf_le fun b hb => (List.pairwise_append.mp h).2.2 b hb x (List.mem_cons_self ..)
  omega
/-- the place behind the last break before a day, of the first i breaks -/
def lb (l : List Nat) (day i : Nat) : Nat := lbf ((l.take i).filter fun b => decide (b < day))
theorem take_snoc {α : Type} : ∀ {l : List α} {i : Nat} {x : α}, l[i]? = some x → l.take (i + 1) = l.take i ++ [x]
  | [], i, x, h => by simp at h
  | a :: l, 0, x, h => by
    have e : a = x := Option.some.inj h
    subst e
    rfl
  | a :: l, i + 1, x, h => by
    have ih := take_snoc (l := l) (i := i) (x := x) h
    show a :: l.take (i + 1) = a :: l.take i ++ [x]
    rw [ih]
    rfl
theorem lb_zero (l : List Nat) (day : Nat) : lb l day 0 = 0 := rfl
theorem lb_yes {l : List Nat} {day i x : Nat} (ha : l.Pairwise (· < ·)) (h : l[i]? = some x) (hx : x < day) : lb l day (i + 1) = x + 1 := by
  unfold lb
  have e : ((l.take (i + 1)).filter fun b => decide (b < day)) = ((l.take i).filter fun b => decide (b < day)) ++ [x] := by
    rw [take_snoc h, List.filter_append, List.filter_cons, if_pos (decide_eq_true hx), List.filter_nil]
  rw [e]
  refine lbf_asc ?_
  rw [← e]
  exact (List.Pairwise.sublist (List.take_sublist _ _) ha).filter _
theorem lb_no {l : List Nat} {day i x : Nat} (h : l[i]? = some x) (hx : ¬ x < day) : lb l day (i + 1) = lb l day i := by
  unfold lb
  rw [take_snoc h, List.filter_append, List.filter_cons, if_neg (by simpa using hx), List.filter_nil, List.append_nil]
theorem lb_all (s : Schedule) (day : Nat) : Km562.thicknessAt s day = th s.growth (lb s.breaks day s.breaks.length) day := by
  unfold Km562.thicknessAt lb lbf
  rw [List.take_length, thickness_th]
theorem lb_le (l : List Nat) (day i : Nat) : lb l day i ≤ day := lbf_le fun b hb => of_decide_eq_true (List.mem_filter.mp hb).2

/-! ### a break put in, taken out -/
theorem ins_filter (x : Nat) : ∀ l : List Nat, ((Km562.insertDay x l).filter fun b => decide (b < x)) = l.filter fun b => decide (b < x)
  | [] => by rw [Km562.insertDay, List.filter_cons, if_neg (by simp)]
  | y :: r => by
    rw [Km562.insertDay]
    split
    · rfl
    · split
      · rw [List.filter_cons, if_neg (by simp)]
      · rw [List.filter_cons, List.filter_cons, ins_filter x r]
theorem ins_perm (x : Nat) : ∀ l : List Nat, x ∉ l → (Km562.insertDay x l).Perm (l ++ [x])
  | [], _ => List.Perm.refl _
  | y :: r, h => by
    rw [Km562.insertDay]
    have hy : ¬ x = y := fun e => h (by rw [e]; exact List.mem_cons_self ..)
    rw [if_neg hy]
    split
    · exact (List.perm_append_comm (l₁ := [x]) (l₂ := y :: r))
    · exact List.Perm.cons y (ins_perm x r fun q => h (List.mem_cons_of_mem _ q))
theorem ins_mem (x : Nat) : ∀ (l : List Nat) (z : Nat), z ∈ Km562.insertDay x l → z = x ∨ z ∈ l
  | [], z, h => by rw [Km562.insertDay] at h; exact Or.inl (List.mem_singleton.mp h)
  | y :: r, z, h => by
    rw [Km562.insertDay] at h
    split at h
    · exact Or.inr h
    · split at h
      · rcases List.mem_cons.mp h with h | h
        · exact Or.inl h
        · exact Or.inr h
      · rcases List.mem_cons.mp h with h | h
        · exact Or.inr (by rw [h]; exact List.mem_cons_self ..)
        · rcases ins_mem x r z h with h | h
          · exact Or.inl h
          · exact Or.inr (List.mem_cons_of_mem _ h)
theorem ins_asc (x : Nat) : ∀ l : List Nat, l.Pairwise (· < ·) → (Km562.insertDay x l).Pairwise (· < ·)
  | [], _ => by rw [Km562.insertDay]; exact List.pairwise_singleton _ _
  | y :: r, h => by
    have h2 := List.pairwise_cons.mp h
    rw [Km562.insertDay]
    split
    · exact h
    · split
      · rename_i _ c
        refine List.pairwise_cons.mpr ⟨fun z hz => ?_, h⟩
        rcases List.mem_cons.mp hz with rfl | hz
        · exact c
        · have := h2.1 z hz; omega
      · rename_i c1 c2
        refine List.pairwise_cons.mpr ⟨fun z hz => ?_, ins_asc x r h2.2⟩
        rcases ins_mem x r z hz with rfl | hz
        · omega
        · exact h2.1 z hz
theorem sorted_unique : ∀ {l m : List Int}, l.Perm m → l.Pairwise (· ≤ ·) → m.Pairwise (· ≤ ·) → l = m
  | [], m, h, _, _ => (List.nil_perm.mp h).symm
  | a :: l, [], h, _, _ => absurd (List.perm_nil.mp h) (by simp)
  | a :: l, b :: m, h, h1, h2 => by
    have p1 := List.pairwise_cons.mp h1
    have p2 := List.pairwise_cons.mp h2
    have e : a = b := by
      have ma : a ∈ b :: m := h.mem_iff.mp (List.mem_cons_self ..)
      have mb : b ∈ a :: l := h.mem_iff.mpr (List.mem_cons_self ..)
      have x : b ≤ a := by
        rcases List.mem_cons.mp ma with q | q
        · omega
        · exact p2.1 a q
      have y : a ≤ b := by
        rcases List.mem_cons.mp mb with q | q
        · omega
        · exact p1.1 b q
      omega
    subst e
    rw [sorted_unique (List.Perm.cons_inv h) p1.2 p2.2]
theorem sorted_ins {l : List Nat} {x : Nat} (ha : l.Pairwise (· < ·)) (hx : x ∉ l) {m : List Int} (hp : m.Perm (Km562.toInts l ++ [(x : Int)])) (hs : m.Pairwise (· ≤ ·)) : m = Km562.toInts (Km562.insertDay x l) := by
  refine sorted_unique (hp.trans ?_) hs ?_
  · have := (ins_perm x l hx).map (fun (x : Nat) => (x : Int))
    rw [List.map_append] at this
    exact this.symm
  · unfold Km562.toInts
    rw [List.pairwise_map]
    refine List.Pairwise.imp ?_ (ins_asc x l ha)
    intro a b h
    omega
theorem filter_last {l : List Nat} {n : Nat} (h : ∀ b ∈ l, b < n + 1) : (l.filter fun b => b != n) = l.filter fun b => decide (b + 1 < n + 1) := by
  refine List.filter_congr fun b hb => ?_
  have := h b hb
  by_cases c : b = n
  · subst c
    simp
  · have e1 : (b != n) = true := by simp [c]
    rw [e1, decide_eq_true (by omega)]

/-! ### the cheapest number -/
def cst (s : Schedule) (best : Option (Nat × Nat)) (k : Nat) : Option (Nat × Nat) := match Km562.optimal s k with
    | none => best
    | some result => match best with
      | none => some (k, result.1 + s.tripCost * k)
      | some other => if result.1 + s.tripCost * k < other.2 then some (k, result.1 + s.tripCost * k) else some other
def cb (s : Schedule) (i : Nat) : Option (Nat × Nat) := (List.range i).foldl (cst s) none
theorem cb_zero (s : Schedule) : cb s 0 = none := rfl
theorem cb_succ (s : Schedule) (i : Nat) : cb s (i + 1) = cst s (cb s i) i := by
  unfold cb
  rw [List.range_succ, List.foldl_append]
  rfl
theorem cheapest_cb (s : Schedule) : Km562.cheapest s = cb s (s.growth.length + 1) := rfl
def cn : Option (Nat × Nat) → Int
  | none => -1
  | some r => (r.1 : Int)
def cc : Option (Nat × Nat) → Int
  | none => -1
  | some r => (r.2 : Int)
theorem cst_step (s : Schedule) (b : Option (Nat × Nat)) (k : Nat) : (¬ (Z s k 0 ≠ -1 ∧ (cc b = -1 ∨ Z s k 0 + s.tripCost * k < cc b)) → cst s b k = b) ∧
    (Z s k 0 ≠ -1 ∧ (cc b = -1 ∨ Z s k 0 + s.tripCost * k < cc b) → cn (cst s b k) = k ∧ cc (cst s b k) = Z s k 0 + s.tripCost * k) := by
  unfold cst Z Km562.optimal
  cases e : Km562.optimalFrom s k 0 with
  | none =>
    exact ⟨fun _ => rfl, fun h => absurd rfl h.1⟩
  | some r =>
    rw [zo_some]
    cases b with
    | none =>
      refine ⟨fun h => absurd ⟨by omega, Or.inl rfl⟩ h, fun _ => ⟨rfl, ?_⟩⟩
      show ((_ + _ : Nat) : Int) = _
      rw [Int.natCast_add, Int.natCast_mul]
    | some other =>
      have key : ((r.1 + s.tripCost * k : Nat) : Int) = (r.1 : Int) + s.tripCost * k := by rw [Int.natCast_add, Int.natCast_mul]
      show (_ → (if _ < _ then _ else _) = _) ∧ (_ → cn (if _ < _ then _ else _) = _ ∧ cc (if _ < _ then _ else _) = _)
      by_cases c : r.1 + s.tripCost * k < other.2
      · rw [if_pos c]
        refine ⟨fun h => absurd ⟨by omega, Or.inr ?_⟩ h, fun _ => ⟨rfl, key⟩⟩
        show _ < ((other.2 : Nat) : Int)
        omega
      · rw [if_neg c]
        refine ⟨fun _ => rfl, fun h => ?_⟩
        exfalso
        have h2 : (other.2 : Int) = -1 ∨ (r.1 : Int) + s.tripCost * k < (other.2 : Int) := h.2
        omega
theorem cst_some {s : Schedule} {b : Option (Nat × Nat)} {k : Nat} : cst s b k = b ∨ ∃ v ds, Km562.optimalFrom s k 0 = some (v, ds) ∧ cst s b k = some (k, v + s.tripCost * k) := by
  unfold cst Km562.optimal
  cases e : Km562.optimalFrom s k 0 with
  | none => exact Or.inl rfl
  | some r =>
    cases b with
    | none => exact Or.inr ⟨r.1, r.2, rfl, rfl⟩
    | some other =>
      show (if _ < _ then _ else _) = _ ∨ _
      split
      · rename_i c
        refine Or.inr ⟨r.1, r.2, rfl, ?_⟩
        show (if _ < _ then _ else _) = _
        rw [if_pos c]
      · exact Or.inl rfl
theorem cb_some {s : Schedule} : ∀ {i : Nat} {k c : Nat}, cb s i = some (k, c) → k < i ∧ ∃ v ds, Km562.optimalFrom s k 0 = some (v, ds) ∧ c = v + s.tripCost * k
  | 0, k, c, h => by rw [cb_zero] at h; cases h
  | i + 1, k, c, h => by
    rw [cb_succ] at h
    rcases cst_some (s := s) (b := cb s i) (k := i) with e | ⟨v, ds, e1, e2⟩
    · rw [e] at h
      obtain ⟨h1, h2⟩ := cb_some h
      exact ⟨by omega, h2⟩
    · rw [e2] at h
      cases h
      exact ⟨by omega, v, ds, e1, rfl⟩
/-! ### balanced efforts -/
theorem balanced_eq (n k : Nat) : ((n : Int) % k) * ((n : Int) / k + 1) * ((n : Int) / k + 1) + ((k : Int) - (n : Int) % k) * ((n : Int) / k) * ((n : Int) / k) = (Km562.balancedSquares n k : Nat) ∨ k = 0 := by
  by_cases h : k = 0
  · exact Or.inr h
  · left
    unfold Km562.balancedSquares
    have lt : n % k < k := Nat.mod_lt _ (Nat.pos_of_ne_zero h)
    rw [← Int.natCast_emod, ← Int.natCast_ediv]
    have e1 : (k : Int) - ((n % k : Nat) : Int) = ((k - n % k : Nat) : Int) := by omega
    rw [e1]
    push_cast
    rw [Int.mul_assoc, Int.mul_assoc]
end Ib
namespace Ib
open Km562 (Schedule)
/-! ### what is due, call by call -/
abbrev St := Option Schedule × List Int
def fin (o : Option Schedule × Km562.Result) : St := (o.1, o.2.num :: o.2.nums)
theorem stepN {s : Option Schedule} {c : List Int} {o : Km562.Call} (h : Km562Neutral.parseCall [c] = some o) : Km562Neutral.step s [c] = fin (Km562.step s o) := by
  unfold Km562Neutral.step
  rw [h]
  rfl
section
variable (s : Schedule)
theorem st1 (n : Nat) : Km562Neutral.step (some s) [[1, (n : Int)]] = if 30 < n then (some s, [-22]) else if 10 ≤ s.growth.length then (some s, [-28]) else (some { s with growth := s.growth ++ [n] }, [(s.growth.length : Int)]) := by
  rw [stepN (o := .addDay (n : Int).toNat) rfl, Int.toNat_natCast]
  show fin (if 30 < n then _ else if 10 ≤ s.growth.length then _ else _) = _
  split
  · rfl
  · split <;> rfl
theorem st2 : Km562Neutral.step (some s) [[2]] = if s.growth.length = 0 then (some s, [-6]) else (some { s with growth := s.growth.take (s.growth.length - 1), breaks := s.breaks.filter fun b => decide (b + 1 < s.growth.length) }, [((s.growth.length - 1 : Nat) : Int)]) := by
  rw [stepN (o := .removeLastDay) rfl]
  show fin (if s.growth.length = 0 then _ else _) = _
  split <;> rfl
theorem st3 (d n : Nat) : Km562Neutral.step (some s) [[3, (d : Int), (n : Int)]] = if s.growth.length ≤ d then (some s, [-2]) else if 30 < n then (some s, [-22]) else (some { s with growth := s.growth.set d n }, [((s.growth.getD d 0 : Nat) : Int)]) := by
  rw [stepN (o := .setGrowth (d : Int).toNat (n : Int).toNat) rfl, Int.toNat_natCast, Int.toNat_natCast]
  show fin (if s.growth.length ≤ d then _ else if 30 < n then _ else _) = _
  split
  · rfl
  · split <;> rfl
theorem st4 (n : Nat) : Km562Neutral.step (some s) [[4, (n : Int)]] = if 9999 < n then (some s, [-22]) else (some { s with tripCost := n }, [(s.tripCost : Int)]) := by
  rw [stepN (o := .setTripCost (n : Int).toNat) rfl, Int.toNat_natCast]
  show fin (if 9999 < n then _ else _) = _
  split <;> rfl
theorem st5 (n : Nat) : Km562Neutral.step (some s) [[5, (n : Int)]] = if 999 < n then (some s, [-22]) else (some { s with maxThickness := n }, [(s.maxThickness : Int)]) := by
  rw [stepN (o := .setMaxThickness (n : Int).toNat) rfl, Int.toNat_natCast]
  show fin (if 999 < n then _ else _) = _
  split <;> rfl
theorem st6 : Km562Neutral.step (some s) [[6]] = (some s, (s.growth.length : Int) :: Km562.toInts s.growth) := by
  rw [stepN (o := .listGrowth) rfl]
  rfl
theorem st7 (f l : Nat) : Km562Neutral.step (some s) [[7, (f : Int), (l : Int)]] = (some s, if s.growth.length ≤ f ∨ s.growth.length ≤ l then [-2] else if l < f then [-22] else [((th s.growth f l : Nat) : Int), ((th s.growth f l * th s.growth f l : Nat) : Int)]) := by
  rw [stepN (o := .thicknessBetween (f : Int).toNat (l : Int).toNat) rfl, Int.toNat_natCast, Int.toNat_natCast]
  show fin (some s, if s.growth.length ≤ f ∨ s.growth.length ≤ l then _ else if l < f then _ else _) = _
  split
  · rfl
  · split <;> rfl
theorem st8 (d : Nat) : Km562Neutral.step (some s) [[8, (d : Int)]] = if s.growth.length ≤ d then (some s, [-2]) else if s.breaks.contains d = true then (some s, [-17]) else (some { s with breaks := Km562.insertDay d s.breaks }, [((Km562.thicknessAt s d : Nat) : Int)]) := by
  rw [stepN (o := .addBreak (d : Int).toNat) rfl, Int.toNat_natCast]
  show fin (if s.growth.length ≤ d then _ else if s.breaks.contains d = true then _ else _) = _
  split
  · rfl
  · split <;> rfl
theorem st9 (d : Nat) : Km562Neutral.step (some s) [[9, (d : Int)]] = if s.breaks.contains d = false then (some s, [-2]) else (some { s with breaks := s.breaks.filter fun b => b != d }, [((s.breaks.length - 1 : Nat) : Int)]) := by
  rw [stepN (o := .removeBreak (d : Int).toNat) rfl, Int.toNat_natCast]
  show fin (if s.breaks.contains d = false then _ else _) = _
  split <;> rfl
theorem st10 : Km562Neutral.step (some s) [[10]] = (some s, (s.breaks.length : Int) :: Km562.toInts s.breaks) := by
  rw [stepN (o := .listBreaks) rfl]
  rfl
theorem st11 : Km562Neutral.step (some s) [[11]] = (some s, (s.breaks.length : Int) :: Km562.toInts (Km562.thicknessesFrom s 0 s.breaks)) := by
  rw [stepN (o := .thicknessPerBreak) rfl]
  show (some s, ((Km562.thicknessesFrom s 0 s.breaks).length : Int) :: _) = _
  rw [ths_length]
  rfl
theorem st12 : Km562Neutral.step (some s) [[12]] = (some s, [if Km562.isValid s s.breaks = true then 1 else 0]) := by
  rw [stepN (o := .isValidSchedule) rfl]
  rfl
theorem st13 : Km562Neutral.step (some s) [[13]] = (some s, [((Km562.totalEffort s s.breaks : Nat) : Int), ((Km562.totalEffort s s.breaks + s.tripCost * s.breaks.length : Nat) : Int)]) := by
  rw [stepN (o := .scheduleCost) rfl]
  rfl
theorem st14 : Km562Neutral.step (some s) [[14]] = (some s, [((Km562.sum s.growth : Nat) : Int)]) := by
  rw [stepN (o := .totalGrowth) rfl]
  rfl
theorem st15 (n : Nat) : Km562Neutral.step (some s) [[15, (n : Int)]] = (some s, if s.growth.length < n then [-22] else match Km562.optimalFrom s n 0 with | none => [-33] | some b => (b.1 : Int) :: Km562.toInts b.2) := by
  rw [stepN (o := .optimalBreaks (n : Int).toNat) rfl, Int.toNat_natCast]
  show fin (some s, if s.growth.length < n then _ else Km562.optimalResult (Km562.optimalFrom s n 0)) = _
  split
  · rfl
  · cases Km562.optimalFrom s n 0 <;> rfl
theorem st16 (n : Nat) : Km562Neutral.step (some s) [[16, (n : Int)]] = if s.growth.length < n then (some s, [-22]) else match Km562.optimalFrom s n 0 with | none => (some s, [-33]) | some b => (some { s with breaks := b.2 }, [(b.1 : Int)]) := by
  rw [stepN (o := .useOptimalBreaks (n : Int).toNat) rfl, Int.toNat_natCast]
  show fin (if s.growth.length < n then _ else match Km562.optimalFrom s n 0 with | none => _ | some best => _) = _
  split
  · rfl
  · cases Km562.optimalFrom s n 0 <;> rfl
theorem st17 : Km562Neutral.step (some s) [[17]] = (some s, if Km562.isValid s s.breaks = false then [-33] else match Km562.optimalFrom s s.breaks.length 0 with | none => [-33] | some b => [((Km562.totalEffort s s.breaks - b.1 : Nat) : Int)]) := by
  rw [stepN (o := .excessEffort) rfl]
  show fin (some s, if Km562.isValid s s.breaks = false then _ else match Km562.optimalFrom s s.breaks.length 0 with | none => _ | some best => _) = _
  split
  · rfl
  · cases Km562.optimalFrom s s.breaks.length 0 <;> rfl
theorem st18 (n : Nat) : Km562Neutral.step (some s) [[18, (n : Int)]] = (some s, if n < 2 ∨ s.growth.length < n then [-22] else [((Km562.saving s n : Nat) : Int)]) := by
  rw [stepN (o := .savingOfBreak (n : Int).toNat) rfl, Int.toNat_natCast]
  show fin (some s, if n < 2 ∨ s.growth.length < n then _ else _) = _
  split <;> rfl
theorem st19 : Km562Neutral.step (some s) [[19]] = (some s, match (List.range (s.growth.length + 1)).find? fun k => (Km562.optimal s k).isSome with | none => [-33] | some k => [(k : Int)]) := by
  rw [stepN (o := .minBreakCount) rfl]
  show fin (some s, match (List.range (s.growth.length + 1)).find? fun k => (Km562.optimal s k).isSome with | none => _ | some k => _) = _
  cases (List.range (s.growth.length + 1)).find? fun k => (Km562.optimal s k).isSome <;> rfl
/-- the cheapest number and its cost, or the refusal -/
def chp : List Int := match Km562.cheapest s with | none => [-33] | some r => [(r.1 : Int), (r.2 : Int)]
theorem st20 : Km562Neutral.step (some s) [[20]] = (some s, chp s) := by
  rw [stepN (o := .cheapestBreakCount) rfl]
  unfold chp
  show fin (some s, match Km562.cheapest s with | none => _ | some best => _) = _
  cases Km562.cheapest s <;> rfl
theorem st21 : Km562Neutral.step (some s) [[21]] = match Km562.cheapest s with | none => (some s, [-33]) | some b => (some { s with breaks := ((Km562.optimalFrom s b.1 0).map fun r => r.2).getD [] }, [(b.2 : Int)]) := by
  rw [stepN (o := .useCheapestBreaks) rfl]
  show fin (match Km562.cheapest s with | none => _ | some best => _) = _
  cases Km562.cheapest s <;> rfl
theorem st22 (d n : Nat) : Km562Neutral.step (some s) [[22, (d : Int), (n : Int)]] = (some s, if s.growth.length ≤ d then [-2] else if 30 < n then [-22] else chp { s with growth := s.growth.set d n }) := by
  rw [stepN (o := .cheapestWithGrowth (d : Int).toNat (n : Int).toNat) rfl, Int.toNat_natCast, Int.toNat_natCast]
  show fin (some s, if s.growth.length ≤ d then _ else if 30 < n then _ else match Km562.cheapest { s with growth := s.growth.set d n } with | none => _ | some best => _) = _
  split
  · rfl
  · split
    · rfl
    · unfold chp
      cases Km562.cheapest { s with growth := s.growth.set d n } <;> rfl
theorem st23 (n : Nat) : Km562Neutral.step (some s) [[23, (n : Int)]] = (some s, if 999 < n then [-22] else chp { s with maxThickness := n }) := by
  rw [stepN (o := .cheapestWithMaxThickness (n : Int).toNat) rfl, Int.toNat_natCast]
  show fin (some s, if 999 < n then _ else match Km562.cheapest { s with maxThickness := n } with | none => _ | some best => _) = _
  split
  · rfl
  · unfold chp
    cases Km562.cheapest { s with maxThickness := n } <;> rfl
theorem st24 (n : Nat) : Km562Neutral.step (some s) [[24, (n : Int)]] = (some s, if n = 0 ∨ s.growth.length < n then [-22] else [((Km562.balancedSquares s.growth.length n : Nat) : Int)]) := by
  rw [stepN (o := .balancedEffort (n : Int).toNat) rfl, Int.toNat_natCast]
  show fin (some s, if n = 0 ∨ s.growth.length < n then _ else _) = _
  split <;> rfl
theorem st25 (d : Nat) : Km562Neutral.step (some s) [[25, (d : Int)]] = (some s, if s.growth.length ≤ d then [-2] else [((Km562.thicknessAt s d : Nat) : Int)]) := by
  rw [stepN (o := .thicknessAt (d : Int).toNat) rfl, Int.toNat_natCast]
  show fin (some s, if s.growth.length ≤ d then _ else _) = _
  split <;> rfl
theorem st26 : Km562Neutral.step (some s) [[26]] = (some s, [(s.growth.length : Int), (s.tripCost : Int), (s.maxThickness : Int), (s.breaks.length : Int)]) := by
  rw [stepN (o := .summary) rfl]
  rfl
end
theorem st0 (s : Option Schedule) : Km562Neutral.step s [[0]] = (some ⟨[], 0, 999, []⟩, [0]) := by
  rw [stepN (o := .create) rfl]
  rfl
theorem st_none {c : List Int} {o : Km562.Call} (h : Km562Neutral.parseCall [c] = some o) (ho : o ≠ .create) : Km562Neutral.step none [c] = (none, [-11]) := by
  rw [stepN h]
  cases o <;> first | exact absurd rfl ho | rfl
/-! ### the arguments -/
theorem args0 {i : Int} {args : List Int} (h : PyKm562.shape i = some (args.length, 0)) (e : PyKm562.shape i = some (0, 0)) : args = [] := by
  rw [e] at h
  have := (Prod.mk.inj (Option.some.inj h)).1
  exact List.length_eq_zero_iff.mp this.symm
theorem args1 {i : Int} {args : List Int} (h : PyKm562.shape i = some (args.length, 0)) (hp : ∀ x ∈ args, 0 ≤ x) (e : PyKm562.shape i = some (1, 0)) : ∃ n : Nat, args = [(n : Int)] := by
  rw [e] at h
  have hl := (Prod.mk.inj (Option.some.inj h)).1
  match args, hl, hp with
  | [x], _, hp =>
    refine ⟨x.toNat, ?_⟩
    have := hp x (List.mem_cons_self ..)
    rw [Int.toNat_of_nonneg this]
theorem args2 {i : Int} {args : List Int} (h : PyKm562.shape i = some (args.length, 0)) (hp : ∀ x ∈ args, 0 ≤ x) (e : PyKm562.shape i = some (2, 0)) : ∃ n m : Nat, args = [(n : Int), (m : Int)] := by
  rw [e] at h
  have hl := (Prod.mk.inj (Option.some.inj h)).1
  match args, hl, hp with
  | [x, y], _, hp =>
    refine ⟨x.toNat, y.toNat, ?_⟩
    have h1 := hp x (List.mem_cons_self ..)
    have h2 := hp y (List.mem_cons_of_mem _ (List.mem_cons_self ..))
    rw [Int.toNat_of_nonneg h1, Int.toNat_of_nonneg h2]
/-! ### the invariant is kept -/
section
variable {s : Schedule}
theorem Ok.new : Ok ⟨[], 0, 999, []⟩ := ⟨by decide, fun g h => absurd h (by simp), by decide, by decide, List.Pairwise.nil, fun b h => absurd h (by simp)⟩
theorem Ok.addDay (o : Ok s) {n : Nat} (h1 : ¬ 30 < n) (h2 : ¬ 10 ≤ s.growth.length) : Ok { s with growth := s.growth ++ [n] } := by
  refine ⟨?_, fun g h => ?_, o.tc, o.mt, o.asc, fun b h => ?_⟩
  · show (s.growth ++ [n]).length ≤ 10
    rw [List.length_append]
    show _ + 1 ≤ 10
    omega
  · rcases List.mem_append.mp h with h | h
    · exact o.gr g h
    · rw [List.mem_singleton.mp h]
      omega
  · show b < (s.growth ++ [n]).length
    rw [List.length_append]
    have := o.inn b h
    omega
theorem Ok.rmDay (o : Ok s) : Ok { s with growth := s.growth.take (s.growth.length - 1), breaks := s.breaks.filter fun b => decide (b + 1 < s.growth.length) } := by
  refine ⟨?_, fun g h => o.gr g (List.mem_of_mem_take h), o.tc, o.mt, o.asc.filter _, fun b h => ?_⟩
  · show (s.growth.take (s.growth.length - 1)).length ≤ 10
    rw [List.length_take]
    have := o.len
    omega
  · have h2 := of_decide_eq_true (List.mem_filter.mp h).2
    show b < (s.growth.take (s.growth.length - 1)).length
    rw [List.length_take]
    omega
theorem Ok.setG (o : Ok s) {d n : Nat} (h1 : ¬ 30 < n) : Ok { s with growth := s.growth.set d n } := by
  refine ⟨?_, fun g h => ?_, o.tc, o.mt, o.asc, fun b h => ?_⟩
  · show (s.growth.set d n).length ≤ 10
    rw [List.length_set]
    exact o.len
  · rcases List.mem_or_eq_of_mem_set h with h | h
    · exact o.gr g h
    · omega
  · show b < (s.growth.set d n).length
    rw [List.length_set]
    exact o.inn b h
theorem Ok.setT (o : Ok s) {n : Nat} (h1 : ¬ 9999 < n) : Ok { s with tripCost := n } := ⟨o.len, o.gr, by show n ≤ 9999; omega, o.mt, o.asc, o.inn⟩
theorem Ok.setM (o : Ok s) {n : Nat} (h1 : ¬ 999 < n) : Ok { s with maxThickness := n } := ⟨o.len, o.gr, o.tc, by show n ≤ 999; omega, o.asc, o.inn⟩
theorem Ok.ins (o : Ok s) {d : Nat} (h : d < s.growth.length) : Ok { s with breaks := Km562.insertDay d s.breaks } := by
  refine ⟨o.len, o.gr, o.tc, o.mt, ins_asc d _ o.asc, fun b hb => ?_⟩
  rcases ins_mem d _ b hb with rfl | hb
  · exact h
  · exact o.inn b hb
theorem Ok.rem (o : Ok s) (p : Nat → Bool) : Ok { s with breaks := s.breaks.filter p } := ⟨o.len, o.gr, o.tc, o.mt, o.asc.filter _, fun b hb => o.inn b (List.mem_filter.mp hb).1⟩
theorem Ok.opt (o : Ok s) {k v : Nat} {ds : List Nat} (h : Km562.optimalFrom s k 0 = some (v, ds)) : Ok { s with breaks := ds } := by
  obtain ⟨_, h2, h3⟩ := opt_len h
  exact ⟨o.len, o.gr, o.tc, o.mt, h3, fun b hb => (h2 b hb).2⟩
/-- the saving in whole numbers -/
theorem saving_eq (o : Ok s) {n : Nat} (h1 : 2 ≤ n) (h2 : n ≤ s.growth.length) : ((Km562.saving s n : Nat) : Int) = Z (Km562.unlimited s) (n - 1) 0 - Z (Km562.unlimited s) n 0 := by
  have ou : Ok (Km562.unlimited s) := ⟨o.len, o.gr, o.tc, by show 999 ≤ 999; omega, o.asc, o.inn⟩
  have hm : 300 ≤ (Km562.unlimited s).maxThickness := by show 300 ≤ 999; omega
  have hl : (Km562.unlimited s).growth.length = s.growth.length := rfl
  obtain ⟨v, ds, e⟩ := opt_exists ou hm (k := n - 1) (f := 0) (by omega) (by omega)
  obtain ⟨v', es, e', hv⟩ := opt_mono ou hm (by omega) (by omega) e
  rw [show n - 1 + 1 = n by omega] at e'
  unfold Km562.saving Km562.optimal Z
  rw [e, e', zo_some, zo_some]
  show ((v - v' : Nat) : Int) = _
  omega
theorem contains_len {l : List Nat} {d : Nat} (ha : l.Pairwise (· < ·)) (h : l.contains d = true) : (l.filter fun b => b != d).length = l.length - 1 := by
  induction l with
  | nil => cases h
  | cons x r ih =>
    have hp := List.pairwise_cons.mp ha
    rw [List.filter_cons]
    by_cases e : x = d
    · subst e
      have hn : (r.filter fun b => b != x) = r := List.filter_eq_self.mpr fun b hb => by
        have := hp.1 b hb
        simp
        omega
      rw [if_neg (by simp), hn]
      rfl
    · have h2 : r.contains d = true := by
        rw [List.contains_cons] at h
        rcases Bool.or_eq_true_iff.mp h with q | q
        · exact absurd (eq_of_beq q).symm e
        · exact q
      rw [if_pos (by simp [e]), List.length_cons, ih hp.2 h2, List.length_cons]
      cases r with
      | nil => cases h2
      | cons y r => rfl
end
end Ib
namespace Ib
open Km562 (Schedule)
/-! ### the request as calls -/
abbrev Cal := Int × List Int
def flat (cs : List Cal) : List Int := cs.flatMap fun c => c.1 :: c.2
def raw (cs : List Cal) : List (List (List Int)) := cs.map fun c => [c.1 :: c.2]
def szl : List Int := [0, 1, 0, 2, 1, 1, 0, 2, 1, 1, 0, 0, 0, 0, 0, 1, 1, 0, 1, 0, 0, 0, 2, 1, 1, 1, 0]
theorem flat_cons (c : Cal) (cs : List Cal) : flat (c :: cs) = c.1 :: (c.2 ++ flat cs) := by
  unfold flat
  rw [List.flatMap_cons]
  rfl
theorem flat_append (cs ds : List Cal) : flat (cs ++ ds) = flat cs ++ flat ds := by
  unfold flat
  rw [List.flatMap_append]
theorem shape_at {p : Int} {n m : Nat} (h : PyKm562.shape p = some (n, m)) : ∃ j : Nat, j < 27 ∧ p = (j : Int) ∧ szl[j]? = some (n : Int) ∧ m = 0 := by
  unfold PyKm562.shape at h
  by_cases h0 : p = 0
  · rw [if_pos h0] at h
    cases h
    exact ⟨0, by decide, h0, rfl, rfl⟩
  rw [if_neg h0] at h
  by_cases h1 : p = 1
  · rw [if_pos h1] at h
    cases h
    exact ⟨1, by decide, h1, rfl, rfl⟩
  rw [if_neg h1] at h
  by_cases h2 : p = 2
  · rw [if_pos h2] at h
    cases h
    exact ⟨2, by decide, h2, rfl, rfl⟩
  rw [if_neg h2] at h
  by_cases h3 : p = 3
  · rw [if_pos h3] at h
    cases h
    exact ⟨3, by decide, h3, rfl, rfl⟩
  rw [if_neg h3] at h
  by_cases h4 : p = 4
  · rw [if_pos h4] at h
    cases h
    exact ⟨4, by decide, h4, rfl, rfl⟩
  rw [if_neg h4] at h
  by_cases h5 : p = 5
  · rw [if_pos h5] at h
    cases h
    exact ⟨5, by decide, h5, rfl, rfl⟩
  rw [if_neg h5] at h
  by_cases h6 : p = 6
  · rw [if_pos h6] at h
    cases h
    exact ⟨6, by decide, h6, rfl, rfl⟩
  rw [if_neg h6] at h
  by_cases h7 : p = 7
  · rw [if_pos h7] at h
    cases h
    exact ⟨7, by decide, h7, rfl, rfl⟩
  rw [if_neg h7] at h
  by_cases h8 : p = 8
  · rw [if_pos h8] at h
    cases h
    exact ⟨8, by decide, h8, rfl, rfl⟩
  rw [if_neg h8] at h
  by_cases h9 : p = 9
  · rw [if_pos h9] at h
    cases h
    exact ⟨9, by decide, h9, rfl, rfl⟩
  rw [if_neg h9] at h
  by_cases h10 : p = 10
  · rw [if_pos h10] at h
    cases h
    exact ⟨10, by decide, h10, rfl, rfl⟩
  rw [if_neg h10] at h
  by_cases h11 : p = 11
  · rw [if_pos h11] at h
    cases h
    exact ⟨11, by decide, h11, rfl, rfl⟩
  rw [if_neg h11] at h
  by_cases h12 : p = 12
  · rw [if_pos h12] at h
    cases h
    exact ⟨12, by decide, h12, rfl, rfl⟩
  rw [if_neg h12] at h
  by_cases h13 : p = 13
  · rw [if_pos h13] at h
    cases h
    exact ⟨13, by decide, h13, rfl, rfl⟩
  rw [if_neg h13] at h
  by_cases h14 : p = 14
  · rw [if_pos h14] at h
    cases h
    exact ⟨14, by decide, h14, rfl, rfl⟩
  rw [if_neg h14] at h
  by_cases h15 : p = 15
  · rw [if_pos h15] at h
    cases h
    exact ⟨15, by decide, h15, rfl, rfl⟩
  rw [if_neg h15] at h
  by_cases h16 : p = 16
  · rw [if_pos h16] at h
    cases h
    exact ⟨16, by decide, h16, rfl, rfl⟩
  rw [if_neg h16] at h
  by_cases h17 : p = 17
  · rw [if_pos h17] at h
    cases h
    exact ⟨17, by decide, h17, rfl, rfl⟩
  rw [if_neg h17] at h
  by_cases h18 : p = 18
  · rw [if_pos h18] at h
    cases h
    exact ⟨18, by decide, h18, rfl, rfl⟩
  rw [if_neg h18] at h
  by_cases h19 : p = 19
  · rw [if_pos h19] at h
    cases h
    exact ⟨19, by decide, h19, rfl, rfl⟩
  rw [if_neg h19] at h
  by_cases h20 : p = 20
  · rw [if_pos h20] at h
    cases h
    exact ⟨20, by decide, h20, rfl, rfl⟩
  rw [if_neg h20] at h
  by_cases h21 : p = 21
  · rw [if_pos h21] at h
    cases h
    exact ⟨21, by decide, h21, rfl, rfl⟩
  rw [if_neg h21] at h
  by_cases h22 : p = 22
  · rw [if_pos h22] at h
    cases h
    exact ⟨22, by decide, h22, rfl, rfl⟩
  rw [if_neg h22] at h
  by_cases h23 : p = 23
  · rw [if_pos h23] at h
    cases h
    exact ⟨23, by decide, h23, rfl, rfl⟩
  rw [if_neg h23] at h
  by_cases h24 : p = 24
  · rw [if_pos h24] at h
    cases h
    exact ⟨24, by decide, h24, rfl, rfl⟩
  rw [if_neg h24] at h
  by_cases h25 : p = 25
  · rw [if_pos h25] at h
    cases h
    exact ⟨25, by decide, h25, rfl, rfl⟩
  rw [if_neg h25] at h
  by_cases h26 : p = 26
  · rw [if_pos h26] at h
    cases h
    exact ⟨26, by decide, h26, rfl, rfl⟩
  rw [if_neg h26] at h
  cases h
theorem parse_some {p : Int} {args : List Int} (h : PyKm562.shape p = some (args.length, 0)) : ∃ o, Km562Neutral.parseCall [p :: args] = some o ∧ (p ≠ 0 → o ≠ .create) := by
  obtain ⟨j, hj, rfl, hz, _⟩ := shape_at h
  match j, hj, hz with
  | 0, _, hz =>
    have hl : args.length = 0 := by
      have := Option.some.inj hz
      omega
    match args, hl with
    | [], _ => exact ⟨.create, rfl, fun q => absurd rfl q⟩
  | 1, _, hz =>
    have hl : args.length = 1 := by
      have := Option.some.inj hz
      omega
    match args, hl with
    | [x], _ => exact ⟨.addDay x.toNat, rfl, fun _ q => nomatch q⟩
  | 2, _, hz =>
    have hl : args.length = 0 := by
      have := Option.some.inj hz
      omega
    match args, hl with
    | [], _ => exact ⟨.removeLastDay, rfl, fun _ q => nomatch q⟩
  | 3, _, hz =>
    have hl : args.length = 2 := by
      have := Option.some.inj hz
      omega
    match args, hl with
    | [x, y], _ => exact ⟨.setGrowth x.toNat y.toNat, rfl, fun _ q => nomatch q⟩
  | 4, _, hz =>
    have hl : args.length = 1 := by
      have := Option.some.inj hz
      omega
    match args, hl with
    | [x], _ => exact ⟨.setTripCost x.toNat, rfl, fun _ q => nomatch q⟩
  | 5, _, hz =>
    have hl : args.length = 1 := by
      have := Option.some.inj hz
      omega
    match args, hl with
    | [x], _ => exact ⟨.setMaxThickness x.toNat, rfl, fun _ q => nomatch q⟩
  | 6, _, hz =>
    have hl : args.length = 0 := by
      have := Option.some.inj hz
      omega
    match args, hl with
    | [], _ => exact ⟨.listGrowth, rfl, fun _ q => nomatch q⟩
  | 7, _, hz =>
    have hl : args.length = 2 := by
      have := Option.some.inj hz
      omega
    match args, hl with
    | [x, y], _ => exact ⟨.thicknessBetween x.toNat y.toNat, rfl, fun _ q => nomatch q⟩
  | 8, _, hz =>
    have hl : args.length = 1 := by
      have := Option.some.inj hz
      omega
    match args, hl with
    | [x], _ => exact ⟨.addBreak x.toNat, rfl, fun _ q => nomatch q⟩
  | 9, _, hz =>
    have hl : args.length = 1 := by
      have := Option.some.inj hz
      omega
    match args, hl with
    | [x], _ => exact ⟨.removeBreak x.toNat, rfl, fun _ q => nomatch q⟩
  | 10, _, hz =>
    have hl : args.length = 0 := by
      have := Option.some.inj hz
      omega
    match args, hl with
    | [], _ => exact ⟨.listBreaks, rfl, fun _ q => nomatch q⟩
  | 11, _, hz =>
    have hl : args.length = 0 := by
      have := Option.some.inj hz
      omega
    match args, hl with
    | [], _ => exact ⟨.thicknessPerBreak, rfl, fun _ q => nomatch q⟩
  | 12, _, hz =>
    have hl : args.length = 0 := by
      have := Option.some.inj hz
      omega
    match args, hl with
    | [], _ => exact ⟨.isValidSchedule, rfl, fun _ q => nomatch q⟩
  | 13, _, hz =>
    have hl : args.length = 0 := by
      have := Option.some.inj hz
      omega
    match args, hl with
    | [], _ => exact ⟨.scheduleCost, rfl, fun _ q => nomatch q⟩
  | 14, _, hz =>
    have hl : args.length = 0 := by
      have := Option.some.inj hz
      omega
    match args, hl with
    | [], _ => exact ⟨.totalGrowth, rfl, fun _ q => nomatch q⟩
  | 15, _, hz =>
    have hl : args.length = 1 := by
      have := Option.some.inj hz
      omega
    match args, hl with
    | [x], _ => exact ⟨.optimalBreaks x.toNat, rfl, fun _ q => nomatch q⟩
  | 16, _, hz =>
    have hl : args.length = 1 := by
      have := Option.some.inj hz
      omega
    match args, hl with
    | [x], _ => exact ⟨.useOptimalBreaks x.toNat, rfl, fun _ q => nomatch q⟩
  | 17, _, hz =>
    have hl : args.length = 0 := by
      have := Option.some.inj hz
      omega
    match args, hl with
    | [], _ => exact ⟨.excessEffort, rfl, fun _ q => nomatch q⟩
  | 18, _, hz =>
    have hl : args.length = 1 := by
      have := Option.some.inj hz
      omega
    match args, hl with
    | [x], _ => exact ⟨.savingOfBreak x.toNat, rfl, fun _ q => nomatch q⟩
  | 19, _, hz =>
    have hl : args.length = 0 := by
      have := Option.some.inj hz
      omega
    match args, hl with
    | [], _ => exact ⟨.minBreakCount, rfl, fun _ q => nomatch q⟩
  | 20, _, hz =>
    have hl : args.length = 0 := by
      have := Option.some.inj hz
      omega
    match args, hl with
    | [], _ => exact ⟨.cheapestBreakCount, rfl, fun _ q => nomatch q⟩
  | 21, _, hz =>
    have hl : args.length = 0 := by
      have := Option.some.inj hz
      omega
    match args, hl with
    | [], _ => exact ⟨.useCheapestBreaks, rfl, fun _ q => nomatch q⟩
  | 22, _, hz =>
    have hl : args.length = 2 := by
      have := Option.some.inj hz
      omega
    match args, hl with
    | [x, y], _ => exact ⟨.cheapestWithGrowth x.toNat y.toNat, rfl, fun _ q => nomatch q⟩
  | 23, _, hz =>
    have hl : args.length = 1 := by
      have := Option.some.inj hz
      omega
    match args, hl with
    | [x], _ => exact ⟨.cheapestWithMaxThickness x.toNat, rfl, fun _ q => nomatch q⟩
  | 24, _, hz =>
    have hl : args.length = 1 := by
      have := Option.some.inj hz
      omega
    match args, hl with
    | [x], _ => exact ⟨.balancedEffort x.toNat, rfl, fun _ q => nomatch q⟩
  | 25, _, hz =>
    have hl : args.length = 1 := by
      have := Option.some.inj hz
      omega
    match args, hl with
    | [x], _ => exact ⟨.thicknessAt x.toNat, rfl, fun _ q => nomatch q⟩
  | 26, _, hz =>
    have hl : args.length = 0 := by
      have := Option.some.inj hz
      omega
    match args, hl with
    | [], _ => exact ⟨.summary, rfl, fun _ q => nomatch q⟩
  | j + 27, hj, _ => omega
theorem whole_id (c : List (List Int)) : PyKm562.whole c = c := by
  unfold PyKm562.whole
  split <;> rfl
theorem calls_flat : ∀ (f : Nat) (l : List Int) (rw_ : List (List (List Int))), PyFlat.calls PyKm562.shape f l = some rw_ → ∃ cs : List Cal, l = flat cs ∧ rw_ = raw cs ∧ ∀ c ∈ cs, PyKm562.shape c.1 = some (c.2.length, 0)
  | f, [], rw_, h => by
    have e : PyFlat.calls PyKm562.shape f [] = some [] := by cases f <;> rfl
    rw [e] at h
    cases h
    exact ⟨[], rfl, rfl, fun c hc => absurd hc (by simp)⟩
  | 0, p :: r, rw_, h => by
    cases h
  | f + 1, p :: r, rw_, h => by
    rw [PyFlat.calls] at h
    unfold PyFlat.call at h
    dsimp only at h
    cases e : PyKm562.shape p with
    | none => rw [e] at h; cases h
    | some nk =>
      obtain ⟨n, k⟩ := nk
      obtain ⟨j, _, _, _, rfl⟩ := shape_at e
      rw [e] at h
      dsimp only at h
      by_cases c : r.length < n
      · rw [if_pos c] at h
        cases h
      · rw [if_neg c] at h
        rw [show PyFlat.rows 0 (r.drop n) = some ([], r.drop n) from rfl] at h
        dsimp only at h
        cases e2 : PyFlat.calls PyKm562.shape f (r.drop n) with
        | none => rw [e2] at h; cases h
        | some cs' =>
          rw [e2] at h
          cases h
          obtain ⟨cs, h1, h2, h3⟩ := calls_flat f (r.drop n) cs' e2
          have hlen : (r.take n).length = n := by rw [List.length_take]; omega
          refine ⟨(p, r.take n) :: cs, ?_, ?_, fun d hd => ?_⟩
          · rw [flat_cons]
            show p :: r = p :: (r.take n ++ flat cs)
            rw [← h1, List.take_append_drop]
          · rw [h2]
            rfl
          · rcases List.mem_cons.mp hd with rfl | hd
            · show PyKm562.shape p = some ((r.take n).length, 0)
              rw [e, hlen]
            · exact h3 d hd
/-! ### what is due, played -/
def trn (st : Option Schedule × List Int) (c : Cal) : Option Schedule × List Int := ((Km562Neutral.step st.1 [c.1 :: c.2]).1, st.2 ++ (((Km562Neutral.step st.1 [c.1 :: c.2]).2.length : Int) :: (Km562Neutral.step st.1 [c.1 :: c.2]).2))
def run (cs : List Cal) : Option Schedule × List Int := cs.foldl trn (none, [])
theorem run_snoc {cs : List Cal} {i : Nat} {c : Cal} (h : cs[i]? = some c) : run (cs.take (i + 1)) = trn (run (cs.take i)) c := by
  unfold run
  rw [take_snoc h, List.foldl_append]
  rfl
theorem played_run : ∀ (cs : List Cal) (st : Option Schedule × List Int), st.2 ++ PyFlat.told (PyFlat.played Km562Neutral.step st.1 (raw cs)) = (cs.foldl trn st).2
  | [], st => by
    show st.2 ++ [] = st.2
    rw [List.append_nil]
  | c :: cs, st => by
    rw [List.foldl_cons, ← played_run cs (trn st c)]
    show st.2 ++ PyFlat.told ((Km562Neutral.step st.1 [c.1 :: c.2]).2 :: PyFlat.played Km562Neutral.step (Km562Neutral.step st.1 [c.1 :: c.2]).1 (raw cs)) = _
    unfold PyFlat.told
    rw [List.flatMap_cons, ← List.append_assoc]
    rfl
theorem due {l : List Int} (h : PyKm562.answers_asked l = true) : ∃ cs : List Cal, l = flat cs ∧ (∀ c ∈ cs, PyKm562.shape c.1 = some (c.2.length, 0)) ∧ PyKm562.answers l = (run cs).2 := by
  unfold PyKm562.answers_asked at h
  cases e : PyFlat.calls PyKm562.shape l.length l with
  | none => rw [e] at h; cases h
  | some rw_ =>
    obtain ⟨cs, h1, h2, h3⟩ := calls_flat _ _ _ e
    refine ⟨cs, h1, h3, ?_⟩
    unfold PyKm562.answers PyKm562.calls
    rw [e]
    show PyFlat.told (PyFlat.played Km562Neutral.step Km562Neutral.start (rw_.map PyKm562.whole)) = _
    have hw : rw_.map PyKm562.whole = rw_ := by
      rw [List.map_congr_left (fun c _ => whole_id c), List.map_id']
    rw [hw, h2]
    have := played_run cs (none, [])
    rw [List.nil_append] at this
    exact this
/-! ### places in the request -/
def plc (cs : List Cal) (j : Nat) : Nat := (flat (cs.take j)).length
theorem plc_snoc {cs : List Cal} {j : Nat} {c : Cal} (h : cs[j]? = some c) : plc cs (j + 1) = plc cs j + 1 + c.2.length := by
  unfold plc
  rw [take_snoc h, flat_append, List.length_append, flat_cons]
  show _ + (c.2 ++ []).length.succ = _
  rw [List.append_nil]
  omega
theorem flat_split {cs : List Cal} {j : Nat} {c : Cal} (h : cs[j]? = some c) : flat cs = flat (cs.take j) ++ (c.1 :: (c.2 ++ flat (cs.drop (j + 1)))) := by
  have hj := (List.getElem?_eq_some_iff.mp h).1
  have e : cs = cs.take j ++ (c :: cs.drop (j + 1)) := by
    have e1 := (List.take_append_drop j cs).symm
    rw [List.drop_eq_getElem_cons hj] at e1
    rw [(List.getElem?_eq_some_iff.mp h).2] at e1
    exact e1
  have e2 : flat cs = flat (cs.take j ++ (c :: cs.drop (j + 1))) := congrArg flat e
  rw [e2, flat_append, flat_cons]
theorem plc_get {cs : List Cal} {j : Nat} {c : Cal} (h : cs[j]? = some c) : (flat cs)[plc cs j]? = some c.1 := by
  rw [flat_split h]
  unfold plc
  rw [List.getElem?_append_right (Nat.le_refl _), Nat.sub_self]
  rfl
theorem plc_cut {cs : List Cal} {j : Nat} {c : Cal} (h : cs[j]? = some c) : ((flat cs).drop (plc cs j + 1)).take c.2.length = c.2 := by
  rw [flat_split h]
  unfold plc
  rw [← List.drop_drop, List.drop_left]
  show (c.2 ++ _).take _ = _
  rw [List.take_left]
theorem plc_le {cs : List Cal} {j : Nat} {c : Cal} (h : cs[j]? = some c) : plc cs j + 1 + c.2.length ≤ (flat cs).length := by
  have e := congrArg List.length (flat_split h)
  rw [List.length_append, List.length_cons, List.length_append] at e
  unfold plc
  omega
theorem plc_end (cs : List Cal) : plc cs cs.length = (flat cs).length := by
  unfold plc
  rw [List.take_length]
theorem cs_len : ∀ cs : List Cal, cs.length ≤ (flat cs).length
  | [] => Nat.zero_le _
  | c :: cs => by
    have := cs_len cs
    rw [flat_cons, List.length_cons, List.length_cons, List.length_append]
    omega
theorem mem_flat {cs : List Cal} {c : Cal} {x : Int} (h : c ∈ cs) (hx : x ∈ c.2) : x ∈ flat cs := by
  unfold flat
  rw [List.mem_flatMap]
  exact ⟨c, h, List.mem_cons_of_mem _ hx⟩
end Ib
/-! ### the text by places -/
namespace Ib
open PySem PySem.Spec PyProof.Rows L2
def top (i : Nat) : Stmt := PySem.Challenge.pw_icebreaks_s01_answers.main.body.getD i (.Pass ⟨0, 0, 0, 0⟩)
abbrev sm___init__ : Stmt := inClass (top 63) 0
abbrev sm_day_count : Stmt := inClass (top 63) 1
abbrev sm_has_day : Stmt := inClass (top 63) 2
abbrev sm_last_break_before : Stmt := inClass (top 63) 3
abbrev sm_add_break : Stmt := inClass (top 63) 4
abbrev sm_remove_break : Stmt := inClass (top 63) 5
abbrev sm_growth_with : Stmt := inClass (top 63) 6
abbrev s_thickness : Stmt := top 12
abbrev s_effort : Stmt := top 13
abbrev s_thicknesses : Stmt := top 14
abbrev s_effort_of : Stmt := top 15
abbrev s_is_valid : Stmt := top 16
abbrev s_row_without_breaks : Stmt := top 19
abbrev s_effort_with : Stmt := top 20
abbrev s_least_from : Stmt := top 21
abbrev s_row_with_one_more : Stmt := top 22
abbrev s_effort_rows : Stmt := top 23
abbrev s_least_effort : Stmt := top 24
abbrev s_first_break : Stmt := top 25
abbrev s_least_breaks : Stmt := top 26
abbrev s_least_number : Stmt := top 27
abbrev s_cheapest : Stmt := top 28
abbrev s_balanced : Stmt := top 29
abbrev s_thickness_on : Stmt := top 31
abbrev s_add_break : Stmt := top 32
abbrev s_remove_break : Stmt := top 33
abbrev s_list_breaks : Stmt := top 34
abbrev s_thickness_per_break : Stmt := top 35
abbrev s_is_valid_schedule : Stmt := top 36
abbrev s_schedule_cost : Stmt := top 37
abbrev s_excess_effort : Stmt := top 38
abbrev s_thickness_at : Stmt := top 39
abbrev s_add_day : Stmt := top 41
abbrev s_remove_last_day : Stmt := top 42
abbrev s_set_growth : Stmt := top 43
abbrev s_set_trip_cost : Stmt := top 44
abbrev s_set_max_thickness : Stmt := top 45
abbrev s_list_growth : Stmt := top 46
abbrev s_thickness_between : Stmt := top 47
abbrev s_total_growth : Stmt := top 48
abbrev s_summary : Stmt := top 49
abbrev s_refusal_of : Stmt := top 51
abbrev s_optimal_breaks : Stmt := top 52
abbrev s_use_optimal_breaks : Stmt := top 53
abbrev s_saving_of_break : Stmt := top 54
abbrev s_min_break_count : Stmt := top 55
abbrev s_cheapest_answer : Stmt := top 56
abbrev s_cheapest_break_count : Stmt := top 57
abbrev s_use_cheapest_breaks : Stmt := top 58
abbrev s_cheapest_with_growth : Stmt := top 59
abbrev s_cheapest_with_max_thickness : Stmt := top 60
abbrev s_balanced_effort : Stmt := top 61
abbrev s_answer_first : Stmt := top 67
abbrev s_answer_second : Stmt := top 68
abbrev s_answer_third : Stmt := top 69
abbrev s_answer_of : Stmt := top 70
abbrev s_split_calls : Stmt := top 71
abbrev s_answers : Stmt := top 72
theorem scm___init__ : FnScope ["self"] ["self"] (defScope sm___init__) := ⟨rfl, rfl, rfl, by decide +kernel, rfl, by decide +kernel, by decide +kernel⟩
theorem scm_day_count : FnScope ["self"] ["self"] (defScope sm_day_count) := ⟨rfl, rfl, rfl, by decide +kernel, rfl, by decide +kernel, by decide +kernel⟩
theorem scm_has_day : FnScope ["self", "day"] ["self", "day"] (defScope sm_has_day) := ⟨rfl, rfl, rfl, by decide +kernel, rfl, by decide +kernel, by decide +kernel⟩
theorem scm_last_break_before : FnScope ["self", "day", "found", "other"] ["self", "day"] (defScope sm_last_break_before) := ⟨rfl, rfl, rfl, by decide +kernel, rfl, by decide +kernel, by decide +kernel⟩
theorem scm_add_break : FnScope ["self", "day"] ["self", "day"] (defScope sm_add_break) := ⟨rfl, rfl, rfl, by decide +kernel, rfl, by decide +kernel, by decide +kernel⟩
theorem scm_remove_break : FnScope ["self", "day", "other"] ["self", "day"] (defScope sm_remove_break) := ⟨rfl, rfl, rfl, by decide +kernel, rfl, by decide +kernel, by decide +kernel⟩
theorem scm_growth_with : FnScope ["self", "day", "growth", "found"] ["self", "day", "growth"] (defScope sm_growth_with) := ⟨rfl, rfl, rfl, by decide +kernel, rfl, by decide +kernel, by decide +kernel⟩
theorem sc_thickness : FnScope ["growth", "first", "last", "total", "day"] ["growth", "first", "last"] (defScope s_thickness) := ⟨rfl, rfl, rfl, by decide +kernel, rfl, by decide +kernel, by decide +kernel⟩
theorem sc_effort : FnScope ["growth", "first", "last", "found"] ["growth", "first", "last"] (defScope s_effort) := ⟨rfl, rfl, rfl, by decide +kernel, rfl, by decide +kernel, by decide +kernel⟩
theorem sc_thicknesses : FnScope ["growth", "breaks", "found", "first", "day"] ["growth", "breaks"] (defScope s_thicknesses) := ⟨rfl, rfl, rfl, by decide +kernel, rfl, by decide +kernel, by decide +kernel⟩
theorem sc_effort_of : FnScope ["growth", "breaks", "total", "removed"] ["growth", "breaks"] (defScope s_effort_of) := ⟨rfl, rfl, rfl, by decide +kernel, rfl, by decide +kernel, by decide +kernel⟩
theorem sc_is_valid : FnScope ["growth", "breaks", "most", "removed"] ["growth", "breaks", "most"] (defScope s_is_valid) := ⟨rfl, rfl, rfl, by decide +kernel, rfl, by decide +kernel, by decide +kernel⟩
theorem sc_row_without_breaks : FnScope ["growth", "day"] ["growth"] (defScope s_row_without_breaks) := ⟨rfl, rfl, rfl, by decide +kernel, rfl, by decide +kernel, by decide +kernel⟩
theorem sc_effort_with : FnScope ["growth", "most", "later", "first", "day"] ["growth", "most", "later", "first", "day"] (defScope s_effort_with) := ⟨rfl, rfl, rfl, by decide +kernel, rfl, by decide +kernel, by decide +kernel⟩
theorem sc_least_from : FnScope ["growth", "most", "later", "first", "best", "day", "found"] ["growth", "most", "later", "first"] (defScope s_least_from) := ⟨rfl, rfl, rfl, by decide +kernel, rfl, by decide +kernel, by decide +kernel⟩
theorem sc_row_with_one_more : FnScope ["growth", "most", "later", "first"] ["growth", "most", "later"] (defScope s_row_with_one_more) := ⟨rfl, rfl, rfl, by decide +kernel, rfl, by decide +kernel, by decide +kernel⟩
theorem sc_effort_rows : FnScope ["growth", "most", "many", "rows", "turn"] ["growth", "most", "many"] (defScope s_effort_rows) := ⟨rfl, rfl, rfl, by decide +kernel, rfl, by decide +kernel, by decide +kernel⟩
theorem sc_least_effort : FnScope ["growth", "most", "many"] ["growth", "most", "many"] (defScope s_least_effort) := ⟨rfl, rfl, rfl, by decide +kernel, rfl, by decide +kernel, by decide +kernel⟩
theorem sc_first_break : FnScope ["growth", "most", "rows", "left", "first", "day"] ["growth", "most", "rows", "left", "first"] (defScope s_first_break) := ⟨rfl, rfl, rfl, by decide +kernel, rfl, by decide +kernel, by decide +kernel⟩
theorem sc_least_breaks : FnScope ["growth", "most", "many", "rows", "found", "first", "turn", "day"] ["growth", "most", "many"] (defScope s_least_breaks) := ⟨rfl, rfl, rfl, by decide +kernel, rfl, by decide +kernel, by decide +kernel⟩
theorem sc_least_number : FnScope ["growth", "most", "rows", "many"] ["growth", "most"] (defScope s_least_number) := ⟨rfl, rfl, rfl, by decide +kernel, rfl, by decide +kernel, by decide +kernel⟩
theorem sc_cheapest : FnScope ["growth", "most", "trip_cost", "rows", "number", "cost", "many", "found"] ["growth", "most", "trip_cost"] (defScope s_cheapest) := ⟨rfl, rfl, rfl, by decide +kernel, rfl, by decide +kernel, by decide +kernel⟩
theorem sc_balanced : FnScope ["days", "many", "part", "rest"] ["days", "many"] (defScope s_balanced) := ⟨rfl, rfl, rfl, by decide +kernel, rfl, by decide +kernel, by decide +kernel⟩
theorem sc_thickness_on : FnScope ["season", "day"] ["season", "day"] (defScope s_thickness_on) := ⟨rfl, rfl, rfl, by decide +kernel, rfl, by decide +kernel, by decide +kernel⟩
theorem sc_add_break : FnScope ["season", "given"] ["season", "given"] (defScope s_add_break) := ⟨rfl, rfl, rfl, by decide +kernel, rfl, by decide +kernel, by decide +kernel⟩
theorem sc_remove_break : FnScope ["season", "given"] ["season", "given"] (defScope s_remove_break) := ⟨rfl, rfl, rfl, by decide +kernel, rfl, by decide +kernel, by decide +kernel⟩
theorem sc_list_breaks : FnScope ["season", "given"] ["season", "given"] (defScope s_list_breaks) := ⟨rfl, rfl, rfl, by decide +kernel, rfl, by decide +kernel, by decide +kernel⟩
theorem sc_thickness_per_break : FnScope ["season", "given"] ["season", "given"] (defScope s_thickness_per_break) := ⟨rfl, rfl, rfl, by decide +kernel, rfl, by decide +kernel, by decide +kernel⟩
theorem sc_is_valid_schedule : FnScope ["season", "given"] ["season", "given"] (defScope s_is_valid_schedule) := ⟨rfl, rfl, rfl, by decide +kernel, rfl, by decide +kernel, by decide +kernel⟩
theorem sc_schedule_cost : FnScope ["season", "given", "found"] ["season", "given"] (defScope s_schedule_cost) := ⟨rfl, rfl, rfl, by decide +kernel, rfl, by decide +kernel, by decide +kernel⟩
theorem sc_excess_effort : FnScope ["season", "given", "least"] ["season", "given"] (defScope s_excess_effort) := ⟨rfl, rfl, rfl, by decide +kernel, rfl, by decide +kernel, by decide +kernel⟩
theorem sc_thickness_at : FnScope ["season", "given"] ["season", "given"] (defScope s_thickness_at) := ⟨rfl, rfl, rfl, by decide +kernel, rfl, by decide +kernel, by decide +kernel⟩
theorem sc_add_day : FnScope ["season", "given"] ["season", "given"] (defScope s_add_day) := ⟨rfl, rfl, rfl, by decide +kernel, rfl, by decide +kernel, by decide +kernel⟩
theorem sc_remove_last_day : FnScope ["season", "given"] ["season", "given"] (defScope s_remove_last_day) := ⟨rfl, rfl, rfl, by decide +kernel, rfl, by decide +kernel, by decide +kernel⟩
theorem sc_set_growth : FnScope ["season", "given", "old"] ["season", "given"] (defScope s_set_growth) := ⟨rfl, rfl, rfl, by decide +kernel, rfl, by decide +kernel, by decide +kernel⟩
theorem sc_set_trip_cost : FnScope ["season", "given", "old"] ["season", "given"] (defScope s_set_trip_cost) := ⟨rfl, rfl, rfl, by decide +kernel, rfl, by decide +kernel, by decide +kernel⟩
theorem sc_set_max_thickness : FnScope ["season", "given", "old"] ["season", "given"] (defScope s_set_max_thickness) := ⟨rfl, rfl, rfl, by decide +kernel, rfl, by decide +kernel, by decide +kernel⟩
theorem sc_list_growth : FnScope ["season", "given"] ["season", "given"] (defScope s_list_growth) := ⟨rfl, rfl, rfl, by decide +kernel, rfl, by decide +kernel, by decide +kernel⟩
theorem sc_thickness_between : FnScope ["season", "given"] ["season", "given"] (defScope s_thickness_between) := ⟨rfl, rfl, rfl, by decide +kernel, rfl, by decide +kernel, by decide +kernel⟩
theorem sc_total_growth : FnScope ["season", "given"] ["season", "given"] (defScope s_total_growth) := ⟨rfl, rfl, rfl, by decide +kernel, rfl, by decide +kernel, by decide +kernel⟩
theorem sc_summary : FnScope ["season", "given"] ["season", "given"] (defScope s_summary) := ⟨rfl, rfl, rfl, by decide +kernel, rfl, by decide +kernel, by decide +kernel⟩
theorem sc_refusal_of : FnScope ["season", "many"] ["season", "many"] (defScope s_refusal_of) := ⟨rfl, rfl, rfl, by decide +kernel, rfl, by decide +kernel, by decide +kernel⟩
theorem sc_optimal_breaks : FnScope ["season", "given", "refusal", "found"] ["season", "given"] (defScope s_optimal_breaks) := ⟨rfl, rfl, rfl, by decide +kernel, rfl, by decide +kernel, by decide +kernel⟩
theorem sc_use_optimal_breaks : FnScope ["season", "given", "refusal"] ["season", "given"] (defScope s_use_optimal_breaks) := ⟨rfl, rfl, rfl, by decide +kernel, rfl, by decide +kernel, by decide +kernel⟩
theorem sc_saving_of_break : FnScope ["season", "given", "before"] ["season", "given"] (defScope s_saving_of_break) := ⟨rfl, rfl, rfl, by decide +kernel, rfl, by decide +kernel, by decide +kernel⟩
theorem sc_min_break_count : FnScope ["season", "given", "found"] ["season", "given"] (defScope s_min_break_count) := ⟨rfl, rfl, rfl, by decide +kernel, rfl, by decide +kernel, by decide +kernel⟩
theorem sc_cheapest_answer : FnScope ["growth", "most", "trip_cost", "number", "cost"] ["growth", "most", "trip_cost"] (defScope s_cheapest_answer) := ⟨rfl, rfl, rfl, by decide +kernel, rfl, by decide +kernel, by decide +kernel⟩
theorem sc_cheapest_break_count : FnScope ["season", "given"] ["season", "given"] (defScope s_cheapest_break_count) := ⟨rfl, rfl, rfl, by decide +kernel, rfl, by decide +kernel, by decide +kernel⟩
theorem sc_use_cheapest_breaks : FnScope ["season", "given", "number", "cost"] ["season", "given"] (defScope s_use_cheapest_breaks) := ⟨rfl, rfl, rfl, by decide +kernel, rfl, by decide +kernel, by decide +kernel⟩
theorem sc_cheapest_with_growth : FnScope ["season", "given"] ["season", "given"] (defScope s_cheapest_with_growth) := ⟨rfl, rfl, rfl, by decide +kernel, rfl, by decide +kernel, by decide +kernel⟩
theorem sc_cheapest_with_max_thickness : FnScope ["season", "given"] ["season", "given"] (defScope s_cheapest_with_max_thickness) := ⟨rfl, rfl, rfl, by decide +kernel, rfl, by decide +kernel, by decide +kernel⟩
theorem sc_balanced_effort : FnScope ["season", "given"] ["season", "given"] (defScope s_balanced_effort) := ⟨rfl, rfl, rfl, by decide +kernel, rfl, by decide +kernel, by decide +kernel⟩
theorem sc_answer_first : FnScope ["season", "number", "given"] ["season", "number", "given"] (defScope s_answer_first) := ⟨rfl, rfl, rfl, by decide +kernel, rfl, by decide +kernel, by decide +kernel⟩
theorem sc_answer_second : FnScope ["season", "number", "given"] ["season", "number", "given"] (defScope s_answer_second) := ⟨rfl, rfl, rfl, by decide +kernel, rfl, by decide +kernel, by decide +kernel⟩
theorem sc_answer_third : FnScope ["season", "number", "given"] ["season", "number", "given"] (defScope s_answer_third) := ⟨rfl, rfl, rfl, by decide +kernel, rfl, by decide +kernel, by decide +kernel⟩
theorem sc_answer_of : FnScope ["season", "number", "given"] ["season", "number", "given"] (defScope s_answer_of) := ⟨rfl, rfl, rfl, by decide +kernel, rfl, by decide +kernel, by decide +kernel⟩
theorem sc_split_calls : FnScope ["calls", "found", "place", "number", "behind"] ["calls"] (defScope s_split_calls) := ⟨rfl, rfl, rfl, by decide +kernel, rfl, by decide +kernel, by decide +kernel⟩
theorem sc_answers : FnScope ["calls", "season", "found", "number", "given", "answer"] ["calls"] (defScope s_answers) := ⟨rfl, rfl, rfl, by decide +kernel, rfl, by decide +kernel, by decide +kernel⟩
/-- what the top has written; the end shows it -/
structure Txt (K : PySem.W.Frag) (mg : Str → Option Value) (C SZ : Addr) : Prop where
  cl : Cls K C
  nG : NoAttr K C "growth"
  nT : NoAttr K C "trip_cost"
  nM : NoAttr K C "max_thickness"
  nB : NoAttr K C "breaks"
  b_len : mg "len" = none
  b_range : mg "range" = none
  b_sum : mg "sum" = none
  b_all : mg "all" = none
  b_sorted : mg "sorted" = none
  b_divmod : mg "divmod" = none
  b_int : mg "int" = none
  b_list : mg "list" = none
  g_NO_DAY : ∃ u, mg "NO_DAY" = some u ∧ RelV (.int (-2)) u
  g_NO_DAYS : ∃ u, mg "NO_DAYS" = some u ∧ RelV (.int (-6)) u
  g_NO_INSTANCE : ∃ u, mg "NO_INSTANCE" = some u ∧ RelV (.int (-11)) u
  g_BREAK_THERE : ∃ u, mg "BREAK_THERE" = some u ∧ RelV (.int (-17)) u
  g_OUT_OF_RANGE : ∃ u, mg "OUT_OF_RANGE" = some u ∧ RelV (.int (-22)) u
  g_TOO_MANY_DAYS : ∃ u, mg "TOO_MANY_DAYS" = some u ∧ RelV (.int (-28)) u
  g_NOT_VALID : ∃ u, mg "NOT_VALID" = some u ∧ RelV (.int (-33)) u
  g_MOST_DAYS : ∃ u, mg "MOST_DAYS" = some u ∧ RelV (.int 10) u
  g_MOST_GROWTH : ∃ u, mg "MOST_GROWTH" = some u ∧ RelV (.int 30) u
  g_MOST_TRIP_COST : ∃ u, mg "MOST_TRIP_COST" = some u ∧ RelV (.int 9999) u
  g_MOST_THICKNESS : ∃ u, mg "MOST_THICKNESS" = some u ∧ RelV (.int 999) u
  g_UNDEFINED : ∃ u, mg "UNDEFINED" = some u ∧ RelV (.int (-1)) u
  g_CREATE : ∃ u, mg "CREATE" = some u ∧ RelV (.int 0) u
  g_SIZES : ∃ u, mg "SIZES" = some u ∧ RelV (.ref SZ) u
  sz : ∀ H : Hp, SqT K H SZ (([0, 1, 0, 2, 1, 1, 0, 2, 1, 1, 0, 0, 0, 0, 0, 1, 1, 0, 1, 0, 0, 0, 2, 1, 1, 1, 0] : List Int).map V.int)
/-! ### defs and methods by their promises -/
section
variable (P : Program) (w : World) (K : PySem.W.Frag) (mg : Str → Option Value) (base : Heap)
/-- a def of the top, under its name -/
structure Df (x : Str) (st : Stmt) (ps : List Str) : Prop where
  ex : ∃ (f : Addr) (fd : FuncData), Fun K x x st f fd ∧ mg x = some (.ref f) ∧ Binds K fd ps []
/-- a method of the class at C -/
structure Dm (C : Addr) (x qual : Str) (st : Stmt) (ps : List Str) : Prop where
  ex : ∃ (f : Addr) (fd : FuncData), Fun K x qual st f fd ∧ Meth K C x f ∧ Binds K fd ps []
structure Cl (k : Nat) (x : Str) (sp : Sp) : Prop where
  ex : ∃ (f : Addr) (fd : FuncData) (ps : List Str), FnOk P w K mg base CX0 k f fd ps sp ∧ mg x = some (.ref f) ∧ PySem.W.keepIn K (.ref f) = true ∧ Binds K fd ps []
structure Mt (k : Nat) (C : Addr) (m : Str) (sp : Sp) : Prop where
  ex : ∃ (f : Addr) (fd : FuncData) (ps : List Str), Cls K C ∧ Meth K C m f ∧ FnOk P w K mg base CX0 k f fd ps sp ∧ Binds K fd ps []
structure Ma (k : Nat) (x : Str) (C : Addr) (sp : Sp) : Prop where
  ex : ∃ (f : Addr) (fd : FuncData) (ps : List Str), Mk K C f ∧ FnOk P w K mg base CX0 k f fd ps sp ∧ mg x = some (.ref C) ∧ Binds K fd ps []
end
section
variable {P : Program} {w : World} {K : PySem.W.Frag} {mg : Str → Option Value} {base : Heap} {k : Nat} {sp : Sp} {st : Stmt} {N ps : List Str} {x qual : Str} {C : Addr}
theorem Df.cl (D : Df K mg x st ps) (S : FnScope N ps (defScope st)) (len : ∀ vs H Q E, sp vs H Q E → vs.length = ps.length)
    (hbody : ∀ (f : Addr) (cdv : Value) (A : Around) (outer : List Env) (s : Shared) (H : Hp) (vs : List V) (Q : VK) (E : XK), Room k (A.deeper (envOfC x (defScope st) s.heap.objs.size f cdv)) → sp vs H Q E →
      ∃ t, PSs (cxOf CX0 P w K mg base N x (defScope st) f cdv A outer s H E).nox (defBody st) t ∧ t { nx := fun _ H' => Q .non H', rt := Q } (start N vs) H) : Cl P w K mg base (k + 1) x sp := by
  obtain ⟨f, fd, F, m, b⟩ := D.ex
  exact ⟨f, fd, ps, F.ok S len (fun cdv A outer s H vs Q E hr h => hbody f cdv A outer s H vs Q E hr h), m, F.kp, b⟩
theorem Dm.mt (D : Dm K C x qual st ps) (c : Cls K C) (S : FnScope N ps (defScope st)) (len : ∀ vs H Q E, sp vs H Q E → vs.length = ps.length)
    (hbody : ∀ (f : Addr) (cdv : Value) (A : Around) (outer : List Env) (s : Shared) (H : Hp) (vs : List V) (Q : VK) (E : XK), Room k (A.deeper (envOfC qual (defScope st) s.heap.objs.size f cdv)) → sp vs H Q E →
      ∃ t, PSs (cxOf CX0 P w K mg base N qual (defScope st) f cdv A outer s H E).nox (defBody st) t ∧ t { nx := fun _ H' => Q .non H', rt := Q } (start N vs) H) : Mt P w K mg base (k + 1) C x sp := by
  obtain ⟨f, fd, F, m, b⟩ := D.ex
  exact ⟨f, fd, ps, c, m, F.ok S len (fun cdv A outer s H vs Q E hr h => hbody f cdv A outer s H vs Q E hr h), b⟩
theorem Cl.mono {j : Nat} (c : Cl P w K mg base k x sp) (h : k ≤ j) : Cl P w K mg base j x sp := by
  obtain ⟨f, fd, ps, F, r⟩ := c.ex
  exact ⟨f, fd, ps, F.mono h, r⟩
end
section
variable {X : Cx} {k j : Nat} {C : Addr} {x m : Str} {sp : Sp} {p pos apos : Pos} {e o : Expr} {es : List Expr} {ta : TE} {t : TA}
theorem pe_cl (c : Cl X.prog X.w X.K X.mg X.base k x sp) (hr : Room j X.A) (hk : k ≤ j) (hg : Gl X x) (ha : PA X (e :: es) t)
    (hdb : (x == ("__debug__" : Str)) = false := by decide) (he : starEach (e :: es) X.env = (false, eval e X.env) :: starEach es X.env := by rfl) (hpl : (backTo pos (starEach es X.env)).any (·.1) = false := by rfl) :
    PE X (.Call (.Name x p) (e :: es) [] pos) (tCall sp [] E0 t) := by
  obtain ⟨f, fd, ps, F, hm, kp, b⟩ := c.ex
  exact pe_call F (hr.mono hk) hg hm kp b .nil pass0 ha hdb he hpl
theorem pe_mk0 (c : Ma X.prog X.w X.K X.mg X.base k x C sp) (hr : Room j X.A) (hk : k + 1 ≤ j) (hg : Gl X x)
    (hdb : (x == ("__debug__" : Str)) = false := by decide) :
    PE X (.Call (.Name x p) [] [] pos) (tMake C sp [] E0 tNil) := by
  obtain ⟨f, fd, ps, M, F, hm, b⟩ := c.ex
  exact pe_make0 M F (hr.mono hk) hg hm b .nil pass0 hdb
theorem pe_mt {pl : Sem Bool} (c : Mt X.prog X.w X.K X.mg X.base k C m sp) (hr : Room j X.A) (hk : k ≤ j) (he : PE X o ta) (ha : PA X (e :: es) t)
    (hst : starEach (e :: es) X.env = (false, eval e X.env) :: starEach es X.env := by rfl) (hpl : (backTo pos (starEach es X.env)).any (·.1) = false := by rfl)
    (ht : eval (.Call (.Attribute o m apos) (e :: es) [] pos) X.env = (do
      let ov ← eval o X.env
      standAt apos.atName
      let (f, first) ← holding [ov] (getMethod ov m pl)
      callWith pos f first (backTo pos (starEach (e :: es) X.env)) (backToKw pos (keywordEach [] X.env))) := by rfl) :
    PE X (.Call (.Attribute o m apos) (e :: es) [] pos) (tMeth C m sp [] E0 ta t) := by
  obtain ⟨f, fd, ps, hc, hm, F, b⟩ := c.ex
  exact pe_meth (pl := pl) he hc hm F (hr.mono hk) b .nil pass0 ha hst hpl ht
theorem pe_mt0 {pl : Sem Bool} (c : Mt X.prog X.w X.K X.mg X.base k C m sp) (hr : Room j X.A) (hk : k ≤ j) (he : PE X o ta)
    (ht : eval (.Call (.Attribute o m apos) [] [] pos) X.env = (do
      let ov ← eval o X.env
      standAt apos.atName
      let (f, first) ← holding [ov] (getMethod ov m pl)
      callWith pos f first (backTo pos (starEach [] X.env)) (backToKw pos (keywordEach [] X.env))) := by rfl) :
    PE X (.Call (.Attribute o m apos) [] [] pos) (tMeth C m sp [] E0 ta tNil) := by
  obtain ⟨f, fd, ps, hc, hm, F, b⟩ := c.ex
  exact pe_meth0 (pl := pl) he hc hm F (hr.mono hk) b .nil pass0 ht
end
end Ib
/-! ### lists of numbers as values; the season in the heap; further rules of evaluation -/
namespace Ib
open PySem PySem.Spec PyProof.Rows L2 Evl
open Km562 (Schedule)
abbrev nz (l : List Nat) : List V := (Km562.toInts l).map V.int
theorem nz_get {l : List Nat} {i x : Nat} (h : l[i]? = some x) : (nz l)[i]? = some (.int (x : Int)) := by
  unfold nz Km562.toInts
  rw [List.getElem?_map, List.getElem?_map, h]
  rfl
theorem nz_at {l : List Nat} {i x : Nat} (h : l[i]? = some x) : atI (nz l) (i : Int) = some (.int (x : Int)) := atI_nat (nz_get h)
theorem nz_length (l : List Nat) : (nz l).length = l.length := by
  unfold nz Km562.toInts
  rw [List.length_map, List.length_map]
theorem nz_append (l m : List Nat) : nz (l ++ m) = nz l ++ nz m := by
  unfold nz Km562.toInts
  rw [List.map_append, List.map_append]
theorem nz_of {l : List Nat} {i : Nat} {v : V} (h : (nz l)[i]? = some v) : ∃ x, l[i]? = some x ∧ v = .int (x : Int) := by
  unfold nz Km562.toInts at h
  rw [List.getElem?_map, List.getElem?_map] at h
  cases e : l[i]? with
  | none => rw [e] at h; cases h
  | some x => rw [e] at h; exact ⟨x, rfl, (Option.some.inj h).symm⟩
theorem nz_flat (l : List Nat) : (nz l).all flatV = true := by
  unfold nz
  rw [List.all_map]
  exact List.all_eq_true.mpr fun _ _ => rfl
theorem nz_in (l : List Nat) (x : Nat) : inV (.int (x : Int)) (nz l) = l.contains x := by
  unfold inV nz Km562.toInts
  induction l with
  | nil => rfl
  | cons y r ih =>
    rw [List.map_cons, List.map_cons, List.any_cons, ih, List.contains_cons]
    congr 1
    show ((y : Int) == (x : Int)) = (x == y)
    by_cases e : x = y
    · subst e
      simp
    · have h1 : ((y : Int) == (x : Int)) = false := beq_false_of_ne (by omega)
      have h2 : (x == y) = false := beq_false_of_ne e
      rw [h1, h2]
abbrev vz (l : List Int) : List V := l.map V.int
theorem vz_get {l : List Int} {i : Nat} {x : Int} (h : l[i]? = some x) : (vz l)[i]? = some (.int x) := by
  rw [List.getElem?_map, h]
  rfl
theorem vz_at {l : List Int} {i : Nat} {x : Int} (h : l[i]? = some x) : atI (vz l) (i : Int) = some (.int x) := atI_nat (vz_get h)
theorem vz_of {l : List Int} {i : Nat} {v : V} (h : (vz l)[i]? = some v) : ∃ x, l[i]? = some x ∧ v = .int x := by
  rw [List.getElem?_map] at h
  cases e : l[i]? with
  | none => rw [e] at h; cases h
  | some x => rw [e] at h; exact ⟨x, rfl, (Option.some.inj h).symm⟩

/-! ### the season -/
def sF (g : Addr) (t m : Nat) (b : Addr) : List (Str × V) := [("growth", .ref g), ("trip_cost", .int (t : Int)), ("max_thickness", .int (m : Int)), ("breaks", .ref b)]
theorem lk_here {k : Str} {v : V} {r : List (Str × V)} : List.lookup k ((k, v) :: r) = some v := by
  have e : (k == k) = true := beq_self_eq_true k
  simp only [List.lookup, e]
theorem lk_past {k g : Str} {v : V} {r : List (Str × V)} (h : (k == g) = false) : List.lookup k ((g, v) :: r) = List.lookup k r := by
  simp only [List.lookup, h]
theorem put_here {f : Str} {v x : V} {r : List (Str × V)} : putF f v ((f, x) :: r) = (f, v) :: r := if_pos rfl
theorem put_past {f g : Str} {v x : V} {r : List (Str × V)} (h : ¬ g = f) : putF f v ((g, x) :: r) = (g, x) :: putF f v r := if_neg h
section
variable {g b : Addr} {t m : Nat}
theorem sF_g : (sF g t m b).lookup ("growth" : Str) = some (.ref g) := lk_here
theorem sF_t : (sF g t m b).lookup ("trip_cost" : Str) = some (.int (t : Int)) := (lk_past (by decide +kernel)).trans lk_here
theorem sF_m : (sF g t m b).lookup ("max_thickness" : Str) = some (.int (m : Int)) := (lk_past (by decide +kernel)).trans ((lk_past (by decide +kernel)).trans lk_here)
theorem sF_b : (sF g t m b).lookup ("breaks" : Str) = some (.ref b) := (lk_past (by decide +kernel)).trans ((lk_past (by decide +kernel)).trans ((lk_past (by decide +kernel)).trans lk_here))
theorem sF_no {k : Str} (h1 : (k == ("growth" : Str)) = false) (h2 : (k == ("trip_cost" : Str)) = false) (h3 : (k == ("max_thickness" : Str)) = false) (h4 : (k == ("breaks" : Str)) = false) : (sF g t m b).lookup k = none :=
  (lk_past h1).trans ((lk_past h2).trans ((lk_past h3).trans ((lk_past h4).trans rfl)))
theorem sF_day_count : (sF g t m b).lookup ("day_count" : Str) = none := sF_no (by decide +kernel) (by decide +kernel) (by decide +kernel) (by decide +kernel)
theorem sF_has_day : (sF g t m b).lookup ("has_day" : Str) = none := sF_no (by decide +kernel) (by decide +kernel) (by decide +kernel) (by decide +kernel)
theorem sF_last : (sF g t m b).lookup ("last_break_before" : Str) = none := sF_no (by decide +kernel) (by decide +kernel) (by decide +kernel) (by decide +kernel)
theorem sF_add : (sF g t m b).lookup ("add_break" : Str) = none := sF_no (by decide +kernel) (by decide +kernel) (by decide +kernel) (by decide +kernel)
theorem sF_rem : (sF g t m b).lookup ("remove_break" : Str) = none := sF_no (by decide +kernel) (by decide +kernel) (by decide +kernel) (by decide +kernel)
theorem sF_with : (sF g t m b).lookup ("growth_with" : Str) = none := sF_no (by decide +kernel) (by decide +kernel) (by decide +kernel) (by decide +kernel)
theorem sF_pg (g' : Addr) : putF "growth" (.ref g') (sF g t m b) = sF g' t m b := put_here
theorem sF_pt (t' : Nat) : putF "trip_cost" (.int (t' : Int)) (sF g t m b) = sF g t' m b := (put_past (by decide +kernel)).trans (congrArg _ put_here)
theorem sF_pm (m' : Nat) : putF "max_thickness" (.int (m' : Int)) (sF g t m b) = sF g t m' b := (put_past (by decide +kernel)).trans (congrArg _ ((put_past (by decide +kernel)).trans (congrArg _ put_here)))
theorem sF_pb (b' : Addr) : putF "breaks" (.ref b') (sF g t m b) = sF g t m b' := (put_past (by decide +kernel)).trans (congrArg _ ((put_past (by decide +kernel)).trans (congrArg _ ((put_past (by decide +kernel)).trans (congrArg _ put_here)))))
theorem sF_new : putF "breaks" (.ref b) (putF "max_thickness" (.int (m : Int)) (putF "trip_cost" (.int (t : Int)) (putF "growth" (.ref g) []))) = sF g t m b := by
  have e1 : putF "growth" (V.ref g) [] = [(("growth" : Str), V.ref g)] := rfl
  have e2 : putF "trip_cost" (V.int (t : Int)) [(("growth" : Str), V.ref g)] = [(("growth" : Str), V.ref g), (("trip_cost" : Str), V.int (t : Int))] := (put_past (by decide +kernel)).trans rfl
  have e3 : putF "max_thickness" (V.int (m : Int)) [(("growth" : Str), V.ref g), (("trip_cost" : Str), V.int (t : Int))] = [(("growth" : Str), V.ref g), (("trip_cost" : Str), V.int (t : Int)), (("max_thickness" : Str), V.int (m : Int))] := (put_past (by decide +kernel)).trans (congrArg _ ((put_past (by decide +kernel)).trans rfl))
  rw [e1, e2, e3]
  exact (put_past (by decide +kernel)).trans (congrArg _ ((put_past (by decide +kernel)).trans (congrArg _ ((put_past (by decide +kernel)).trans rfl))))
end
/-- the season s stands at a, its growth at g -/
structure SAt (C : Addr) (H : Hp) (a g : Addr) (s : Schedule) : Prop where
  ex : ∃ dx b, H a = some (.ins C dx (sF g s.tripCost s.maxThickness b)) ∧ H g = some (.lst (nz s.growth)) ∧ H b = some (.lst (nz s.breaks)) ∧ g ≠ b
theorem SAt.mono {C : Addr} {H H' : Hp} {a g : Addr} {s : Schedule} (h : SAt C H a g s) (e : Ex H H') : SAt C H' a g s := by
  obtain ⟨dx, b, h1, h2, h3, h4⟩ := h.ex
  exact ⟨dx, b, e _ _ h1, e _ _ h2, e _ _ h3, h4⟩
/-- all stands but what is at a | at a and g -/
def Chg1 (H H' : Hp) (a : Addr) : Prop := ∀ b o, H b = some o → b ≠ a → H' b = some o
def Chg (H H' : Hp) (a g : Addr) : Prop := ∀ b o, H b = some o → b ≠ a → b ≠ g → H' b = some o
theorem Chg1.pre {H H1 H' : Hp} {a : Addr} (e : Ex H H1) (h : Chg1 H1 H' a) : Chg1 H H' a := fun b o hb ha => h b o (e b o hb) ha
theorem Chg1.post {H H1 H' : Hp} {a : Addr} (h : Chg1 H H1 a) (e : Ex H1 H') : Chg1 H H' a := fun b o hb ha => e b o (h b o hb ha)
theorem Chg1.chg {H H' : Hp} {a g : Addr} (h : Chg1 H H' a) : Chg H H' a g := fun b o hb ha _ => h b o hb ha
theorem Chg.of {H H' : Hp} {a g : Addr} (e : Ex H H') : Chg H H' a g := fun b o hb _ _ => e b o hb
theorem Chg.pre {H H1 H' : Hp} {a g : Addr} (e : Ex H H1) (h : Chg H1 H' a g) : Chg H H' a g := fun b o hb ha hg => h b o (e b o hb) ha hg
theorem Chg.post {H H1 H' : Hp} {a g : Addr} (h : Chg H H1 a g) (e : Ex H1 H') : Chg H H' a g := fun b o hb ha hg => e b o (h b o hb ha hg)
theorem chg1_upd {H : Hp} {a : Addr} {o : HO} : Chg1 H (upd H a o) a := fun b u hb ha => by rw [upd_ne ha]; exact hb

/-! ### rules of evaluation -/
section
variable {K : PySem.W.Frag} {σ : L2.St} {H H' : Hp} {ta tb te : TE} {v z : V} {C a dx : Addr} {fs : List (Str × V)} {f m : Str} {sp : Sp} {dvs vs : List V} {E : XK} {t : TA}
theorem ev_fld (h : Ev ta σ H (.ref a)) (ho : H a = some (.ins C dx fs)) (c : Cls K C) (n : NoAttr K C f) (l : fs.lookup f = some v) : Ev (tFld K ta f) σ H v := fun H1 e Q q =>
  h H1 e _ fun H2 e2 => ⟨a, C, dx, fs, v, rfl, e2 _ _ (e _ _ ho), c, n, l, q H2 e2⟩
theorem ev_meth (h : Ev ta σ H (.ref a)) (ho : H a = some (.ins C dx fs)) (hm : fs.lookup m = none) (ha : EvA t σ H vs) (hs : SpV sp (.ref a :: (vs ++ dvs)) H z) : Ev (tMeth C m sp dvs E ta t) σ H z := fun H1 e Q q =>
  h H1 e _ fun H2 e2 => ⟨a, dx, fs, rfl, e2 _ _ (e _ _ ho), hm, ha H2 (e.trans e2) _ fun H3 e3 => hs H3 ((e.trans e2).trans e3) Q (fun H4 e4 => q H4 ((e2.trans e3).trans e4)) E⟩
theorem el_meth {xs : List V} (h : Ev ta σ H (.ref a)) (ho : H a = some (.ins C dx fs)) (hm : fs.lookup m = none) (ha : EvA t σ H vs) (hs : SpL sp (.ref a :: (vs ++ dvs)) H xs) : EvL (tMeth C m sp dvs E ta t) σ H xs := fun H1 e Q q =>
  h H1 e _ fun H2 e2 => ⟨a, dx, fs, rfl, e2 _ _ (e _ _ ho), hm, ha H2 (e.trans e2) _ fun H3 e3 => hs H3 ((e.trans e2).trans e3) Q (fun p H4 hp e4 h4 => q p H4 (fresh_back (e2.trans e3) hp) ((e2.trans e3).trans e4) h4) E⟩
/-- a built-in called on a new list -/
theorem ev_cbL {r : List V → Hp → VK → Prop} {xs : List V} (h : EvL te σ H xs) (hr : ∀ p H1, H1 p = some (.lst xs) → Ex H H1 → RC r [.ref p] H1 z) : Ev (tCB r (tCons te tNil)) σ H z := fun H1 e Q q =>
  h H1 e _ fun p H2 _ e2 hp => hr p H2 hp (e.trans e2) H2 (Ex.refl H2) Q fun H3 e3 => q H3 (e2.trans e3)
/-- lists joined: two new ones; a new one and one that stands -/
theorem el_cat {xs ys : List V} (ha : EvL ta σ H xs) (hb : EvL tb σ H ys) (hz : xs.length + ys.length ≤ 100000) : EvL (tOp rCat ta tb) σ H (xs ++ ys) := fun H1 e Q k =>
  ha H1 e _ fun p H2 _ e2 hp => hb H2 (e.trans e2) _ fun q H3 _ e3 hq => ⟨p, q, xs, ys, rfl, rfl, e3 p _ hp, hq, sz_of hz, fun l hl => k l _ (fresh_back (e2.trans e3) hl) ((e2.trans e3).trans (Ex.new hl)) upd_same⟩
theorem el_cat1 {xs ys : List V} {b : Addr} (ha : EvL ta σ H xs) (hb : ∀ H1, Ex H H1 → Ev tb σ H1 (.ref b)) (h : H b = some (.lst ys)) (hz : xs.length + ys.length ≤ 100000) : EvL (tOp rCat ta tb) σ H (xs ++ ys) := fun H1 e Q k =>
  ha H1 e _ fun p H2 _ e2 hp => hb H2 (e.trans e2) H2 (Ex.refl H2) _ fun H3 e3 => ⟨p, b, xs, ys, rfl, rfl, e3 p _ hp, e3 _ _ (e2 _ _ (e _ _ h)), sz_of hz, fun l hl => k l _ (fresh_back (e2.trans e3) hl) ((e2.trans e3).trans (Ex.new hl)) upd_same⟩
/-- both stand -/
theorem el_cat0 {xs ys : List V} {a : Addr} (ha : Ev ta σ H (.ref a)) (h0 : H a = some (.lst xs)) (hb : EvL tb σ H ys) (hz : xs.length + ys.length ≤ 100000) : EvL (tOp rCat ta tb) σ H (xs ++ ys) := fun H1 e Q k =>
  ha H1 e _ fun H2 e2 => hb H2 (e.trans e2) _ fun q H3 _ e3 hq => ⟨a, q, xs, ys, rfl, rfl, e3 _ _ (e2 _ _ (e _ _ h0)), hq, sz_of hz, fun l hl => k l _ (fresh_back (e2.trans e3) hl) ((e2.trans e3).trans (Ex.new hl)) upd_same⟩
theorem spV_of {v : V} (h : ∀ H1, Ex H H1 → ∀ Q : VK, RetV v H1 Q → ∀ E : XK, sp vs H1 Q E) : SpV sp vs H v := fun H1 e Q q E => h H1 e Q q E
theorem spL_of {xs : List V} (h : ∀ H1, Ex H H1 → ∀ Q : VK, RetL xs H1 Q → ∀ E : XK, sp vs H1 Q E) : SpL sp vs H xs := fun H1 e Q q E => h H1 e Q q E
theorem ev_call1 {sp : Sp} {E : XK} {ta : TA} (h : EvA ta σ H vs) (hs : ∀ H1, Ex H H1 → ∀ Q : VK, RetV z H1 Q → ∀ E : XK, sp (vs ++ []) H1 Q E) : Ev (tCall sp [] E ta) σ H z := ev_call h hs
theorem el_call1 {sp : Sp} {E : XK} {ta : TA} {xs : List V} (h : EvA ta σ H vs) (hs : ∀ H1, Ex H H1 → ∀ Q : VK, RetL xs H1 Q → ∀ E : XK, sp (vs ++ []) H1 Q E) : EvL (tCall sp [] E ta) σ H xs := el_call h hs
end
end Ib
/-! ### thicknesses -/
namespace Ib
open PySem PySem.Spec PyProof.Rows L2 Evl
open Km562 (Schedule)
local macro_rules | `(tactic| walk_at "ev") => `(tactic| repeat' (first
  | exact ev_c | exact ev_var rfl | exact ea_nil | apply ea_cons | apply ev_op | exact rv_I0 | apply et_test | exact rv_eq rfl | exact rv_ne rfl | refine el_lst ?_ (by decide) | refine ev_un ?_ ru_neg))
/-- a growth that may be -/
structure Gk (G : List Nat) : Prop where
  len : G.length ≤ 10
  gr : ∀ g ∈ G, g ≤ 30
theorem Ok.gk {s : Schedule} (o : Ok s) : Gk s.growth := ⟨o.len, o.gr⟩
def sp_thickness (K : PySem.W.Frag) : Sp := fun vs H Q _ => ∃ (a : Addr) (G : List Nat) (f l : Nat), vs = [.ref a, .int (f : Int), .int (l : Int)] ∧ SqL K H a (nz G) ∧ l < G.length ∧ Gk G ∧ f ≤ 1000 ∧ RetV (.int ((th G f l : Nat) : Int)) H Q
def sp_effort (K : PySem.W.Frag) : Sp := fun vs H Q _ => ∃ (a : Addr) (G : List Nat) (f l : Nat), vs = [.ref a, .int (f : Int), .int (l : Int)] ∧ SqL K H a (nz G) ∧ l < G.length ∧ Gk G ∧ f ≤ 1000 ∧ RetV (.int ((th G f l * th G f l : Nat) : Int)) H Q
def sp_thicknesses (K : PySem.W.Frag) : Sp := fun vs H Q _ => ∃ (a b : Addr) (s : Schedule), vs = [.ref a, .ref b] ∧ SqL K H a (nz s.growth) ∧ SqL K H b (nz s.breaks) ∧ Ok s ∧ RetL (nz (Km562.thicknessesFrom s 0 s.breaks)) H Q
def sp_effort_of (K : PySem.W.Frag) : Sp := fun vs H Q _ => ∃ (a b : Addr) (s : Schedule), vs = [.ref a, .ref b] ∧ SqL K H a (nz s.growth) ∧ SqL K H b (nz s.breaks) ∧ Ok s ∧ RetV (.int ((Km562.totalEffort s s.breaks : Nat) : Int)) H Q
def sp_is_valid (K : PySem.W.Frag) : Sp := fun vs H Q _ => ∃ (a b : Addr) (s : Schedule), vs = [.ref a, .ref b, .int (s.maxThickness : Int)] ∧ SqL K H a (nz s.growth) ∧ SqL K H b (nz s.breaks) ∧ Ok s ∧ RetV (.bl (Km562.isValid s s.breaks)) H Q
section
variable {P : Program} {w : World} {K : PySem.W.Frag} {mg : Str → Option Value} {base : Heap} {C SZ : Addr}
theorem k_thickness (T : Txt K mg C SZ) (D : Df K mg "thickness" s_thickness ["growth", "first", "last"]) : Cl P w K mg base 1 "thickness" (sp_thickness K) := by
  refine D.cl sc_thickness (fun vs H Q E h => ?_) (fun fa cdv A outer s H vs Q E hr h => ?_)
  · obtain ⟨a, G, f, l, rfl, _⟩ := h
    rfl
  · obtain ⟨a, G, f, l, rfl, hS, hl, hG, hf, k⟩ := h
    have hG1 := hG.len
    refine ⟨_, pss_cons (ps_set (i := 3) sc_thickness.nd rfl (Or.inl rfl) (pe_int))
      (pss_cons (ps_for PassesOwn.never rfl (pi_range2 rfl T.b_range (pa_cons (pv 1) (pa_cons (pe_op op_add (pv 2) (pe_int)) (pa_nil)))) (pg_name (i := 4) sc_thickness.nd rfl (Or.inl rfl))
        (pss_one (ps_set (i := 3) sc_thickness.nd rfl (Or.inl rfl) (pe_op op_add (pv 3) (pe_ix ix_list (pv 0) (pv 4) (fun _ _ => rfl))))))
      (pss_one (ps_ret (pv 3)))), ?_⟩
    refine q_asg ev_c fun H1 e1 => ?_
    refine q_forR2 (lo := (f : Int)) (n := (l : Int) + 1) (by walk_at "ev") (by omega)
      (fun i σ' H' => ∃ v, σ' = [some (.ref a), some (.int (f : Int)), some (.int (l : Int)), some (.int ((thp G f i : Nat) : Int)), v] ∧ Ex H H') (fun H2 e2 => ⟨none, rfl, e1.trans e2⟩) ?_ ?_
    · rintro i σ' H' hi ⟨v, rfl, e⟩
      have hi2 : f + i < G.length := by omega
      refine s_asg (v := .int ((thp G f (i + 1) : Nat) : Int)) (ev_is (ev_op (ev_var rfl) (ev_op (ev_var rfl) (ev_var rfl) (rv_ixL (ex_l e hS) (at_of (j := f + i) (by omega) (nz_get (List.getElem?_eq_getElem hi2))))) rv_I0) ?_) fun H2 e2 => ⟨_, rfl, e.trans e2⟩
      rw [thp_succ, List.getD_eq_getElem?_getD, List.getElem?_eq_getElem hi2, Int.natCast_add]
      rfl
    · rintro σ' H' ⟨v, rfl, e⟩
      refine s_ret (ev_var rfl) fun H2 e2 => ?_
      have en : ((l : Int) + 1 - (f : Int)).toNat = l + 1 - f := by omega
      rw [th_thp] at k
      rw [en]
      exact k H2 (e.trans e2)
theorem k_effort (T : Txt K mg C SZ) (D : Df K mg "effort" s_effort ["growth", "first", "last"]) (c_thickness : Cl P w K mg base 1 "thickness" (sp_thickness K)) : Cl P w K mg base 2 "effort" (sp_effort K) := by
  refine D.cl sc_effort (fun vs H Q E h => ?_) (fun fa cdv A outer s H vs Q E hr h => ?_)
  · obtain ⟨a, G, f, l, rfl, _⟩ := h
    rfl
  · obtain ⟨a, G, f, l, rfl, hS, hl, hG, hf, k⟩ := h
    have hG1 := hG.len
    have ht := th_le hG.gr (f := f) (l := l) (by omega)
    refine ⟨_, pss_cons (ps_set (i := 3) sc_effort.nd rfl (Or.inl rfl) (pe_cl c_thickness hr (by decide) rfl (pa_cons (pv 0) (pa_cons (pv 1) (pa_cons (pv 2) (pa_nil))))))
      (pss_one (ps_ret (pe_op op_mul (pv 3) (pv 3)))), ?_⟩
    refine q_asg (ev_call1 (vs := [.ref a, .int (f : Int), .int (l : Int)]) (z := .int ((th G f l : Nat) : Int)) (by walk_at "ev") (fun H1 e1 Q1 q1 E1 => ⟨a, G, f, l, rfl, ex_l e1 hS, hl, hG, hf, q1⟩)) fun H1 e1 => ?_
    refine s_ret (v := .int ((th G f l * th G f l : Nat) : Int)) (ev_is (ev_op (ev_var rfl) (ev_var rfl) (rv_I (.inl (by omega)))) (by rw [Int.natCast_mul])) fun H2 e2 => k H2 (e1.trans e2)
theorem k_thicknesses (T : Txt K mg C SZ) (D : Df K mg "thicknesses" s_thicknesses ["growth", "breaks"]) (c_thickness : Cl P w K mg base 1 "thickness" (sp_thickness K)) : Cl P w K mg base 2 "thicknesses" (sp_thicknesses K) := by
  refine D.cl sc_thicknesses (fun vs H Q E h => ?_) (fun fa cdv A outer st H vs Q E hr h => ?_)
  · obtain ⟨a, b, s, rfl, _⟩ := h
    rfl
  · obtain ⟨a, b, s, rfl, hS, hB, o, k⟩ := h
    have hG1 := o.len
    have hB1 := o.brk
    refine ⟨_, pss_cons (ps_set (i := 2) sc_thicknesses.nd rfl (Or.inl rfl) (pe_lst (pa_nil)))
      (pss_cons (ps_set (i := 3) sc_thicknesses.nd rfl (Or.inl rfl) (pe_int))
      (pss_cons (ps_for PassesOwn.never rfl (pi_list (pv 1)) (pg_name (i := 4) sc_thicknesses.nd rfl (Or.inl rfl))
        (pss_cons (ps_expr (pe_bm PySem.F.plainAttrs_list PySem.F.slot_list_append PySem.F.type_list_append mt_append (pv 2) (pa_cons (pe_cl c_thickness hr (by decide) rfl (pa_cons (pv 0) (pa_cons (pv 3) (pa_cons (pv 4) (pa_nil))))) (pa_nil))))
      (pss_one (ps_set (i := 3) sc_thicknesses.nd rfl (Or.inl rfl) (pe_op op_add (pv 4) (pe_int))))))
      (pss_one (ps_ret (pv 2))))), ?_⟩
    refine q_asgL (xs := []) (by walk_at "ev") fun p H1 hp e1 h1 => ?_
    refine q_asg ev_c fun H2 e2 => ?_
    refine q_forLn (ev_var rfl) (ex_l (e1.trans e2) hB) (fun i σ' H' => ∃ v, σ' = [some (.ref a), some (.ref b), some (.ref p), some (.int ((fst_ 0 (s.breaks.take i) : Nat) : Int)), v] ∧ Ex H H' ∧ H' p = some (.lst (nz (Km562.thicknessesFrom s 0 (s.breaks.take i)))))
      (fun H3 e3 => ⟨none, rfl, (e1.trans e2).trans e3, e3 _ _ (e2 _ _ h1)⟩) (fun i σ' H' _ ⟨_, _, e, _⟩ => ex_l e hB) ?_ ?_
    · rintro i x σ' H' hx ⟨v, rfl, e, h2⟩
      obtain ⟨d, hd, rfl⟩ := nz_of hx
      have hd2 := o.inn d (List.mem_of_getElem? hd)
      have il := (List.getElem?_eq_some_iff.mp hd).1
      have hf : fst_ 0 (s.breaks.take i) ≤ 1000 := by
        cases i with
        | zero => exact Nat.zero_le _
        | succ i =>
          have hi : i < s.breaks.length := by omega
          rw [take_snoc (List.getElem?_eq_getElem hi), fst_snoc]
          have := o.inn _ (List.getElem_mem hi)
          omega
      refine q_app (v := .int ((th s.growth (fst_ 0 (s.breaks.take i)) d : Nat) : Int)) h2 (ev_var rfl) (ev_call1 (vs := [.ref a, .int ((fst_ 0 (s.breaks.take i) : Nat) : Int), .int (d : Int)]) (by walk_at "ev") (fun H3 e3 Q1 q1 E1 => ⟨a, s.growth, fst_ 0 (s.breaks.take i), d, rfl, ex_l (e.trans e3) hS, hd2, o.gk, hf, q1⟩)) ?_ fun H3 e3 => ?_
      · rw [nz_length, ths_length, List.length_take]
        omega
      · refine s_asg (v := .int ((fst_ 0 (s.breaks.take (i + 1)) : Nat) : Int)) (ev_is (by walk_at "ev") ?_) fun H4 e4 => ⟨_, rfl, ?_, ?_⟩
        · rw [take_snoc hd, fst_snoc, Int.natCast_add]
          rfl
        · exact (Ex.mut (e.trans e3) hp).trans e4
        · refine e4 _ _ (Eq.trans upd_same ?_)
          rw [take_snoc hd, ths_snoc, nz_append]
          rfl
    · rintro σ' H' ⟨v, rfl, e, h2⟩
      rw [nz_length, List.take_length] at h2
      refine s_ret (ev_var rfl) fun H2 e2 => k p H2 hp (e.trans e2) (e2 _ _ h2)
theorem k_effort_of (T : Txt K mg C SZ) (D : Df K mg "effort_of" s_effort_of ["growth", "breaks"]) (c_thicknesses : Cl P w K mg base 2 "thicknesses" (sp_thicknesses K)) : Cl P w K mg base 3 "effort_of" (sp_effort_of K) := by
  refine D.cl sc_effort_of (fun vs H Q E h => ?_) (fun fa cdv A outer st H vs Q E hr h => ?_)
  · obtain ⟨a, b, s, rfl, _⟩ := h
    rfl
  · obtain ⟨a, b, s, rfl, hS, hB, o, k⟩ := h
    refine ⟨_, pss_cons (ps_set (i := 2) sc_effort_of.nd rfl (Or.inl rfl) (pe_int))
      (pss_cons (ps_for PassesOwn.never rfl (pi_list (pe_cl c_thicknesses hr (by decide) rfl (pa_cons (pv 0) (pa_cons (pv 1) (pa_nil))))) (pg_name (i := 3) sc_effort_of.nd rfl (Or.inl rfl))
        (pss_one (ps_set (i := 2) sc_effort_of.nd rfl (Or.inl rfl) (pe_op op_add (pv 2) (pe_op op_mul (pv 3) (pv 3))))))
      (pss_one (ps_ret (pv 2)))), ?_⟩
    refine q_asg ev_c fun H1 e1 => ?_
    generalize hL : Km562.thicknessesFrom s 0 s.breaks = L
    have hLb : ∀ x ∈ L, x ≤ 300 := by rw [← hL]; exact ths_le o 0 s.breaks o.inn
    have hk : Km562.totalEffort s s.breaks = Km562.sum (L.map fun x => x * x) := by rw [← hL]; rfl
    refine q_forNLn (xs := nz L) (el_call1 (vs := [.ref a, .ref b]) (by walk_at "ev") (fun H3 e3 Q1 q1 E1 => ⟨a, b, s, rfl, ex_l (e1.trans e3) hS, ex_l (e1.trans e3) hB, o, by rw [hL]; exact q1⟩))
      (fun p i σ' H' => ∃ v, σ' = [some (.ref a), some (.ref b), some (.int ((Km562.sum ((L.take i).map fun x => x * x) : Nat) : Int)), v] ∧ Ex H H' ∧ H' p = some (.lst (nz L)))
      (fun p H2 hp e2 h2 => ⟨none, rfl, e1.trans e2, h2⟩) (fun p i σ' H' _ ⟨_, _, _, h2⟩ => sq_of h2) ?_ ?_
    · rintro p i x σ' H' hx ⟨v, rfl, e, h2⟩
      obtain ⟨d, hd, rfl⟩ := nz_of hx
      have hd2 := hLb d (List.mem_of_getElem? hd)
      refine s_asg (v := .int ((Km562.sum ((L.take (i + 1)).map fun x => x * x) : Nat) : Int)) (ev_is (ev_op (ev_var rfl) (ev_op (ev_var rfl) (ev_var rfl) (rv_I (.inl (by omega)))) rv_I0) ?_) fun H3 e3 => ⟨_, rfl, e.trans e3, e3 _ _ h2⟩
      rw [take_snoc hd, List.map_append, List.map_cons, List.map_nil, sum_snoc, Int.natCast_add, Int.natCast_mul]
    · rintro p σ' H' ⟨v, rfl, e, h2⟩
      refine s_ret (ev_var rfl) fun H2 e2 => ?_
      rw [hk] at k
      rw [nz_length, List.take_length]
      exact k H2 (e.trans e2)
end
end Ib
/-! ### validity, rows of efforts -/
namespace Ib
open PySem PySem.Spec PyProof.Rows L2 Evl
open Km562 (Schedule)
local macro_rules | `(tactic| walk_at "ev") => `(tactic| repeat' (first
  | exact ev_c | exact ev_var rfl | exact ea_nil | apply ea_cons | apply ev_op | exact rv_I0 | apply et_test | exact rv_eq rfl | exact rv_ne rfl | refine el_lst ?_ (by decide) | refine ev_un ?_ ru_neg))
theorem given_all (n : Nat) (v : Nat → V) : given n (fun _ => true) v = (List.range n).map v := by
  unfold given
  rw [List.filter_eq_self.mpr (fun _ _ => rfl)]
theorem et_yes {σ : L2.St} {H : Hp} : EvT tYes σ H true := fun H1 _ _ q => q H1 (Ex.refl H1)
abbrev rz (s : Schedule) (k : Nat) : List V := vz (row s k)
theorem rz_at (s : Schedule) (k : Nat) {f : Nat} (h : f ≤ s.growth.length) : atI (rz s k) (f : Int) = some (.int (Z s k f)) := vz_at (row_get s k h)
theorem rz_length (s : Schedule) (k : Nat) : (rz s k).length = s.growth.length + 1 := by rw [List.length_map, row_length]
def sp_row_without_breaks (K : PySem.W.Frag) : Sp := fun vs H Q _ => ∃ (a : Addr) (s : Schedule), vs = [.ref a] ∧ SqL K H a (nz s.growth) ∧ Ok s ∧ RetL (rz s 0) H Q
def sp_effort_with (K : PySem.W.Frag) : Sp := fun vs H Q _ => ∃ (a l : Addr) (s : Schedule) (k f d : Nat), vs = [.ref a, .int (s.maxThickness : Int), .ref l, .int (f : Int), .int (d : Int)] ∧ SqL K H a (nz s.growth) ∧ SqL K H l (rz s k) ∧ Ok s ∧ f ≤ 1000 ∧ d < s.growth.length ∧ RetV (.int (ew s k f d)) H Q
def sp_least_from (K : PySem.W.Frag) : Sp := fun vs H Q _ => ∃ (a l : Addr) (s : Schedule) (k f : Nat), vs = [.ref a, .int (s.maxThickness : Int), .ref l, .int (f : Int)] ∧ SqL K H a (nz s.growth) ∧ SqL K H l (rz s k) ∧ Ok s ∧ f ≤ s.growth.length ∧ RetV (.int (Z s (k + 1) f)) H Q
def sp_row_with_one_more (K : PySem.W.Frag) : Sp := fun vs H Q _ => ∃ (a l : Addr) (s : Schedule) (k : Nat), vs = [.ref a, .int (s.maxThickness : Int), .ref l] ∧ SqL K H a (nz s.growth) ∧ SqL K H l (rz s k) ∧ Ok s ∧ RetL (rz s (k + 1)) H Q
/-- n rows of efforts stand at r -/
structure RAt (H : Hp) (r : Addr) (s : Schedule) (n : Nat) : Prop where
  ex : ∃ as : List Addr, H r = some (.lst (as.map V.ref)) ∧ as.length = n ∧ ∀ (j : Nat) (a : Addr), as[j]? = some a → H a = some (.lst (rz s j))
theorem RAt.mono {H H' : Hp} {r : Addr} {s : Schedule} {n : Nat} (h : RAt H r s n) (e : Ex H H') : RAt H' r s n := by
  obtain ⟨as, h1, h2, h3⟩ := h.ex
  exact ⟨as, e _ _ h1, h2, fun j a q => e _ _ (h3 j a q)⟩
def RetR (s : Schedule) (n : Nat) (H : Hp) (Q : VK) : Prop := ∀ p H2, H p = none → Ex H H2 → RAt H2 p s n → Q (.ref p) H2
theorem refs_ne {as : List Addr} {l : List Int} (h : as.map V.ref = vz l) : as = [] := by
  cases as with
  | nil => rfl
  | cons a r =>
    cases l with
    | nil => cases h
    | cons x m =>
      have h' : V.ref a :: r.map V.ref = V.int x :: vz m := h
      injection h' with h1 _
      cases h1
theorem RAt.more {H : Hp} {r q : Addr} {s : Schedule} {n : Nat} {xs : List V} (h : RAt H r s (n + 1)) (hx : H r = some (.lst xs)) (hq : H q = some (.lst (rz s (n + 1)))) : RAt (upd H r (.lst (xs ++ [.ref q]))) r s (n + 2) := by
  obtain ⟨as, h1, h2, h3⟩ := h.ex
  have e : xs = as.map V.ref := by
    rw [h1] at hx
    cases hx
    rfl
  subst e
  have ne : ∀ (b : Addr) (j : Nat), H b = some (.lst (rz s j)) → b ≠ r := fun b j hb => ne_of hb h1 (by
    intro z
    have z2 : rz s j = as.map V.ref := HO.lst.inj z
    have := refs_ne z2.symm
    rw [this] at h2
    simp at h2)
  refine ⟨as ++ [q], ?_, by rw [List.length_append, h2]; rfl, fun j a hj => ?_⟩
  · rw [upd_same, List.map_append]
    rfl
  · by_cases c : j < as.length
    · rw [List.getElem?_append_left c] at hj
      have := h3 j a hj
      rw [upd_ne (ne a j this)]
      exact this
    · rw [List.getElem?_append_right (by omega)] at hj
      have hj0 : j - as.length = 0 := by
        apply Classical.byContradiction
        intro z
        rw [List.getElem?_eq_none (by simp; omega)] at hj
        cases hj
      rw [hj0] at hj
      have : q = a := Option.some.inj hj
      subst this
      rw [show j = n + 1 by omega, upd_ne (ne q _ hq)]
      exact hq
theorem RAt.last {H : Hp} {r : Addr} {s : Schedule} {n : Nat} (h : RAt H r s (n + 1)) : ∃ (xs : List V) (a : Addr), H r = some (.lst (xs ++ [.ref a])) ∧ xs.length = n ∧ H a = some (.lst (rz s n)) := by
  obtain ⟨as, h1, h2, h3⟩ := h.ex
  have hne : as ≠ [] := by intro z; rw [z] at h2; cases h2
  have e := (List.dropLast_concat_getLast hne)
  refine ⟨as.dropLast.map V.ref, as.getLast hne, ?_, by rw [List.length_map, List.length_dropLast, h2]; rfl, h3 n _ ?_⟩
  · rw [h1]
    have e2 : as.map V.ref = as.dropLast.map V.ref ++ [V.ref (as.getLast hne)] := by
      rw [← List.map_singleton (f := V.ref), ← List.map_append, e]
    rw [e2]
  · rw [List.getLast_eq_getElem, List.getElem?_eq_getElem (show n < as.length by omega)]
    congr 1
    congr 1
    omega
theorem RAt.get {H : Hp} {r : Addr} {s : Schedule} {n j : Nat} (h : RAt H r s n) (hj : j < n) : ∃ (xs : List V) (a : Addr), H r = some (.lst xs) ∧ xs[j]? = some (.ref a) ∧ H a = some (.lst (rz s j)) ∧ xs.length = n := by
  obtain ⟨as, h1, h2, h3⟩ := h.ex
  refine ⟨_, as[j], h1, ?_, h3 j _ (List.getElem?_eq_getElem (by omega)), by rw [List.length_map, h2]⟩
  rw [List.getElem?_map, List.getElem?_eq_getElem (show j < as.length by omega)]
  rfl
section
variable {K : PySem.W.Frag} {σ : L2.St} {H H' : Hp} {ta tb tc te : TE} {s : Schedule} {n : Nat}
def EvR (te : TE) (σ : L2.St) (H : Hp) (s : Schedule) (n : Nat) : Prop := ∀ H1, Ex H H1 → ∀ Q : VK, (∀ p H2, H1 p = none → Ex H1 H2 → RAt H2 p s n → Q (.ref p) H2) → te σ H1 Q
theorem er_call {sp : Sp} {E : XK} {ta : TA} {vs : List V} (h : EvA ta σ H vs) (hs : ∀ H1, Ex H H1 → ∀ Q : VK, RetR s n H1 Q → ∀ E : XK, sp (vs ++ []) H1 Q E) : EvR (tCall sp [] E ta) σ H s n := fun H1 e Q q =>
  h H1 e _ fun H2 e2 => hs H2 (e.trans e2) Q (fun p H3 hp e3 h3 => q p H3 (fresh_back e2 hp) (e2.trans e3) h3) E
/-- rows[j][f] of rows that are made, of rows that stand -/
theorem ev_row2 {j f : Nat} (h : EvR te σ H s n) (hb : ∀ H1, Ex H H1 → Ev tb σ H1 (.int (j : Int))) (hc : ∀ H1, Ex H H1 → Ev tc σ H1 (.int (f : Int))) (hj : j < n) (hf : f ≤ s.growth.length) : Ev (tOp (rIxL K) (tOp (rIxL K) te tb) tc) σ H (.int (Z s j f)) := fun H1 e Q q =>
  h H1 e _ fun p H2 _ e2 hR => hb H2 (e.trans e2) H2 (Ex.refl _) _ fun H3 e3 => by
    obtain ⟨xs, a, h1, h2, h3, _⟩ := (hR.mono e3).get hj
    exact ⟨p, xs, (j : Int), .ref a, rfl, rfl, sq_of h1, atI_nat h2, hc H3 ((e.trans e2).trans e3) H3 (Ex.refl _) _ fun H4 e4 => ⟨a, rz s j, (f : Int), _, rfl, rfl, sq_of (e4 _ _ h3), rz_at s j hf, q H4 ((e2.trans e3).trans e4)⟩⟩
theorem ev_rowS {p : Addr} {j f : Nat} (h : Ev te σ H (.ref p)) (hR : RAt H p s n) (hb : Ev tb σ H (.int (j : Int))) (hc : Ev tc σ H (.int (f : Int))) (hj : j < n) (hf : f ≤ s.growth.length) : Ev (tOp (rIxL K) (tOp (rIxL K) te tb) tc) σ H (.int (Z s j f)) := by
  obtain ⟨xs, a, h1, h2, h3, _⟩ := hR.get hj
  exact ev_op (ev_op h hb (rv_ixL (sq_of h1) (atI_nat h2))) hc (rv_ixL (sq_of h3) (rz_at s j hf))
variable {D : Ends} {tz : TS}
theorem q_asgR {i : Nat} (h : EvR te σ H s n) (k : ∀ p H1, H p = none → Ex H H1 → RAt H1 p s n → tz D (σ.set i (some (.ref p))) H1) : tSeq (tAsg te (gName i)) tz D σ H := h H (Ex.refl H) _ fun p H1 hp e h1 => k p H1 hp e h1
theorem q_asgLR {i : Nat} {xs : List V} (h : EvL te σ H xs) (k : ∀ p q H1, H p = none → Ex H H1 → H1 p = some (.lst [.ref q]) → H1 q = some (.lst xs) → tz D (σ.set i (some (.ref p))) H1) : tSeq (tAsg (tLst (tCons te tNil)) (gName i)) tz D σ H :=
  h H (Ex.refl H) _ fun q H1 _ e1 h1 => ⟨(by show 1 ≤ sizeLine; decide), fun p hp => k p q _ (fresh_back e1 hp) (e1.trans (Ex.new hp)) upd_same (by rw [upd_ne (ne_of_none h1 hp)]; exact h1)⟩
end
def sp_effort_rows (K : PySem.W.Frag) : Sp := fun vs H Q _ => ∃ (a : Addr) (s : Schedule) (m : Nat), vs = [.ref a, .int (s.maxThickness : Int), .int (m : Int)] ∧ SqL K H a (nz s.growth) ∧ Ok s ∧ m ≤ 10 ∧ RetR s (m + 1) H Q
def sp_least_effort (K : PySem.W.Frag) : Sp := fun vs H Q _ => ∃ (a : Addr) (s : Schedule) (m : Nat), vs = [.ref a, .int (s.maxThickness : Int), .int (m : Int)] ∧ SqL K H a (nz s.growth) ∧ Ok s ∧ m ≤ 10 ∧ RetV (.int (Z s m 0)) H Q
def sp_first_break (K : PySem.W.Frag) : Sp := fun vs H Q _ => ∃ (a r : Addr) (s : Schedule) (n k f v d : Nat) (rest : List Nat), vs = [.ref a, .int (s.maxThickness : Int), .ref r, .int ((k + 1 : Nat) : Int), .int (f : Int)] ∧ SqL K H a (nz s.growth) ∧ RAt H r s n ∧ Ok s ∧ k + 1 < n ∧
  f ≤ s.growth.length ∧ Km562.optimalFrom s (k + 1) f = some (v, d :: rest) ∧ RetV (.int (d : Int)) H Q
def sp_least_breaks (K : PySem.W.Frag) : Sp := fun vs H Q _ => ∃ (a : Addr) (s : Schedule) (m v : Nat) (ds : List Nat), vs = [.ref a, .int (s.maxThickness : Int), .int (m : Int)] ∧ SqL K H a (nz s.growth) ∧ Ok s ∧ m ≤ 10 ∧ Km562.optimalFrom s m 0 = some (v, ds) ∧ RetL (nz ds) H Q
def mn (s : Schedule) : Int := match (List.range (s.growth.length + 1)).find? fun k => (Km562.optimal s k).isSome with
  | none => -1
  | some k => (k : Int)
def sp_least_number (K : PySem.W.Frag) : Sp := fun vs H Q _ => ∃ (a : Addr) (s : Schedule), vs = [.ref a, .int (s.maxThickness : Int)] ∧ SqL K H a (nz s.growth) ∧ Ok s ∧ RetV (.int (mn s)) H Q
def RetU (xs : List V) (H : Hp) (Q : VK) : Prop := ∀ p H2, H p = none → Ex H H2 → H2 p = some (.tup xs) → Q (.ref p) H2
def sp_cheapest (K : PySem.W.Frag) : Sp := fun vs H Q _ => ∃ (a : Addr) (s : Schedule), vs = [.ref a, .int (s.maxThickness : Int), .int (s.tripCost : Int)] ∧ SqL K H a (nz s.growth) ∧ Ok s ∧ RetU [.int (cn (Km562.cheapest s)), .int (cc (Km562.cheapest s))] H Q
def sp_balanced : Sp := fun vs H Q _ => ∃ (n k : Nat), vs = [.int (n : Int), .int (k : Int)] ∧ n ≤ 10 ∧ 1 ≤ k ∧ k ≤ 10 ∧ RetV (.int ((Km562.balancedSquares n k : Nat) : Int)) H Q
section
variable {P : Program} {w : World} {K : PySem.W.Frag} {mg : Str → Option Value} {base : Heap} {C SZ : Addr}
theorem bls_of {L : List Nat} {m : Nat} : given (nz L).length (fun _ => true) (fun i => .bl (decide ((L.getD i 0 : Nat) ≤ m))) = (L.map fun x => decide (x ≤ m)).map V.bl := by
  rw [given_all, nz_length]
  apply List.ext_getElem?
  intro i
  rw [List.getElem?_map, List.getElem?_map, List.getElem?_map]
  by_cases h : i < L.length
  · rw [List.getElem?_range h, List.getElem?_eq_getElem h]
    show some (V.bl (decide (L.getD i 0 ≤ m))) = some (V.bl (decide (L[i] ≤ m)))
    rw [List.getD_eq_getElem?_getD, List.getElem?_eq_getElem h]
    rfl
  · rw [List.getElem?_eq_none (by simp; omega), List.getElem?_eq_none (by omega)]
    rfl
theorem k_is_valid (T : Txt K mg C SZ) (D : Df K mg "is_valid" s_is_valid ["growth", "breaks", "most"]) (c_thicknesses : Cl P w K mg base 2 "thicknesses" (sp_thicknesses K)) : Cl P w K mg base 3 "is_valid" (sp_is_valid K) := by
  refine D.cl sc_is_valid (fun vs H Q E h => ?_) (fun fa cdv A outer st H vs Q E hr h => ?_)
  · obtain ⟨a, b, s, rfl, _⟩ := h
    rfl
  · obtain ⟨a, b, s, rfl, hS, hB, o, k⟩ := h
    have hG := o.len
    have hBl := o.brk
    refine ⟨_, pss_cons (ps_if (pt_cmpR op_eq (pe_callB call_len_seq (by rfl) T.b_len PySem.boot_len (pa_cons (pv 0) (pa_nil))) (pe_int) (nomark _)) (pss_one (ps_ret (pe_cmpR op_eq (pe_callB call_len_seq (by rfl) T.b_len PySem.boot_len (pa_cons (pv 1) (pa_nil))) (pe_int) (nomark _)))) (pss_nil))
      (pss_cons (ps_if (PW.pt (pw_or (pt_cmpR op_eq (pe_callB call_len_seq (by rfl) T.b_len PySem.boot_len (pa_cons (pv 1) (pa_nil))) (pe_int) (nomark _)) (pw_or1 (pt_cmpR op_ne (pe_ix ix_list (pv 1) (pe_un un_neg (pe_int)) (fun _ _ => rfl)) (pe_op op_sub (pe_callB call_len_seq (by rfl) T.b_len PySem.boot_len (pa_cons (pv 0) (pa_nil))) (pe_int)) (nomark _))))) (pss_one (ps_ret (pe_bl))) (pss_nil))
      (pss_one (ps_ret (pe_callB (cr_all rfl) (by rfl) T.b_all (by decide +kernel) (pa_cons (pe_lc (own := [("removed", 3)]) (g := gName 3) rfl sc_is_valid.nd (pi_list (pe_cl c_thicknesses hr (by decide) rfl (pa_cons (pv 0) (pa_cons (pv 1) (pa_nil))))) (blkOk_by (N := ["growth", "breaks", "most", "removed"]) (sc := defScope s_is_valid) (by decide +kernel))
        (fun _ _ _ _ _ => pg_name (i := 3) sc_is_valid.nd rfl (Or.inl rfl)) (fun _ _ _ _ _ => pts_nil) (fun _ _ _ _ _ => pe_cmpR op_le (pv 3) (pv 2) (nomark _))) (pa_nil)))))), ?_⟩
    refine q_when (b := decide (V.int ((nz s.growth).length : Int) = .int 0)) (et_test (ev_op (ev_len (ev_var rfl) hS) ev_c (rv_eq rfl))) (fun hb H1 e1 => ?_) (fun hb H1 e1 => ?_)
    · have hn : s.growth.length = 0 := by
        have := V.int.inj (of_decide_eq_true hb)
        rw [nz_length] at this
        omega
      obtain ⟨v1, v2⟩ := valid_zero o hn
      refine s_ret (v := .bl (Km562.isValid s s.breaks)) (ev_is (ev_op (ev_len (ev_var rfl) (ex_l e1 hB)) ev_c (rv_eq rfl)) ?_) fun H2 e2 => k H2 (e1.trans e2)
      rw [v2, v1]
      rfl
    · have hn : s.growth.length ≠ 0 := by
        intro z
        have := of_decide_eq_false hb
        rw [nz_length, z] at this
        exact this rfl
      have hS1 := ex_l e1 hS
      have hB1 := ex_l e1 hB
      by_cases hbr : s.breaks = []
      · refine q_when (b := true) (et_is (et_or (a := true) (b := true) (et_is (et_test (ev_op (ev_len (ev_var rfl) hB1) ev_c (rv_eq rfl))) (by rw [hbr]; rfl)) (fun z => nomatch z)) rfl) (fun _ H2 e2 => ?_) (fun z => nomatch z)
        refine s_ret (v := .bl (Km562.isValid s s.breaks)) (ev_is ev_c (by rw [valid_nil o hn hbr])) fun H3 e3 => k H3 ((e1.trans e2).trans e3)
      · have e : s.breaks = s.breaks.dropLast ++ [s.breaks.getLast hbr] := (List.dropLast_concat_getLast hbr).symm
        generalize hl : s.breaks.dropLast = l at e
        generalize hx : s.breaks.getLast hbr = x at e
        have vs := valid_snoc hn e
        have e2 : nz s.breaks = nz l ++ [.int (x : Int)] := by rw [e, nz_append]; rfl
        have hlen : (nz s.breaks).length = l.length + 1 := by rw [nz_length, e, List.length_append]; rfl
        refine q_when (b := !decide (x + 1 = s.growth.length)) (et_is (et_or (a := false) (b := !decide (x + 1 = s.growth.length)) (et_is (et_test (ev_op (ev_len (ev_var rfl) hB1) ev_c (rv_eq rfl))) (decide_eq_false (by rw [hlen]; intro z; have := V.int.inj z; omega)))
          (fun _ => et_is (et_test (ev_op (ev_op (ev_var rfl) (ev_un ev_c ru_neg) (rv_ixL hB1 (by rw [e2]; exact atI_last _ _))) (ev_op (ev_len (ev_var rfl) hS1) ev_c rv_I0) (rv_ne rfl))) (by
            rw [nz_length]
            by_cases c : x + 1 = s.growth.length
            · rw [decide_eq_true c, decide_eq_true (by rw [← c]; congr 1; omega)]
            · rw [decide_eq_false c, decide_eq_false (by intro z; have := V.int.inj z; omega)]))) (by rw [Bool.false_or])) (fun hb2 H2 e3 => ?_) (fun hb2 H2 e3 => ?_)
        · have hx0 : ¬ x + 1 = s.growth.length := by simpa using hb2
          refine s_ret (v := .bl (Km562.isValid s s.breaks)) (ev_is ev_c (by rw [vs, decide_eq_false hx0]; rfl)) fun H3 e4 => k H3 ((e1.trans e3).trans e4)
        · have hx0 : x + 1 = s.growth.length := by simpa using hb2
          have e13 := e1.trans e3
          generalize hL : Km562.thicknessesFrom s 0 s.breaks = L
          have hLl : L.length ≤ 10 := by rw [← hL, ths_length]; omega
          refine s_ret (v := .bl (Km562.isValid s s.breaks)) (ev_cbL (xs := (L.map fun x => decide (x ≤ s.maxThickness)).map V.bl) (by
            rw [← bls_of]
            refine el_lcNL (fun _ => true) _ (el_call1 (vs := [.ref a, .ref b]) (by walk_at "ev") (fun H3 e4 Q1 q1 E1 => ⟨a, b, s, rfl, ex_l (e13.trans e4) hS, ex_l (e13.trans e4) hB, o, by rw [hL]; exact q1⟩)) (by rw [nz_length]; omega) (fun x => rfl) (fun i x H3 _ _ => et_yes) (fun i x H3 _ hx2 _ => ?_)
            obtain ⟨d, hd, rfl⟩ := nz_of hx2
            refine ev_is (ev_op (ev_var rfl) (ev_var rfl) rv_I0) ?_
            rw [List.getD_eq_getElem?_getD, hd]
            congr 1
            show decide ((d : Int) ≤ (s.maxThickness : Int)) = decide (d ≤ s.maxThickness)
            by_cases c : d ≤ s.maxThickness
            · rw [decide_eq_true c, decide_eq_true (by omega)]
            · rw [decide_eq_false c, decide_eq_false (by omega)]) (fun p H3 h3 e4 H4 e5 Q1 q1 => ⟨p, L.map fun x => decide (x ≤ s.maxThickness), rfl, sq_of (e5 _ _ h3), ?_⟩)) fun H3 e4 => k H3 (e13.trans e4)
          have q2 := q1 H4 (Ex.refl _)
          rw [vs, decide_eq_true hx0, Bool.true_and] at q2
          have e6 : (L.map fun x => decide (x ≤ s.maxThickness)).all id = (Km562.thicknesses s s.breaks).all fun x => decide (x ≤ s.maxThickness) := by
            rw [List.all_map, ← hL]
            rfl
          rw [e6]
          exact q2
theorem k_row_without_breaks (T : Txt K mg C SZ) (D : Df K mg "row_without_breaks" s_row_without_breaks ["growth"]) : Cl P w K mg base 1 "row_without_breaks" (sp_row_without_breaks K) := by
  refine D.cl sc_row_without_breaks (fun vs H Q E h => ?_) (fun fa cdv A outer st H vs Q E hr h => ?_)
  · obtain ⟨a, s, rfl, _⟩ := h
    rfl
  · obtain ⟨a, s, rfl, hS, o, k⟩ := h
    have hG := o.len
    refine ⟨_, pss_one (ps_ret (pe_op op_cat (pe_lc (own := [("day", 1)]) (g := gName 1) rfl sc_row_without_breaks.nd (pi_list (pv 0)) (blkOk_by (N := ["growth", "day"]) (sc := defScope s_row_without_breaks) (by decide +kernel))
        (fun _ _ _ _ _ => pg_name (i := 1) sc_row_without_breaks.nd rfl (Or.inl rfl)) (fun _ _ _ _ _ => pts_nil) (fun _ _ _ _ _ => C8.pe_gc rfl T.g_UNDEFINED)) (pe_lst (pa_cons (pe_int) (pa_nil))))), ?_⟩
    have e0 : rz s 0 = given (nz s.growth).length (fun _ => true) (fun _ => .int (-1)) ++ [.int 0] := by
      rw [given_all, nz_length]
      unfold rz vz
      rw [row_zero, List.map_append, List.map_replicate]
      congr 1
      apply List.ext_getElem?
      intro i
      rw [List.getElem?_map, List.getElem?_replicate]
      by_cases h : i < s.growth.length
      · rw [List.getElem?_range h, if_pos h]
        rfl
      · rw [List.getElem?_eq_none (by simp; omega), if_neg h]
        rfl
    rw [e0] at k
    refine s_retL (el_cat (el_lcL (fun _ => true) (fun _ => .int (-1)) (ev_var rfl) hS (by rw [nz_length]; omega) (fun x => rfl) (fun i x H3 _ _ => et_yes) (fun i x H3 _ _ _ => ev_c)) (by walk_at "ev") ?_) k
    have := given_len (nz s.growth).length (fun _ => true) (fun _ => V.int (-1))
    rw [nz_length] at this
    rw [nz_length]
    show _ + 1 ≤ 100000
    omega
theorem k_effort_with (T : Txt K mg C SZ) (D : Df K mg "effort_with" s_effort_with ["growth", "most", "later", "first", "day"]) (c_thickness : Cl P w K mg base 1 "thickness" (sp_thickness K)) (c_effort : Cl P w K mg base 2 "effort" (sp_effort K)) : Cl P w K mg base 3 "effort_with" (sp_effort_with K) := by
  refine D.cl sc_effort_with (fun vs H Q E h => ?_) (fun fa cdv A outer st H vs Q E hr h => ?_)
  · obtain ⟨a, l, s, j, f, d, rfl, _⟩ := h
    rfl
  · obtain ⟨a, l, s, j, f, d, rfl, hS, hR, o, hf, hd, k⟩ := h
    refine ⟨_, pss_cons (ps_if (PW.pt (pw_or (pt_cmpR op_eq (pe_ix ix_list (pv 2) (pe_op op_add (pv 4) (pe_int)) (fun _ _ => rfl)) (C8.pe_gc rfl T.g_UNDEFINED) (nomark _)) (pw_or1 (pt_cmpR op_gt (pe_cl c_thickness hr (by decide) rfl (pa_cons (pv 0) (pa_cons (pv 3) (pa_cons (pv 4) (pa_nil))))) (pv 1) (nomark _))))) (pss_one (ps_ret (C8.pe_gc rfl T.g_UNDEFINED))) (pss_nil))
      (pss_one (ps_ret (pe_op op_add (pe_cl c_effort hr (by decide) rfl (pa_cons (pv 0) (pa_cons (pv 3) (pa_cons (pv 4) (pa_nil))))) (pe_ix ix_list (pv 2) (pe_op op_add (pv 4) (pe_int)) (fun _ _ => rfl))))), ?_⟩
    have hix : ∀ H1, Ex H H1 → RV (rIxL K) (.ref l) (.int ((d : Int) + 1)) H1 (.int (Z s j (d + 1))) := fun H1 e => rv_ixL (ex_l e hR) (rz_at s j (show d + 1 ≤ s.growth.length by omega))
    refine q_when (b := decide (Z s j (d + 1) = -1) || decide ((s.maxThickness : Int) < (th s.growth f d : Nat))) (et_or (et_is (et_test (ev_op (ev_op (ev_var rfl) (ev_op (ev_var rfl) ev_c rv_I0) (hix _ (Ex.refl _))) ev_c (rv_eq rfl))) ?_)
      (fun _ => et_is (et_test (ev_op (ev_call1 (vs := [.ref a, .int (f : Int), .int (d : Int)]) (z := .int ((th s.growth f d : Nat) : Int)) (by walk_at "ev") (fun H3 e3 Q1 q1 E1 => ⟨a, s.growth, f, d, rfl, ex_l e3 hS, hd, o.gk, hf, q1⟩)) (ev_var rfl) rv_I0)) rfl)) (fun hb H1 e1 => ?_) (fun hb H1 e1 => ?_)
    · by_cases c : Z s j (d + 1) = -1
      · rw [decide_eq_true c, decide_eq_true (by rw [c])]
      · rw [decide_eq_false c, decide_eq_false (by intro z; exact c (V.int.inj z))]
    · have c : Z s j (d + 1) = -1 ∨ (s.maxThickness : Int) < (th s.growth f d : Nat) := by
        rcases Bool.or_eq_true_iff.mp hb with h | h
        · exact Or.inl (of_decide_eq_true h)
        · exact Or.inr (of_decide_eq_true h)
      refine s_ret (v := .int (ew s j f d)) (ev_is ev_c ?_) fun H2 e2 => k H2 (e1.trans e2)
      unfold ew
      rw [if_pos c]
    · have c : ¬ (Z s j (d + 1) = -1 ∨ (s.maxThickness : Int) < (th s.growth f d : Nat)) := by
        intro z
        have := Bool.or_eq_false_iff.mp hb
        rcases z with z | z
        · exact of_decide_eq_false this.1 z
        · exact of_decide_eq_false this.2 z
      refine s_ret (v := .int (ew s j f d)) (ev_is (ev_op (ev_call1 (vs := [.ref a, .int (f : Int), .int (d : Int)]) (z := .int ((th s.growth f d * th s.growth f d : Nat) : Int)) (by walk_at "ev") (fun H3 e3 Q1 q1 E1 => ⟨a, s.growth, f, d, rfl, ex_l (e1.trans e3) hS, hd, o.gk, hf, q1⟩)) (ev_op (ev_var rfl) (ev_op (ev_var rfl) ev_c rv_I0) (hix _ e1)) rv_I0) ?_) fun H2 e2 => k H2 (e1.trans e2)
      unfold ew
      rw [if_neg c]
theorem k_least_from (T : Txt K mg C SZ) (D : Df K mg "least_from" s_least_from ["growth", "most", "later", "first"]) (c_effort_with : Cl P w K mg base 3 "effort_with" (sp_effort_with K)) : Cl P w K mg base 4 "least_from" (sp_least_from K) := by
  refine D.cl sc_least_from (fun vs H Q E h => ?_) (fun fa cdv A outer st H vs Q E hr h => ?_)
  · obtain ⟨a, l, s, j, f, rfl, _⟩ := h
    rfl
  · obtain ⟨a, l, s, j, f, rfl, hS, hR, o, hf, k⟩ := h
    have hG := o.len
    refine ⟨_, pss_cons (ps_set (i := 4) sc_least_from.nd rfl (Or.inl rfl) (C8.pe_gc rfl T.g_UNDEFINED))
      (pss_cons (ps_for PassesOwn.never rfl (pi_range2 rfl T.b_range (pa_cons (pv 3) (pa_cons (pe_callB call_len_seq (by rfl) T.b_len PySem.boot_len (pa_cons (pv 0) (pa_nil))) (pa_nil)))) (pg_name (i := 5) sc_least_from.nd rfl (Or.inl rfl))
        (pss_cons (ps_set (i := 6) sc_least_from.nd rfl (Or.inl rfl) (pe_cl c_effort_with hr (by decide) rfl (pa_cons (pv 0) (pa_cons (pv 1) (pa_cons (pv 2) (pa_cons (pv 3) (pa_cons (pv 5) (pa_nil))))))))
      (pss_one (ps_if (PW.pt (pw_and (pt_cmpR op_ne (pv 6) (C8.pe_gc rfl T.g_UNDEFINED) (nomark _)) (pw_and1 (PW.pt (pw_or (pt_cmpR op_eq (pv 4) (C8.pe_gc rfl T.g_UNDEFINED) (nomark _)) (pw_or1 (pt_cmpR op_lt (pv 6) (pv 4) (nomark _)))))))) (pss_one (ps_set (i := 4) sc_least_from.nd rfl (Or.inl rfl) (pv 6))) (pss_nil)))))
      (pss_one (ps_ret (pv 4)))), ?_⟩
    refine q_asg ev_c fun H1 e1 => ?_
    refine q_forR2 (lo := (f : Int)) (n := (s.growth.length : Int)) (ea_cons (ev_var rfl) (ea_cons (ev_is (ev_len (ev_var rfl) (ex_l e1 hS)) (by rw [nz_length])) ea_nil)) (by omega)
      (fun i σ' H' => ∃ v u, σ' = [some (.ref a), some (.int (s.maxThickness : Int)), some (.ref l), some (.int (f : Int)), some (.int (zo (bst s j f i))), v, u] ∧ Ex H H') (fun H2 e2 => ⟨none, none, rfl, e1.trans e2⟩) ?_ ?_
    · rintro i σ' H' hi ⟨v, u, rfl, e⟩
      refine q_asg (v := .int (ew s j f (f + i))) (ev_call1 (vs := [.ref a, .int (s.maxThickness : Int), .ref l, .int (f : Int), .int ((f : Int) + (i : Int))]) (by walk_at "ev") (fun H3 e3 Q1 q1 E1 => ⟨a, l, s, j, f, f + i, rfl, ex_l (e.trans e3) hS, ex_l (e.trans e3) hR, o, by omega, by omega, q1⟩)) fun H2 e2 => ?_
      have step := zo_stp s j f (bst s j f i) i
      rw [← bst_succ] at step
      generalize ew s j f (f + i) = x at step
      generalize zo (bst s j f i) = b0 at step
      refine s_ifAsg (b := decide (x ≠ -1) && (decide (b0 = -1) || decide (x < b0))) (v := .int (zo (bst s j f (i + 1)))) (et_and (et_is (et_test (ev_op (ev_var rfl) ev_c (rv_ne rfl))) ?_) (fun _ => et_or (et_is (et_test (ev_op (ev_var rfl) ev_c (rv_eq rfl))) ?_) (fun _ => et_test (ev_op (ev_var rfl) (ev_var rfl) rv_I0)))) (fun hb => ev_is (ev_var rfl) ?_) (fun hb => ?_) fun H3 e3 => ⟨_, _, rfl, (e.trans e2).trans e3⟩
      · by_cases c : x = -1
        · rw [c]; rfl
        · rw [decide_eq_false (fun z => c (V.int.inj z)), decide_eq_true c]
          rfl
      · by_cases c : b0 = -1
        · rw [c]; rfl
        · rw [decide_eq_false (fun z => c (V.int.inj z)), decide_eq_false c]
      · have hb' := Bool.and_eq_true_iff.mp hb
        have h1 := of_decide_eq_true hb'.1
        have h2 : b0 = -1 ∨ x < b0 := by
          rcases Bool.or_eq_true_iff.mp hb'.2 with h | h
          · exact Or.inl (of_decide_eq_true h)
          · exact Or.inr (of_decide_eq_true h)
        rw [step]
        unfold zst
        rw [if_pos ⟨h1, h2⟩]
      · have hn : ¬ (x ≠ -1 ∧ (b0 = -1 ∨ x < b0)) := by
          rintro ⟨h1, h2⟩
          rcases Bool.and_eq_false_iff.mp hb with h | h
          · exact of_decide_eq_false h h1
          · have h' := Bool.or_eq_false_iff.mp h
            rcases h2 with h2 | h2
            · exact of_decide_eq_false h'.1 h2
            · exact of_decide_eq_false h'.2 h2
        rw [step]
        unfold zst
        rw [if_neg hn]
        rfl
    · rintro σ' H' ⟨v, u, rfl, e⟩
      refine s_ret (ev_var rfl) fun H2 e2 => ?_
      rw [Z_succ] at k
      rw [show ((s.growth.length : Int) - (f : Int)).toNat = s.growth.length - f by omega]
      exact k H2 (e.trans e2)
theorem k_row_with_one_more (T : Txt K mg C SZ) (D : Df K mg "row_with_one_more" s_row_with_one_more ["growth", "most", "later"]) (c_least_from : Cl P w K mg base 4 "least_from" (sp_least_from K)) : Cl P w K mg base 5 "row_with_one_more" (sp_row_with_one_more K) := by
  refine D.cl sc_row_with_one_more (fun vs H Q E h => ?_) (fun fa cdv A outer st H vs Q E hr h => ?_)
  · obtain ⟨a, l, s, j, rfl, _⟩ := h
    rfl
  · obtain ⟨a, l, s, j, rfl, hS, hR, o, k⟩ := h
    have hG := o.len
    refine ⟨_, pss_one (ps_ret (pe_op op_cat (pe_lc (own := [("first", 3)]) (g := gName 3) rfl sc_row_with_one_more.nd (pi_range1 rfl T.b_range (pa_cons (pe_callB call_len_seq (by rfl) T.b_len PySem.boot_len (pa_cons (pv 0) (pa_nil))) (pa_nil))) (blkOk_by (N := ["growth", "most", "later", "first"]) (sc := defScope s_row_with_one_more) (by decide +kernel))
        (fun _ _ _ _ _ => pg_name (i := 3) sc_row_with_one_more.nd rfl (Or.inl rfl)) (fun _ _ _ _ _ => pts_nil) (fun _ _ _ _ _ => pe_cl c_least_from hr (by decide) rfl (pa_cons (pv 0) (pa_cons (pv 1) (pa_cons (pv 2) (pa_cons (pv 3) (pa_nil))))))) (pe_lst (pa_cons (C8.pe_gc rfl T.g_UNDEFINED) (pa_nil))))), ?_⟩
    have e0 : rz s (j + 1) = given ((s.growth.length : Nat) : Int).toNat (fun _ => true) (fun i => .int (Z s (j + 1) i)) ++ [.int (-1)] := by
      rw [given_all, Int.toNat_natCast]
      unfold rz vz
      rw [row_succ, List.map_append, List.map_map]
      rfl
    rw [e0] at k
    refine s_retL (el_cat (el_lcR1 (fun _ => true) (fun i => .int (Z s (j + 1) i)) (ea_cons (ev_is (ev_len (ev_var rfl) hS) (by rw [nz_length])) ea_nil) (by omega) (fun x => rfl) (fun i H3 _ _ => et_yes)
      (fun i H3 e3 hi _ => ev_call1 (vs := [.ref a, .int (s.maxThickness : Int), .ref l, .int (i : Int)]) (by walk_at "ev") (fun H4 e4 Q1 q1 E1 => ⟨a, l, s, j, i, rfl, ex_l (e3.trans e4) hS, ex_l (e3.trans e4) hR, o, by omega, q1⟩))) (by walk_at "ev") ?_) k
    have := given_len ((s.growth.length : Nat) : Int).toNat (fun _ => true) (fun i => .int (Z s (j + 1) i))
    show _ + 1 ≤ 100000
    omega
end
end Ib
/-! ### rows, the optimal breaks, the cheapest number -/
namespace Ib
open PySem PySem.Spec PyProof.Rows L2 Evl
open Km562 (Schedule)
local macro_rules | `(tactic| walk_at "ev") => `(tactic| repeat' (first
  | exact ev_c | exact ev_var rfl | exact ea_nil | apply ea_cons | apply ev_op | exact rv_I0 | apply et_test | exact rv_eq rfl | exact rv_ne rfl | refine el_lst ?_ (by decide) | refine ev_un ?_ ru_neg))
theorem Z_isSome (s : Schedule) (k : Nat) : (Km562.optimal s k).isSome = !decide (Z s k 0 = -1) := by
  unfold Z Km562.optimal
  cases e : Km562.optimalFrom s k 0 with
  | none => rfl
  | some r => rw [zo_some, decide_eq_false (by omega)]; rfl
theorem mn_some {s : Schedule} {i : Nat} (hi : i ≤ s.growth.length) (h : Z s i 0 ≠ -1) (hj : ∀ j, j < i → Z s j 0 = -1) : mn s = (i : Int) := by
  unfold mn
  have e : ((List.range (s.growth.length + 1)).find? fun k => (Km562.optimal s k).isSome) = some i := by
    rw [List.find?_range_eq_some]
    refine ⟨?_, List.mem_range.mpr (by omega), fun j hj' => ?_⟩
    · rw [Z_isSome, decide_eq_false h]; rfl
    · rw [Z_isSome, decide_eq_true (hj j hj')]; rfl
  rw [e]
theorem mn_none {s : Schedule} (hj : ∀ j, j < s.growth.length + 1 → Z s j 0 = -1) : mn s = -1 := by
  unfold mn
  have e : ((List.range (s.growth.length + 1)).find? fun k => (Km562.optimal s k).isSome) = none := by
    rw [List.find?_eq_none]
    intro j hj'
    rw [Z_isSome, decide_eq_true (hj j (List.mem_range.mp hj'))]
    decide
  rw [e]
section
variable {P : Program} {w : World} {K : PySem.W.Frag} {mg : Str → Option Value} {base : Heap} {C SZ : Addr}
theorem k_effort_rows (T : Txt K mg C SZ) (D : Df K mg "effort_rows" s_effort_rows ["growth", "most", "many"]) (c_row_without_breaks : Cl P w K mg base 1 "row_without_breaks" (sp_row_without_breaks K)) (c_row_with_one_more : Cl P w K mg base 5 "row_with_one_more" (sp_row_with_one_more K)) : Cl P w K mg base 6 "effort_rows" (sp_effort_rows K) := by
  refine D.cl sc_effort_rows (fun vs H Q E h => ?_) (fun fa cdv A outer st H vs Q E hr h => ?_)
  · obtain ⟨a, s, m, rfl, _⟩ := h
    rfl
  · obtain ⟨a, s, m, rfl, hS, o, hm, k⟩ := h
    refine ⟨_, pss_cons (ps_set (i := 3) sc_effort_rows.nd rfl (Or.inl rfl) (pe_lst (pa_cons (pe_cl c_row_without_breaks hr (by decide) rfl (pa_cons (pv 0) (pa_nil))) (pa_nil))))
      (pss_cons (ps_for PassesOwn.never rfl (pi_range1 rfl T.b_range (pa_cons (pv 2) (pa_nil))) (pg_name (i := 4) sc_effort_rows.nd rfl (Or.inl rfl))
        (pss_one (ps_expr (pe_bm PySem.F.plainAttrs_list PySem.F.slot_list_append PySem.F.type_list_append mt_append (pv 3) (pa_cons (pe_cl c_row_with_one_more hr (by decide) rfl (pa_cons (pv 0) (pa_cons (pv 1) (pa_cons (pe_ix ix_list (pv 3) (pe_un un_neg (pe_int)) (fun _ _ => rfl)) (pa_nil))))) (pa_nil))))))
      (pss_one (ps_ret (pv 3)))), ?_⟩
    refine q_asgLR (xs := rz s 0) (el_call1 (vs := [.ref a]) (by walk_at "ev") (fun H3 e3 Q1 q1 E1 => ⟨a, s, rfl, ex_l e3 hS, o, q1⟩)) fun p q H1 hp e1 h1 h2 => ?_
    refine q_forR1 (n := (m : Int)) (by walk_at "ev") (by omega) (fun i σ' H' => ∃ v, σ' = [some (.ref a), some (.int (s.maxThickness : Int)), some (.int (m : Int)), some (.ref p), v] ∧ Ex H H' ∧ RAt H' p s (i + 1))
      (fun H2 e2 => ⟨none, rfl, e1.trans e2, ⟨[q], e2 _ _ h1, rfl, fun j b hb => ?_⟩⟩) ?_ ?_
    · cases j with
      | zero =>
        have : q = b := Option.some.inj hb
        subst this
        exact e2 _ _ h2
      | succ j => cases hb
    · rintro i σ' H' hi ⟨v, rfl, e, hR⟩
      obtain ⟨xs, l, x1, x2, x3⟩ := hR.last
      refine s_appL (ys := rz s (i + 1)) x1 (ev_var rfl) (el_call1 (vs := [.ref a, .int (s.maxThickness : Int), .ref l]) (ea_cons (ev_var rfl) (ea_cons (ev_var rfl) (ea_cons (ev_op (ev_var rfl) (ev_un ev_c ru_neg) (rv_ixL (sq_of x1) (atI_last _ _))) ea_nil))) (fun H3 e3 Q1 q1 E1 => ⟨a, l, s, i, rfl, ex_l (e.trans e3) hS, sq_of (e3 _ _ x3), o, q1⟩)) ?_ fun q' H2 hq e2 hq2 => ?_
      · rw [List.length_append, x2]
        show i + 1 < 100000
        omega
      · exact ⟨_, rfl, Ex.mut (e.trans e2) hp, (hR.mono e2).more (e2 _ _ x1) hq2⟩
    · rintro σ' H' ⟨v, rfl, e, hR⟩
      rw [Int.toNat_natCast] at hR
      exact s_ret (ev_var rfl) fun H2 e2 => k p H2 hp (e.trans e2) (hR.mono e2)
theorem k_least_effort (T : Txt K mg C SZ) (D : Df K mg "least_effort" s_least_effort ["growth", "most", "many"]) (c_effort_rows : Cl P w K mg base 6 "effort_rows" (sp_effort_rows K)) : Cl P w K mg base 7 "least_effort" (sp_least_effort K) := by
  refine D.cl sc_least_effort (fun vs H Q E h => ?_) (fun fa cdv A outer st H vs Q E hr h => ?_)
  · obtain ⟨a, s, m, rfl, _⟩ := h
    rfl
  · obtain ⟨a, s, m, rfl, hS, o, hm, k⟩ := h
    refine ⟨_, pss_one (ps_ret (pe_ix ix_list (pe_ix ix_list (pe_cl c_effort_rows hr (by decide) rfl (pa_cons (pv 0) (pa_cons (pv 1) (pa_cons (pv 2) (pa_nil))))) (pv 2) (fun _ _ => rfl)) (pe_int) (fun _ _ => rfl))), ?_⟩
    exact s_ret (ev_row2 (j := m) (f := 0) (er_call (vs := [.ref a, .int (s.maxThickness : Int), .int (m : Int)]) (by walk_at "ev") (fun H3 e3 Q1 q1 E1 => ⟨a, s, m, rfl, ex_l e3 hS, o, hm, q1⟩)) (fun H1 e1 => ev_var rfl) (fun H1 e1 => ev_c) (by omega) (Nat.zero_le _)) k
theorem k_first_break (T : Txt K mg C SZ) (D : Df K mg "first_break" s_first_break ["growth", "most", "rows", "left", "first"]) (c_effort_with : Cl P w K mg base 3 "effort_with" (sp_effort_with K)) : Cl P w K mg base 4 "first_break" (sp_first_break K) := by
  refine D.cl sc_first_break (fun vs H Q E h => ?_) (fun fa cdv A outer st H vs Q E hr h => ?_)
  · obtain ⟨a, r, s, n, j, f, v, d, rest, rfl, _⟩ := h
    rfl
  · obtain ⟨a, r, s, n, j, f, v, d, rest, rfl, hS, hR, o, hj, hf, ho, k⟩ := h
    have hG := o.len
    obtain ⟨d', w', rest', p1, p2, p3, p4, p5, p6, p7⟩ := opt_some ho
    cases p3
    have hZ : Z s (j + 1) f = (v : Int) := by
      unfold Z
      rw [ho]
      rfl
    refine ⟨_, pss_cons (ps_for PassesOwn.never rfl (pi_range2 rfl T.b_range (pa_cons (pv 4) (pa_cons (pe_callB call_len_seq (by rfl) T.b_len PySem.boot_len (pa_cons (pv 0) (pa_nil))) (pa_nil)))) (pg_name (i := 5) sc_first_break.nd rfl (Or.inl rfl))
        (pss_one (ps_if (pt_cmpR op_eq (pe_cl c_effort_with hr (by decide) rfl (pa_cons (pv 0) (pa_cons (pv 1) (pa_cons (pe_ix ix_list (pv 2) (pe_op op_sub (pv 3) (pe_int)) (fun _ _ => rfl)) (pa_cons (pv 4) (pa_cons (pv 5) (pa_nil))))))) (pe_ix ix_list (pe_ix ix_list (pv 2) (pv 3) (fun _ _ => rfl)) (pv 4) (fun _ _ => rfl)) (nomark _)) (pss_one (ps_ret (pv 5))) (pss_nil))))
      (pss_one (ps_ret (pe_callB call_len_seq (by rfl) T.b_len PySem.boot_len (pa_cons (pv 0) (pa_nil))))), ?_⟩
    refine q_forR2 (lo := (f : Int)) (n := (s.growth.length : Int)) (ea_cons (ev_var rfl) (ea_cons (ev_is (ev_len (ev_var rfl) hS) (by rw [nz_length])) ea_nil)) (by omega)
      (fun i σ' H' => ∃ u, σ' = [some (.ref a), some (.int (s.maxThickness : Int)), some (.ref r), some (.int ((j + 1 : Nat) : Int)), some (.int (f : Int)), u] ∧ Ex H H' ∧ f + i ≤ d) (fun H2 e2 => ⟨none, rfl, e2, p1⟩) ?_ ?_
    · rintro i σ' H' hi ⟨u, rfl, e, hid⟩
      have hR' := hR.mono e
      obtain ⟨xs, l, x1, x2, x3, _⟩ := hR'.get (j := j) (by omega)
      refine s_when (b := decide (V.int (ew s j f (f + i)) = V.int (Z s (j + 1) f))) (et_test (ev_op (ev_call1 (vs := [.ref a, .int (s.maxThickness : Int), .ref l, .int (f : Int), .int ((f : Int) + (i : Int))]) (z := .int (ew s j f (f + i)))
        (ea_cons (ev_var rfl) (ea_cons (ev_var rfl) (ea_cons (ev_op (ev_var rfl) (ev_op (ev_var rfl) ev_c rv_I0) (rv_ixL (sq_of x1) (at_of (j := j) (by omega) x2))) (ea_cons (ev_var rfl) (ea_cons (ev_var rfl) ea_nil)))))
        (fun H3 e3 Q1 q1 E1 => ⟨a, l, s, j, f, f + i, rfl, ex_l (e.trans e3) hS, sq_of (e3 _ _ x3), o, by omega, by omega, q1⟩)) (ev_rowS (j := j + 1) (f := f) (ev_var rfl) hR' (ev_var rfl) (ev_var rfl) (by omega) hf) (rv_eq rfl))) (fun hb H1 e1 => ?_) (fun hb H1 e1 => ?_)
      · have hb' := V.int.inj (of_decide_eq_true hb)
        rw [hZ] at hb'
        have hd : f + i = d := by
          apply Classical.byContradiction
          intro z
          exact p7 (f + i) (by omega) (by omega) hb'
        refine s_ret (v := .int (d : Int)) (ev_is (ev_var rfl) ?_) fun H2 e2 => k H2 ((e.trans e1).trans e2)
        rw [← hd]
        rfl
      · refine ⟨_, rfl, e.trans e1, ?_⟩
        have hb' : ew s j f (f + i) ≠ (v : Int) := by
          intro z
          rw [z, hZ] at hb
          exact of_decide_eq_false hb rfl
        have : f + i ≠ d := by
          intro z
          rw [z] at hb'
          exact hb' p5
        omega
    · rintro σ' H' ⟨u, rfl, e, hid⟩
      omega
theorem k_least_breaks (T : Txt K mg C SZ) (D : Df K mg "least_breaks" s_least_breaks ["growth", "most", "many"]) (c_effort_rows : Cl P w K mg base 6 "effort_rows" (sp_effort_rows K)) (c_first_break : Cl P w K mg base 4 "first_break" (sp_first_break K)) : Cl P w K mg base 7 "least_breaks" (sp_least_breaks K) := by
  refine D.cl sc_least_breaks (fun vs H Q E h => ?_) (fun fa cdv A outer st H vs Q E hr h => ?_)
  · obtain ⟨a, s, m, v, ds, rfl, _⟩ := h
    rfl
  · obtain ⟨a, s, m, v, ds, rfl, hS, o, hm, ho, k⟩ := h
    have hG := o.len
    refine ⟨_, pss_cons (ps_set (i := 3) sc_least_breaks.nd rfl (Or.inl rfl) (pe_cl c_effort_rows hr (by decide) rfl (pa_cons (pv 0) (pa_cons (pv 1) (pa_cons (pv 2) (pa_nil))))))
      (pss_cons (ps_set (i := 4) sc_least_breaks.nd rfl (Or.inl rfl) (pe_lst (pa_nil)))
      (pss_cons (ps_set (i := 5) sc_least_breaks.nd rfl (Or.inl rfl) (pe_int))
      (pss_cons (ps_for PassesOwn.never rfl (pi_range1 rfl T.b_range (pa_cons (pv 2) (pa_nil))) (pg_name (i := 6) sc_least_breaks.nd rfl (Or.inl rfl))
        (pss_cons (ps_set (i := 7) sc_least_breaks.nd rfl (Or.inl rfl) (pe_cl c_first_break hr (by decide) rfl (pa_cons (pv 0) (pa_cons (pv 1) (pa_cons (pv 3) (pa_cons (pe_op op_sub (pv 2) (pv 6)) (pa_cons (pv 5) (pa_nil))))))))
      (pss_cons (ps_expr (pe_bm PySem.F.plainAttrs_list PySem.F.slot_list_append PySem.F.type_list_append mt_append (pv 4) (pa_cons (pv 7) (pa_nil))))
      (pss_one (ps_set (i := 5) sc_least_breaks.nd rfl (Or.inl rfl) (pe_op op_add (pv 7) (pe_int)))))))
      (pss_one (ps_ret (pv 4)))))), ?_⟩
    refine q_asgR (er_call (vs := [.ref a, .int (s.maxThickness : Int), .int (m : Int)]) (by walk_at "ev") (fun H3 e3 Q1 q1 E1 => ⟨a, s, m, rfl, ex_l e3 hS, o, hm, q1⟩)) fun r H1 hr1 e1 hR => ?_
    refine q_asgL (xs := []) (by walk_at "ev") fun p H2 hp e2 h2 => ?_
    refine q_asg ev_c fun H3 e3 => ?_
    have e13 := e2.trans e3
    refine q_forR1 (n := (m : Int)) (by walk_at "ev") (by omega) (fun i σ' H' => ∃ (f w : Nat) (done rest : List Nat) (u u2 : Option V), σ' = [some (.ref a), some (.int (s.maxThickness : Int)), some (.int (m : Int)), some (.ref r), some (.ref p), some (.int (f : Int)), u, u2] ∧
        Ex H1 H' ∧ H' p = some (.lst (nz done)) ∧ ds = done ++ rest ∧ done.length = i ∧ Km562.optimalFrom s (m - i) f = some (w, rest) ∧ f ≤ s.growth.length)
      (fun H4 e4 => ⟨0, v, [], ds, none, none, rfl, e13.trans e4, e4 _ _ (e3 _ _ h2), rfl, rfl, ho, Nat.zero_le _⟩) ?_ ?_
    · rintro i σ' H' hi ⟨f, w', done, rest, u, u2, rfl, e, hd, hds, hlen, hopt, hf⟩
      obtain ⟨j, hj⟩ : ∃ j, m - i = j + 1 := ⟨m - i - 1, by omega⟩
      rw [hj] at hopt
      obtain ⟨d, w2, rest2, q1, q2, rfl, q4, q5, q6, q7⟩ := opt_some hopt
      refine q_asg (v := .int (d : Int)) (ev_call1 (vs := [.ref a, .int (s.maxThickness : Int), .ref r, .int ((m : Int) - (i : Int)), .int (f : Int)]) (by walk_at "ev") (fun H5 e5 Q1 q1' E1 => ⟨a, r, s, m + 1, j, f, w', d, rest2, by rw [show (m : Int) - (i : Int) = ((j + 1 : Nat) : Int) by omega]; rfl, ex_l ((e1.trans e).trans e5) hS, hR.mono (e.trans e5), o, by omega, hf, hopt, q1'⟩)) fun H4 e4 => ?_
      refine q_app (v := .int (d : Int)) (e4 _ _ hd) (ev_var rfl) (ev_var rfl) ?_ fun H5 e5 => ?_
      · rw [nz_length, hlen]
        omega
      · refine s_asg (v := .int ((d + 1 : Nat) : Int)) (ev_is (by walk_at "ev") (by rw [Int.natCast_add]; rfl)) fun H6 e6 => ⟨d + 1, w2, done ++ [d], rest2, _, _, rfl, (Ex.mut ((e.trans e4).trans e5) hp).trans e6, e6 _ _ (Eq.trans upd_same (by rw [nz_append]; rfl)), by rw [hds, List.append_assoc]; rfl, by rw [List.length_append, hlen]; rfl, ?_, by omega⟩
        rw [show m - (i + 1) = j by omega]
        exact q4
    · rintro σ' H' ⟨f, w', done, rest, u, u2, rfl, e, hd, hds, hlen, hopt, hf⟩
      have hl := (opt_len hopt).1
      rw [Int.toNat_natCast, Nat.sub_self] at hl
      have hr0 : rest = [] := List.length_eq_zero_iff.mp hl
      rw [hr0, List.append_nil] at hds
      rw [← hds] at hd
      refine s_ret (ev_var rfl) fun H2 e2 => k p H2 (fresh_back e1 hp) ((e1.trans e).trans e2) (e2 _ _ hd)
theorem k_least_number (T : Txt K mg C SZ) (D : Df K mg "least_number" s_least_number ["growth", "most"]) (c_effort_rows : Cl P w K mg base 6 "effort_rows" (sp_effort_rows K)) : Cl P w K mg base 7 "least_number" (sp_least_number K) := by
  refine D.cl sc_least_number (fun vs H Q E h => ?_) (fun fa cdv A outer st H vs Q E hr h => ?_)
  · obtain ⟨a, s, rfl, _⟩ := h
    rfl
  · obtain ⟨a, s, rfl, hS, o, k⟩ := h
    have hG := o.len
    refine ⟨_, pss_cons (ps_set (i := 2) sc_least_number.nd rfl (Or.inl rfl) (pe_cl c_effort_rows hr (by decide) rfl (pa_cons (pv 0) (pa_cons (pv 1) (pa_cons (pe_callB call_len_seq (by rfl) T.b_len PySem.boot_len (pa_cons (pv 0) (pa_nil))) (pa_nil))))))
      (pss_cons (ps_for PassesOwn.never rfl (pi_range1 rfl T.b_range (pa_cons (pe_callB call_len_seq (by rfl) T.b_len PySem.boot_len (pa_cons (pv 2) (pa_nil))) (pa_nil))) (pg_name (i := 3) sc_least_number.nd rfl (Or.inl rfl))
        (pss_one (ps_if (pt_cmpR op_ne (pe_ix ix_list (pe_ix ix_list (pv 2) (pv 3) (fun _ _ => rfl)) (pe_int) (fun _ _ => rfl)) (C8.pe_gc rfl T.g_UNDEFINED) (nomark _)) (pss_one (ps_ret (pv 3))) (pss_nil))))
      (pss_one (ps_ret (C8.pe_gc rfl T.g_UNDEFINED)))), ?_⟩
    refine q_asgR (er_call (vs := [.ref a, .int (s.maxThickness : Int), .int (s.growth.length : Int)]) (ea_cons (ev_var rfl) (ea_cons (ev_var rfl) (ea_cons (ev_is (ev_len (ev_var rfl) hS) (by rw [nz_length])) ea_nil))) (fun H3 e3 Q1 q1 E1 => ⟨a, s, s.growth.length, rfl, ex_l e3 hS, o, hG, q1⟩)) fun r H1 hr1 e1 hR => ?_
    obtain ⟨xs, _, x1, _, _, x4⟩ := hR.get (j := 0) (by omega)
    refine q_forR1 (n := ((s.growth.length + 1 : Nat) : Int)) (ea_cons (ev_is (ev_len (ev_var rfl) (sq_of x1)) (by rw [x4])) ea_nil) (by omega) (fun i σ' H' => ∃ u, σ' = [some (.ref a), some (.int (s.maxThickness : Int)), some (.ref r), u] ∧ Ex H1 H' ∧ ∀ j, j < i → Z s j 0 = -1)
      (fun H2 e2 => ⟨none, rfl, e2, fun j hj => absurd hj (Nat.not_lt_zero _)⟩) ?_ ?_
    · rintro i σ' H' hi ⟨u, rfl, e, hj⟩
      have hi' : i < s.growth.length + 1 := by omega
      refine s_when (b := !decide (V.int (Z s i 0) = V.int (-1))) (et_test (ev_op (ev_rowS (j := i) (f := 0) (ev_var rfl) (hR.mono e) (ev_var rfl) ev_c hi' (Nat.zero_le _)) ev_c (rv_ne rfl))) (fun hb H2 e2 => ?_) (fun hb H2 e2 => ?_)
      · have hz : Z s i 0 ≠ -1 := by
          intro z
          rw [z] at hb
          exact absurd hb (by decide)
        rw [mn_some (by omega) hz hj] at k
        exact s_ret (ev_var rfl) fun H3 e3 => k H3 (((e1.trans e).trans e2).trans e3)
      · have hz : Z s i 0 = -1 := by
          apply Classical.byContradiction
          intro z
          rw [decide_eq_false (fun q => z (V.int.inj q))] at hb
          exact absurd hb (by decide)
        refine ⟨_, rfl, e.trans e2, fun j hj' => ?_⟩
        rcases Nat.lt_succ_iff_lt_or_eq.mp hj' with q | q
        · exact hj j q
        · rw [q]; exact hz
    · rintro σ' H' ⟨u, rfl, e, hj⟩
      rw [Int.toNat_natCast] at hj
      rw [mn_none hj] at k
      exact s_ret ev_c fun H3 e3 => k H3 ((e1.trans e).trans e3)
theorem k_cheapest (T : Txt K mg C SZ) (D : Df K mg "cheapest" s_cheapest ["growth", "most", "trip_cost"]) (c_effort_rows : Cl P w K mg base 6 "effort_rows" (sp_effort_rows K)) : Cl P w K mg base 7 "cheapest" (sp_cheapest K) := by
  refine D.cl sc_cheapest (fun vs H Q E h => ?_) (fun fa cdv A outer st H vs Q E hr h => ?_)
  · obtain ⟨a, s, rfl, _⟩ := h
    rfl
  · obtain ⟨a, s, rfl, hS, o, k⟩ := h
    have hG := o.len
    have hT := o.tc
    refine ⟨_, pss_cons (ps_set (i := 3) sc_cheapest.nd rfl (Or.inl rfl) (pe_cl c_effort_rows hr (by decide) rfl (pa_cons (pv 0) (pa_cons (pv 1) (pa_cons (pe_callB call_len_seq (by rfl) T.b_len PySem.boot_len (pa_cons (pv 0) (pa_nil))) (pa_nil))))))
      (pss_cons (ps_set (i := 4) sc_cheapest.nd rfl (Or.inl rfl) (C8.pe_gc rfl T.g_UNDEFINED))
      (pss_cons (ps_set (i := 5) sc_cheapest.nd rfl (Or.inl rfl) (C8.pe_gc rfl T.g_UNDEFINED))
      (pss_cons (ps_for PassesOwn.never rfl (pi_range1 rfl T.b_range (pa_cons (pe_callB call_len_seq (by rfl) T.b_len PySem.boot_len (pa_cons (pv 3) (pa_nil))) (pa_nil))) (pg_name (i := 6) sc_cheapest.nd rfl (Or.inl rfl))
        (pss_cons (ps_set (i := 7) sc_cheapest.nd rfl (Or.inl rfl) (pe_ix ix_list (pe_ix ix_list (pv 3) (pv 6) (fun _ _ => rfl)) (pe_int) (fun _ _ => rfl)))
      (pss_one (ps_if (PW.pt (pw_and (pt_cmpR op_ne (pv 7) (C8.pe_gc rfl T.g_UNDEFINED) (nomark _)) (pw_and1 (PW.pt (pw_or (pt_cmpR op_eq (pv 5) (C8.pe_gc rfl T.g_UNDEFINED) (nomark _)) (pw_or1 (pt_cmpR op_lt (pe_op op_add (pv 7) (pe_op op_mul (pv 2) (pv 6))) (pv 5) (nomark _)))))))) (pss_cons (ps_set (i := 4) sc_cheapest.nd rfl (Or.inl rfl) (pv 6))
      (pss_one (ps_set (i := 5) sc_cheapest.nd rfl (Or.inl rfl) (pe_op op_add (pv 7) (pe_op op_mul (pv 2) (pv 6)))))) (pss_nil)))))
      (pss_one (ps_ret (pe_tup (pa_cons (pv 4) (pa_cons (pv 5) (pa_nil))))))))), ?_⟩
    refine q_asgR (er_call (vs := [.ref a, .int (s.maxThickness : Int), .int (s.growth.length : Int)]) (ea_cons (ev_var rfl) (ea_cons (ev_var rfl) (ea_cons (ev_is (ev_len (ev_var rfl) hS) (by rw [nz_length])) ea_nil))) (fun H3 e3 Q1 q1 E1 => ⟨a, s, s.growth.length, rfl, ex_l e3 hS, o, hG, q1⟩)) fun r H1 hr1 e1 hR => ?_
    obtain ⟨xs, _, x1, _, _, x4⟩ := hR.get (j := 0) (by omega)
    refine q_asg ev_c fun H2 e2 => ?_
    refine q_asg ev_c fun H3 e3 => ?_
    have e13 := e2.trans e3
    refine q_forR1 (n := ((s.growth.length + 1 : Nat) : Int)) (ea_cons (ev_is (ev_len (ev_var rfl) (sq_of (e13 _ _ x1))) (by rw [x4])) ea_nil) (by omega)
      (fun i σ' H' => ∃ u u2, σ' = [some (.ref a), some (.int (s.maxThickness : Int)), some (.int (s.tripCost : Int)), some (.ref r), some (.int (cn (cb s i))), some (.int (cc (cb s i))), u, u2] ∧ Ex H1 H')
      (fun H4 e4 => ⟨none, none, rfl, e13.trans e4⟩) ?_ ?_
    · rintro i σ' H' hi ⟨u, u2, rfl, e⟩
      have hi' : i < s.growth.length + 1 := by omega
      refine q_asg (ev_rowS (j := i) (f := 0) (ev_var rfl) (hR.mono e) (ev_var rfl) ev_c hi' (Nat.zero_le _)) fun H4 e4 => ?_
      have step := cst_step s (cb s i) i
      rw [← cb_succ] at step
      have hc : ∀ H5 σ5, Ev (tOp (rI0 fun i j => .int (i + j)) (tVar 7) (tOp (rI CMul fun i j => .int (i * j)) (tVar 2) (tVar 6))) ([some (.ref a), some (.int (s.maxThickness : Int)), some (.int (s.tripCost : Int)), some (.ref r), σ5, some (.int (cc (cb s i))), some (.int (i : Int)), some (.int (Z s i 0))]) H5 (.int (Z s i 0 + s.tripCost * i)) := fun H5 σ5 =>
        ev_op (ev_var rfl) (ev_op (ev_var rfl) (ev_var rfl) (rv_I (.inl (by omega)))) rv_I0
      refine s_when (b := decide (Z s i 0 ≠ -1) && (decide (cc (cb s i) = -1) || decide (Z s i 0 + s.tripCost * i < cc (cb s i)))) (et_and (et_is (et_test (ev_op (ev_var rfl) ev_c (rv_ne rfl))) ?_) (fun _ => et_or (et_is (et_test (ev_op (ev_var rfl) ev_c (rv_eq rfl))) ?_) (fun _ => et_test (ev_op (hc _ _) (ev_var rfl) rv_I0)))) (fun hb H5 e5 => ?_) (fun hb H5 e5 => ?_)
      · by_cases c : Z s i 0 = -1
        · rw [c]; rfl
        · rw [decide_eq_false (fun z => c (V.int.inj z)), decide_eq_true c]
          rfl
      · by_cases c : cc (cb s i) = -1
        · rw [c]; rfl
        · rw [decide_eq_false (fun z => c (V.int.inj z)), decide_eq_false c]
      · have hb' := Bool.and_eq_true_iff.mp hb
        have h1 := of_decide_eq_true hb'.1
        have h2 : cc (cb s i) = -1 ∨ Z s i 0 + s.tripCost * i < cc (cb s i) := by
          rcases Bool.or_eq_true_iff.mp hb'.2 with h | h
          · exact Or.inl (of_decide_eq_true h)
          · exact Or.inr (of_decide_eq_true h)
        obtain ⟨s1, s2⟩ := step.2 ⟨h1, h2⟩
        refine q_asg (ev_var rfl) fun H6 e6 => ?_
        refine s_asg (hc _ _) fun H7 e7 => ⟨some (.int (i : Int)), some (.int (Z s i 0)), ?_, (((e.trans e4).trans e5).trans e6).trans e7⟩
        rw [s1, s2]
        rfl
      · have hn : ¬ (Z s i 0 ≠ -1 ∧ (cc (cb s i) = -1 ∨ Z s i 0 + s.tripCost * i < cc (cb s i))) := by
          rintro ⟨h1, h2⟩
          rcases Bool.and_eq_false_iff.mp hb with h | h
          · exact of_decide_eq_false h h1
          · have h' := Bool.or_eq_false_iff.mp h
            rcases h2 with h2 | h2
            · exact of_decide_eq_false h'.1 h2
            · exact of_decide_eq_false h'.2 h2
        refine ⟨some (.int (i : Int)), some (.int (Z s i 0)), ?_, (e.trans e4).trans e5⟩
        rw [step.1 hn]
        rfl
    · rintro σ' H' ⟨u, u2, rfl, e⟩
      rw [Int.toNat_natCast]
      rw [cheapest_cb] at k
      exact s_retU (eu_tup (by walk_at "ev") (by show 2 ≤ 100000; decide)) fun p H2 hp e2 h2 => k p H2 (fresh_back (e1.trans e) hp) ((e1.trans e).trans e2) h2
theorem k_balanced (T : Txt K mg C SZ) (D : Df K mg "balanced" s_balanced ["days", "many"]) : Cl P w K mg base 1 "balanced" sp_balanced := by
  refine D.cl sc_balanced (fun vs H Q E h => ?_) (fun fa cdv A outer st H vs Q E hr h => ?_)
  · obtain ⟨n, m, rfl, _⟩ := h
    rfl
  · obtain ⟨n, m, rfl, hn, hm, hm2, k⟩ := h
    refine ⟨_, pss_cons (ps_asg (pe_callB call_divmod (by rfl) T.b_divmod (by decide +kernel) (pa_cons (pv 0) (pa_cons (pv 1) (pa_nil)))) (pg_tup rfl (pgs_cons (pg_name (i := 2) sc_balanced.nd rfl (Or.inl rfl)) (pgs_cons (pg_name (i := 3) sc_balanced.nd rfl (Or.inl rfl)) (pgs_nil)))))
      (pss_one (ps_ret (pe_op op_add (pe_op op_mul (pe_op op_mul (pv 3) (pe_op op_add (pv 2) (pe_int))) (pe_op op_add (pv 2) (pe_int))) (pe_op op_mul (pe_op op_mul (pe_op op_sub (pv 1) (pv 3)) (pv 2)) (pv 2))))), ?_⟩
    refine ⟨_, rfl, _, rfl, (n : Int), (m : Int), rfl, ⟨by omega, by omega⟩, fun p hp => ⟨p, _, rfl, st_of upd_same, rfl, _, _, rfl, _, _, rfl, rfl, ?_⟩⟩
    have q0 : 0 ≤ (n : Int) / m := Int.ediv_nonneg (by omega) (by omega)
    have q1 : (n : Int) / m ≤ 10 := Int.le_trans (Int.ediv_le_self _ (by omega)) (by omega)
    have r0 : 0 ≤ (n : Int) % m := Int.emod_nonneg _ (by omega)
    have r1 : (n : Int) % m < m := Int.emod_lt_of_pos _ (by omega)
    have be := (balanced_eq n m).resolve_right (by omega)
    refine s_ret (v := .int ((Km562.balancedSquares n m : Nat) : Int)) (ev_is (ev_op (ev_op (ev_op (ev_var rfl) (ev_op (ev_var rfl) ev_c rv_I0) (rv_I (.inl (by omega)))) (ev_op (ev_var rfl) ev_c rv_I0) (rv_I (.inr (by omega)))) (ev_op (ev_op (ev_op (ev_var rfl) (ev_var rfl) rv_I0) (ev_var rfl) (rv_I (.inl (by omega)))) (ev_var rfl) (rv_I (.inr (by omega)))) rv_I0) ?_) fun H2 e2 => k H2 ((Ex.new hp).trans e2)
    rw [← be]
end
end Ib
/-! ### the season's methods; helpers of the calls -/
namespace Ib
open PySem PySem.Spec PyProof.Rows L2 Evl
open Km562 (Schedule)
local macro_rules | `(tactic| walk_at "ev") => `(tactic| repeat' (first
  | exact ev_c | exact ev_var rfl | exact ea_nil | apply ea_cons | apply ev_op | exact rv_I0 | apply et_test | exact rv_eq rfl | exact rv_ne rfl | refine el_lst ?_ (by decide) | refine ev_un ?_ ru_neg))
section
variable {K : PySem.W.Frag} {σ : L2.St} {H H' : Hp} {ta tb tv te : TE} {t : TT} {v z : V} {C a dx : Addr} {fs : List (Str × V)} {f m : Str} {D : Ends} {tz : TS}
theorem s_fld (h : Ev tv σ H v) (ho : Ev ta σ H (.ref a)) (hi : H a = some (.ins C dx fs)) (c : Cls K C) (n : NoAttr K C f) (hl : fs.length < 1000) (k : ∀ H1, Ex H H1 → D.nx σ (upd H1 a (.ins C dx (putF f v fs)))) : sFld K ta tv f D σ H :=
  h H (Ex.refl H) _ fun H1 e1 => ho H1 e1 _ fun H2 e2 => ⟨a, C, dx, fs, rfl, e2 _ _ (e1 _ _ hi), c, n, hl, k H2 (e1.trans e2)⟩
theorem s_fldL {xs : List V} (h : EvL tv σ H xs) (ho : Ev ta σ H (.ref a)) (hi : H a = some (.ins C dx fs)) (c : Cls K C) (n : NoAttr K C f) (hl : fs.length < 1000) (k : ∀ p H1, H p = none → Ex H H1 → H1 p = some (.lst xs) → D.nx σ (upd H1 a (.ins C dx (putF f (.ref p) fs)))) : sFld K ta tv f D σ H :=
  h H (Ex.refl H) _ fun p H1 hp e1 h1 => ho H1 e1 _ fun H2 e2 => ⟨a, C, dx, fs, rfl, e2 _ _ (e1 _ _ hi), c, n, hl, k p H2 hp (e1.trans e2) (e2 _ _ h1)⟩
theorem q_fld (h : Ev tv σ H v) (ho : Ev ta σ H (.ref a)) (hi : H a = some (.ins C dx fs)) (c : Cls K C) (n : NoAttr K C f) (hl : fs.length < 1000) (k : ∀ H1, Ex H H1 → tz D σ (upd H1 a (.ins C dx (putF f v fs)))) : tSeq (sFld K ta tv f) tz D σ H := s_fld (D := { D with nx := tz D }) h ho hi c n hl k
theorem q_fldL {xs : List V} (h : EvL tv σ H xs) (ho : Ev ta σ H (.ref a)) (hi : H a = some (.ins C dx fs)) (c : Cls K C) (n : NoAttr K C f) (hl : fs.length < 1000) (k : ∀ p H1, H p = none → Ex H H1 → H1 p = some (.lst xs) → tz D σ (upd H1 a (.ins C dx (putF f (.ref p) fs)))) : tSeq (sFld K ta tv f) tz D σ H := s_fldL (D := { D with nx := tz D }) h ho hi c n hl k
theorem el_sorted {ns ms : List Int} (h : EvL te σ H (vz ns)) (hl : ns.length < 64) (hu : ∀ ns' : List Int, ns'.Perm ns → ns'.Pairwise (· ≤ ·) → ns' = ms) : EvL (tCB (rSorted K) (tCons te tNil)) σ H (vz ms) := fun H1 e Q q =>
  h H1 e _ fun p H2 _ e2 hp => ⟨p, ns, rfl, sq_of hp, hl, fun ns' l hP hS hl2 => by
    rw [hu ns' hP hS]
    exact q l _ (fresh_back e2 hl2) (e2.trans (Ex.new hl2)) upd_same⟩
theorem el_if {b : Bool} {xs : List V} (h : EvT t σ H b) (h1 : b = true → EvL ta σ H xs) (h2 : b = false → EvL tb σ H xs) : EvL (tIf t ta tb) σ H xs := fun H1 e Q q => h H1 e _ fun H2 e2 => by
  cases b with
  | true =>
    show ta σ H2 Q
    exact h1 rfl H2 (e.trans e2) Q fun p H3 hp e3 h3 => q p H3 (fresh_back e2 hp) (e2.trans e3) h3
  | false =>
    show tb σ H2 Q
    exact h2 rfl H2 (e.trans e2) Q fun p H3 hp e3 h3 => q p H3 (fresh_back e2 hp) (e2.trans e3) h3
end
theorem nz_set {l : List Nat} {d x : Nat} : (nz l).set d (.int (x : Int)) = nz (l.set d x) := by
  unfold nz Km562.toInts
  rw [List.map_set, List.map_set]
theorem given_filter (l : List Nat) (d : Nat) : ∀ i, i ≤ l.length → given i (fun i => l.getD i 0 != d) (fun i => .int ((l.getD i 0 : Nat) : Int)) = nz ((l.take i).filter fun b => b != d)
  | 0, _ => rfl
  | i + 1, h => by
    have hi : l[i]? = some l[i] := List.getElem?_eq_getElem (by omega)
    have hg : l.getD i 0 = l[i] := by rw [List.getD_eq_getElem?_getD, hi]; rfl
    have ih := given_filter l d i (by omega)
    rw [take_snoc hi, List.filter_append, List.filter_cons, List.filter_nil]
    cases c : (l[i] != d) with
    | true =>
      rw [given_yes (by show (l.getD i 0 != d) = true; rw [hg, c]), ih, hg, if_pos rfl, nz_append]
      rfl
    | false =>
      rw [given_no (by show (l.getD i 0 != d) = false; rw [hg, c]), ih, if_neg (by decide), List.append_nil]
/-! the promises -/
def sp_init (C : Addr) : Sp := fun vs H Q _ => ∃ (p dx : Addr), vs = [.ref p] ∧ H p = some (.ins C dx []) ∧ ∀ (H' : Hp) (g : Addr), SAt C H' p g ⟨[], 0, 999, []⟩ → Chg1 H H' p → H g = none → Q .non H'
def sp_day_count (C : Addr) : Sp := fun vs H Q _ => ∃ (a g : Addr) (s : Schedule), vs = [.ref a] ∧ SAt C H a g s ∧ RetV (.int (s.growth.length : Int)) H Q
def sp_has_day (C : Addr) : Sp := fun vs H Q _ => ∃ (a g : Addr) (s : Schedule) (d : Nat), vs = [.ref a, .int (d : Int)] ∧ SAt C H a g s ∧ RetV (.bl (decide (d < s.growth.length))) H Q
def sp_last_break_before (C : Addr) : Sp := fun vs H Q _ => ∃ (a g : Addr) (s : Schedule) (d : Nat), vs = [.ref a, .int (d : Int)] ∧ SAt C H a g s ∧ Ok s ∧ RetV (.int ((lb s.breaks d s.breaks.length : Nat) - 1 : Int)) H Q
def spm_add_break (C : Addr) : Sp := fun vs H Q _ => ∃ (a g : Addr) (s : Schedule) (d : Nat), vs = [.ref a, .int (d : Int)] ∧ SAt C H a g s ∧ Ok s ∧ d ∉ s.breaks ∧ ∀ H' : Hp, SAt C H' a g { s with breaks := Km562.insertDay d s.breaks } → Chg1 H H' a → Q .non H'
def spm_remove_break (C : Addr) : Sp := fun vs H Q _ => ∃ (a g : Addr) (s : Schedule) (d : Nat), vs = [.ref a, .int (d : Int)] ∧ SAt C H a g s ∧ s.breaks.length ≤ 100 ∧ ∀ H' : Hp, SAt C H' a g { s with breaks := s.breaks.filter fun b => b != d } → Chg1 H H' a → Q .non H'
def sp_growth_with (C : Addr) : Sp := fun vs H Q _ => ∃ (a g : Addr) (s : Schedule) (d x : Nat), vs = [.ref a, .int (d : Int), .int (x : Int)] ∧ SAt C H a g s ∧ d < s.growth.length ∧ RetL (nz (s.growth.set d x)) H Q
def sp_thickness_on (C : Addr) : Sp := fun vs H Q _ => ∃ (a g : Addr) (s : Schedule) (d : Nat), vs = [.ref a, .int (d : Int)] ∧ SAt C H a g s ∧ Ok s ∧ d < s.growth.length ∧ RetV (.int ((Km562.thicknessAt s d : Nat) : Int)) H Q
def sp_refusal_of (C : Addr) : Sp := fun vs H Q _ => ∃ (a g : Addr) (s : Schedule) (m : Nat), vs = [.ref a, .int (m : Int)] ∧ SAt C H a g s ∧ Ok s ∧ RetL (if s.growth.length < m then [.int (-22)] else if Z s m 0 = -1 then [.int (-33)] else []) H Q
def chv (s : Schedule) : List V := match Km562.cheapest s with | none => [.int (-33)] | some r => [.int (r.1 : Int), .int (r.2 : Int)]
def sp_cheapest_answer (K : PySem.W.Frag) : Sp := fun vs H Q _ => ∃ (a : Addr) (s : Schedule), vs = [.ref a, .int (s.maxThickness : Int), .int (s.tripCost : Int)] ∧ SqL K H a (nz s.growth) ∧ Ok s ∧ RetL (chv s) H Q
section
variable {P : Program} {w : World} {K : PySem.W.Frag} {mg : Str → Option Value} {base : Heap} {C SZ : Addr}
theorem k_init (T : Txt K mg C SZ) (D : Dm K C "__init__" "Season.__init__" sm___init__ ["self"]) : Mt P w K mg base 1 C "__init__" (sp_init C) := by
  refine D.mt T.cl scm___init__ (fun vs H Q E h => ?_) (fun fa cdv A outer st H vs Q E hr h => ?_)
  · obtain ⟨p, dx, rfl, _⟩ := h
    rfl
  · obtain ⟨p, dx, rfl, hp, k⟩ := h
    refine ⟨_, pss_cons (ps_fld (pv 0) (pe_lst (pa_nil)) rfl)
      (pss_cons (ps_fld (pv 0) (pe_int) rfl)
      (pss_cons (ps_fld (pv 0) (C8.pe_gc rfl T.g_MOST_THICKNESS) rfl)
      (pss_one (ps_fld (pv 0) (pe_lst (pa_nil)) rfl)))), ?_⟩
    refine q_fldL (xs := []) (by walk_at "ev") (ev_var rfl) hp T.cl T.nG (by show 0 < 1000; decide) fun g H1 hg e1 h1 => ?_
    have hgp : g ≠ p := (ne_of_none hp hg).symm
    refine q_fld ev_c (ev_var rfl) upd_same T.cl T.nT (by show 1 < 1000; decide) fun H2 e2 => ?_
    refine q_fld ev_c (ev_var rfl) upd_same T.cl T.nM (by show 2 < 1000; decide) fun H3 e3 => ?_
    refine s_fldL (xs := []) (by walk_at "ev") (ev_var rfl) upd_same T.cl T.nB (by show 3 < 1000; decide) fun b H4 hb e4 h4 => ?_
    have g1 : H3 g = some (.lst []) := e3 _ _ (by rw [upd_ne hgp]; exact e2 _ _ (by rw [upd_ne hgp]; exact h1))
    have g2 : H4 g = some (.lst []) := e4 _ _ (by rw [upd_ne hgp]; exact g1)
    have hbp : b ≠ p := by
      intro z
      rw [z, upd_same] at hb
      cases hb
    have hgb : g ≠ b := by
      intro z
      rw [← z, upd_ne hgp, g1] at hb
      cases hb
    refine k _ g ⟨dx, b, Eq.trans upd_same (congrArg (fun q => some (HO.ins C dx q)) (sF_new (g := g) (b := b) (t := 0) (m := 999))), by rw [upd_ne hgp]; exact g2, by rw [upd_ne hbp]; exact h4, hgb⟩ (fun c o hc hcp => ?_) hg
    rw [upd_ne hcp]
    exact e4 _ _ (by rw [upd_ne hcp]; exact e3 _ _ (by rw [upd_ne hcp]; exact e2 _ _ (by rw [upd_ne hcp]; exact e1 _ _ hc)))
theorem k_day_count (T : Txt K mg C SZ) (D : Dm K C "day_count" "Season.day_count" sm_day_count ["self"]) : Mt P w K mg base 1 C "day_count" (sp_day_count C) := by
  refine D.mt T.cl scm_day_count (fun vs H Q E h => ?_) (fun fa cdv A outer st H vs Q E hr h => ?_)
  · obtain ⟨a, g, s, rfl, _⟩ := h
    rfl
  · obtain ⟨a, g, s, rfl, hA, k⟩ := h
    obtain ⟨dx, b, h1, h2, h3, h4⟩ := hA.ex
    refine ⟨_, pss_one (ps_ret (pe_callB call_len_seq (by rfl) T.b_len PySem.boot_len (pa_cons (pe_fld (pv 0) rfl) (pa_nil)))), ?_⟩
    exact s_ret (ev_is (ev_len (ev_fld (ev_var rfl) h1 T.cl T.nG sF_g) (sq_of h2)) (by rw [nz_length])) k
theorem k_has_day (T : Txt K mg C SZ) (D : Dm K C "has_day" "Season.has_day" sm_has_day ["self", "day"]) : Mt P w K mg base 1 C "has_day" (sp_has_day C) := by
  refine D.mt T.cl scm_has_day (fun vs H Q E h => ?_) (fun fa cdv A outer st H vs Q E hr h => ?_)
  · obtain ⟨a, g, s, d, rfl, _⟩ := h
    rfl
  · obtain ⟨a, g, s, d, rfl, hA, k⟩ := h
    obtain ⟨dx, b, h1, h2, h3, h4⟩ := hA.ex
    refine ⟨_, pss_one (ps_ret (pe_cmpR op_lt (pv 1) (pe_callB call_len_seq (by rfl) T.b_len PySem.boot_len (pa_cons (pe_fld (pv 0) rfl) (pa_nil))) (nomark _))), ?_⟩
    refine s_ret (ev_is (ev_op (ev_var rfl) (ev_len (ev_fld (ev_var rfl) h1 T.cl T.nG sF_g) (sq_of h2)) rv_I0) ?_) k
    rw [nz_length]
    congr 1
    by_cases c : d < s.growth.length
    · rw [decide_eq_true c, decide_eq_true (by omega)]
    · rw [decide_eq_false c, decide_eq_false (by omega)]
theorem k_last_break_before (T : Txt K mg C SZ) (D : Dm K C "last_break_before" "Season.last_break_before" sm_last_break_before ["self", "day"]) : Mt P w K mg base 1 C "last_break_before" (sp_last_break_before C) := by
  refine D.mt T.cl scm_last_break_before (fun vs H Q E h => ?_) (fun fa cdv A outer st H vs Q E hr h => ?_)
  · obtain ⟨a, g, s, d, rfl, _⟩ := h
    rfl
  · obtain ⟨a, g, s, d, rfl, hA, o, k⟩ := h
    obtain ⟨dx, b, h1, h2, h3, h4⟩ := hA.ex
    refine ⟨_, pss_cons (ps_set (i := 2) scm_last_break_before.nd rfl (Or.inl rfl) (pe_un un_neg (pe_int)))
      (pss_cons (ps_for PassesOwn.never rfl (pi_list (pe_fld (pv 0) rfl)) (pg_name (i := 3) scm_last_break_before.nd rfl (Or.inl rfl))
        (pss_one (ps_if (pt_cmpR op_lt (pv 3) (pv 1) (nomark _)) (pss_one (ps_set (i := 2) scm_last_break_before.nd rfl (Or.inl rfl) (pv 3))) (pss_nil))))
      (pss_one (ps_ret (pv 2)))), ?_⟩
    refine q_asg (v := .int (-1)) (by walk_at "ev") fun H1 e1 => ?_
    refine q_forLn (ev_fld (ev_var rfl) (e1 _ _ h1) T.cl T.nB sF_b) (sq_of (e1 _ _ h3)) (fun i σ' H' => ∃ u, σ' = [some (.ref a), some (.int (d : Int)), some (.int ((lb s.breaks d i : Nat) - 1 : Int)), u] ∧ Ex H H') (fun H2 e2 => ⟨none, rfl, e1.trans e2⟩) (fun i σ' H' _ ⟨_, _, e⟩ => sq_of (e _ _ h3)) ?_ ?_
    · rintro i x σ' H' hx ⟨u, rfl, e⟩
      obtain ⟨c, hc, rfl⟩ := nz_of hx
      refine s_ifAsg (b := decide ((c : Int) < d)) (v := .int ((lb s.breaks d (i + 1) : Nat) - 1 : Int)) (et_test (ev_op (ev_var rfl) (ev_var rfl) rv_I0)) (fun hb => ev_is (ev_var rfl) ?_) (fun hb => ?_) fun H3 e3 => ⟨_, rfl, e.trans e3⟩
      · have := of_decide_eq_true hb
        rw [lb_yes o.asc hc (by omega)]
        congr 1
        omega
      · have := of_decide_eq_false hb
        rw [lb_no hc (by omega)]
        rfl
    · rintro σ' H' ⟨u, rfl, e⟩
      rw [nz_length]
      exact s_ret (ev_var rfl) fun H2 e2 => k H2 (e.trans e2)
theorem km_add_break (T : Txt K mg C SZ) (D : Dm K C "add_break" "Season.add_break" sm_add_break ["self", "day"]) : Mt P w K mg base 1 C "add_break" (spm_add_break C) := by
  refine D.mt T.cl scm_add_break (fun vs H Q E h => ?_) (fun fa cdv A outer st H vs Q E hr h => ?_)
  · obtain ⟨a, g, s, d, rfl, _⟩ := h
    rfl
  · obtain ⟨a, g, s, d, rfl, hA, o, hd, k⟩ := h
    obtain ⟨dx, b, h1, h2, h3, h4⟩ := hA.ex
    have hB := o.brk
    have hG := o.len
    have hga : g ≠ a := ne_of h2 h1 (by intro z; cases z)
    refine ⟨_, pss_one (ps_fld (pv 0) (pe_callB cr_sorted (by rfl) T.b_sorted (by decide +kernel) (pa_cons (pe_op op_cat (pe_fld (pv 0) rfl) (pe_lst (pa_cons (pv 1) (pa_nil)))) (pa_nil))) rfl), ?_⟩
    refine s_fldL (xs := nz (Km562.insertDay d s.breaks)) (el_sorted (ns := Km562.toInts s.breaks ++ [(d : Int)]) (by
      have e : vz (Km562.toInts s.breaks ++ [(d : Int)]) = nz s.breaks ++ [.int (d : Int)] := by unfold vz; rw [List.map_append]; rfl
      rw [e]
      exact el_cat0 (ev_fld (ev_var rfl) h1 T.cl T.nB sF_b) h3 (el_lst (by walk_at "ev") (by show 1 ≤ 100000; decide)) (by rw [nz_length]; show _ + 1 ≤ 100000; omega)) (by
      rw [List.length_append]
      show (Km562.toInts s.breaks).length + 1 < 64
      unfold Km562.toInts
      rw [List.length_map]
      omega) (fun ns' hp hs => sorted_ins o.asc hd hp hs)) (ev_var rfl) h1 T.cl T.nB (by show 4 < 1000; decide) fun p H1 hp e1 hq => ?_
    have hpa : p ≠ a := (ne_of_none h1 hp).symm
    refine k _ ⟨dx, p, Eq.trans upd_same (congrArg (fun q => some (HO.ins C dx q)) (sF_pb p)), by rw [upd_ne hga]; exact e1 _ _ h2, by rw [upd_ne hpa]; exact hq, ne_of_none h2 hp⟩ (Chg1.pre e1 chg1_upd)
theorem km_remove_break (T : Txt K mg C SZ) (D : Dm K C "remove_break" "Season.remove_break" sm_remove_break ["self", "day"]) : Mt P w K mg base 1 C "remove_break" (spm_remove_break C) := by
  refine D.mt T.cl scm_remove_break (fun vs H Q E h => ?_) (fun fa cdv A outer st H vs Q E hr h => ?_)
  · obtain ⟨a, g, s, d, rfl, _⟩ := h
    rfl
  · obtain ⟨a, g, s, d, rfl, hA, hB, k⟩ := h
    obtain ⟨dx, b, h1, h2, h3, h4⟩ := hA.ex
    have hga : g ≠ a := ne_of h2 h1 (by intro z; cases z)
    refine ⟨_, pss_one (ps_fld (pv 0) (pe_lc (own := [("other", 2)]) (g := gName 2) rfl scm_remove_break.nd (pi_list (pe_fld (pv 0) rfl)) (blkOk_by (N := ["self", "day", "other"]) (sc := defScope sm_remove_break) (by decide +kernel))
        (fun _ _ _ _ _ => pg_name (i := 2) scm_remove_break.nd rfl (Or.inl rfl)) (fun _ _ _ _ _ => pts_one (pt_cmpR op_ne (pv 2) (pv 1) (nomark _))) (fun _ _ _ _ _ => pv 2)) rfl), ?_⟩
    refine s_fldL (xs := nz (s.breaks.filter fun b => b != d)) (by
      have e := given_filter s.breaks d s.breaks.length (Nat.le_refl _)
      rw [List.take_length] at e
      rw [← e, ← nz_length s.breaks]
      refine el_lcL _ _ (ev_fld (ev_var rfl) h1 T.cl T.nB sF_b) (sq_of h3) (by rw [nz_length]; omega) (fun x => rfl) (fun i x H3 _ hx => ?_) (fun i x H3 _ hx _ => ?_)
      · obtain ⟨c, hc, rfl⟩ := nz_of hx
        refine et_is (et_test (ev_op (ev_var rfl) (ev_var rfl) (rv_ne rfl))) ?_
        rw [List.getD_eq_getElem?_getD, hc]
        show (!decide (V.int (c : Int) = V.int (d : Int))) = (c != d)
        by_cases q : c = d
        · subst q
          simp
        · rw [decide_eq_false (by intro z; have := V.int.inj z; omega)]
          simp [q]
      · obtain ⟨c, hc, rfl⟩ := nz_of hx
        refine ev_is (ev_var rfl) ?_
        rw [List.getD_eq_getElem?_getD, hc]
        rfl) (ev_var rfl) h1 T.cl T.nB (by show 4 < 1000; decide) fun p H1 hp e1 hq => ?_
    have hpa : p ≠ a := (ne_of_none h1 hp).symm
    refine k _ ⟨dx, p, Eq.trans upd_same (congrArg (fun q => some (HO.ins C dx q)) (sF_pb p)), by rw [upd_ne hga]; exact e1 _ _ h2, by rw [upd_ne hpa]; exact hq, ne_of_none h2 hp⟩ (Chg1.pre e1 chg1_upd)
theorem k_growth_with (T : Txt K mg C SZ) (D : Dm K C "growth_with" "Season.growth_with" sm_growth_with ["self", "day", "growth"]) : Mt P w K mg base 1 C "growth_with" (sp_growth_with C) := by
  refine D.mt T.cl scm_growth_with (fun vs H Q E h => ?_) (fun fa cdv A outer st H vs Q E hr h => ?_)
  · obtain ⟨a, g, s, d, x, rfl, _⟩ := h
    rfl
  · obtain ⟨a, g, s, d, x, rfl, hA, hd, k⟩ := h
    obtain ⟨dx, b, h1, h2, h3, h4⟩ := hA.ex
    refine ⟨_, pss_cons (ps_set (i := 3) scm_growth_with.nd rfl (Or.inl rfl) (pe_callTy call_list_of (by rfl) T.b_list (by decide +kernel) (pa_cons (pe_fld (pv 0) rfl) (pa_nil))))
      (pss_cons (ps_asg (pv 2) (pg_sub (pv 3) (pv 1) set_list))
      (pss_one (ps_ret (pv 3)))), ?_⟩
    refine q_asgL (el_list (ev_fld (ev_var rfl) h1 T.cl T.nG sF_g) (sq_of h2)) fun p H1 hp e1 hq => ?_
    refine q_setL (v := .int (x : Int)) (j := d) hq (ev_var rfl) (ev_var rfl) (ev_var rfl) (by rw [nz_length]; exact hd) fun H2 e2 => ?_
    rw [nz_set]
    exact s_ret (ev_var rfl) fun H3 e3 => k p H3 hp ((Ex.mut (e1.trans e2) hp).trans e3) (e3 _ _ upd_same)
theorem k_thickness_on (T : Txt K mg C SZ) (D : Df K mg "thickness_on" s_thickness_on ["season", "day"]) (c_thickness : Cl P w K mg base 1 "thickness" (sp_thickness K)) (m_last_break_before : Mt P w K mg base 1 C "last_break_before" (sp_last_break_before C)) : Cl P w K mg base 2 "thickness_on" (sp_thickness_on C) := by
  refine D.cl sc_thickness_on (fun vs H Q E h => ?_) (fun fa cdv A outer st H vs Q E hr h => ?_)
  · obtain ⟨a, g, s, d, rfl, _⟩ := h
    rfl
  · obtain ⟨a, g, s, d, rfl, hA, o, hd, k⟩ := h
    obtain ⟨dx, b, h1, h2, h3, h4⟩ := hA.ex
    have hG := o.len
    have hl := lb_le s.breaks d s.breaks.length
    refine ⟨_, pss_one (ps_ret (pe_cl c_thickness hr (by decide) rfl (pa_cons (pe_fld (pv 0) rfl) (pa_cons (pe_op op_add (pe_mt m_last_break_before hr (by decide) (pv 0) (pa_cons (pv 1) (pa_nil))) (pe_int)) (pa_cons (pv 1) (pa_nil)))))), ?_⟩
    rw [lb_all] at k
    exact s_ret (ev_call1 (vs := [.ref g, .int (((lb s.breaks d s.breaks.length : Nat) - 1 : Int) + 1), .int (d : Int)]) (ea_cons (ev_fld (ev_var rfl) h1 T.cl T.nG sF_g) (ea_cons (ev_op (ev_meth (ev_var rfl) h1 sF_last (vs := [.int (d : Int)]) (dvs := []) (by walk_at "ev") (fun H3 e3 Q1 q1 E1 => ⟨a, g, s, d, rfl, hA.mono e3, o, q1⟩)) ev_c rv_I0) (ea_cons (ev_var rfl) ea_nil)))
      (fun H3 e3 Q1 q1 E1 => ⟨g, s.growth, lb s.breaks d s.breaks.length, d, by rw [show ((lb s.breaks d s.breaks.length : Nat) - 1 : Int) + 1 = ((lb s.breaks d s.breaks.length : Nat) : Int) by omega]; rfl, sq_of (e3 _ _ h2), hd, o.gk, by omega, q1⟩)) k
theorem k_refusal_of (T : Txt K mg C SZ) (D : Df K mg "refusal_of" s_refusal_of ["season", "many"]) (c_least_effort : Cl P w K mg base 7 "least_effort" (sp_least_effort K)) (m_day_count : Mt P w K mg base 1 C "day_count" (sp_day_count C)) : Cl P w K mg base 8 "refusal_of" (sp_refusal_of C) := by
  refine D.cl sc_refusal_of (fun vs H Q E h => ?_) (fun fa cdv A outer st H vs Q E hr h => ?_)
  · obtain ⟨a, g, s, m, rfl, _⟩ := h
    rfl
  · obtain ⟨a, g, s, m, rfl, hA, o, k⟩ := h
    obtain ⟨dx, b, h1, h2, h3, h4⟩ := hA.ex
    have hG := o.len
    refine ⟨_, pss_cons (ps_if (pt_cmpR op_gt (pv 1) (pe_mt0 m_day_count hr (by decide) (pv 0)) (nomark _)) (pss_one (ps_ret (pe_lst (pa_cons (C8.pe_gc rfl T.g_OUT_OF_RANGE) (pa_nil))))) (pss_nil))
      (pss_cons (ps_if (pt_cmpR op_eq (pe_cl c_least_effort hr (by decide) rfl (pa_cons (pe_fld (pv 0) rfl) (pa_cons (pe_fld (pv 0) rfl) (pa_cons (pv 1) (pa_nil))))) (C8.pe_gc rfl T.g_UNDEFINED) (nomark _)) (pss_one (ps_ret (pe_lst (pa_cons (C8.pe_gc rfl T.g_NOT_VALID) (pa_nil))))) (pss_nil))
      (pss_one (ps_ret (pe_lst (pa_nil))))), ?_⟩
    refine q_when (b := decide ((s.growth.length : Int) < m)) (et_test (ev_op (ev_var rfl) (ev_meth (ev_var rfl) h1 sF_day_count (vs := []) (dvs := []) ea_nil (fun H3 e3 Q1 q1 E1 => ⟨a, g, s, rfl, hA.mono e3, q1⟩)) rv_I0)) (fun hb H1 e1 => ?_) (fun hb H1 e1 => ?_)
    · have hb' := of_decide_eq_true hb
      rw [if_pos (by omega)] at k
      exact s_retL (el_lst (by walk_at "ev") (by show 1 ≤ 100000; decide)) fun p H2 hp e2 hq => k p H2 (fresh_back e1 hp) (e1.trans e2) hq
    · have hb' := of_decide_eq_false hb
      rw [if_neg (by omega)] at k
      refine q_when (b := decide (V.int (Z s m 0) = V.int (-1))) (et_test (ev_op (ev_call1 (vs := [.ref g, .int (s.maxThickness : Int), .int (m : Int)]) (z := .int (Z s m 0)) (ea_cons (ev_fld (ev_var rfl) (e1 _ _ h1) T.cl T.nG sF_g) (ea_cons (ev_fld (ev_var rfl) (e1 _ _ h1) T.cl T.nM sF_m) (ea_cons (ev_var rfl) ea_nil)))
        (fun H3 e3 Q1 q1 E1 => ⟨g, s, m, rfl, sq_of (e3 _ _ (e1 _ _ h2)), o, by omega, q1⟩)) ev_c (rv_eq rfl))) (fun hc H2 e2 => ?_) (fun hc H2 e2 => ?_)
      · rw [if_pos (V.int.inj (of_decide_eq_true hc))] at k
        exact s_retL (el_lst (by walk_at "ev") (by show 1 ≤ 100000; decide)) fun p H3 hp e3 hq => k p H3 (fresh_back (e1.trans e2) hp) ((e1.trans e2).trans e3) hq
      · rw [if_neg (fun z => of_decide_eq_false hc (by rw [z]))] at k
        exact s_retL (el_lst (by walk_at "ev") (by show 0 ≤ 100000; decide)) fun p H3 hp e3 hq => k p H3 (fresh_back (e1.trans e2) hp) ((e1.trans e2).trans e3) hq
theorem k_cheapest_answer (T : Txt K mg C SZ) (D : Df K mg "cheapest_answer" s_cheapest_answer ["growth", "most", "trip_cost"]) (c_cheapest : Cl P w K mg base 7 "cheapest" (sp_cheapest K)) : Cl P w K mg base 8 "cheapest_answer" (sp_cheapest_answer K) := by
  refine D.cl sc_cheapest_answer (fun vs H Q E h => ?_) (fun fa cdv A outer st H vs Q E hr h => ?_)
  · obtain ⟨a, s, rfl, _⟩ := h
    rfl
  · obtain ⟨a, s, rfl, hS, o, k⟩ := h
    refine ⟨_, pss_cons (ps_asg (pe_cl c_cheapest hr (by decide) rfl (pa_cons (pv 0) (pa_cons (pv 1) (pa_cons (pv 2) (pa_nil))))) (pg_tup rfl (pgs_cons (pg_name (i := 3) sc_cheapest_answer.nd rfl (Or.inl rfl)) (pgs_cons (pg_name (i := 4) sc_cheapest_answer.nd rfl (Or.inl rfl)) (pgs_nil)))))
      (pss_one (ps_ret (pe_ifExp (pt_cmpR op_eq (pv 3) (C8.pe_gc rfl T.g_UNDEFINED) (nomark _)) (pe_lst (pa_cons (C8.pe_gc rfl T.g_NOT_VALID) (pa_nil))) (pe_lst (pa_cons (pv 3) (pa_cons (pv 4) (pa_nil))))))), ?_⟩
    refine ⟨_, rfl, _, rfl, _, rfl, a, s, rfl, hS, o, fun p H1 hp e1 hq => ⟨p, _, rfl, st_of hq, rfl, _, _, rfl, _, _, rfl, rfl, ?_⟩⟩
    refine s_retL (el_if (b := decide (V.int (cn (Km562.cheapest s)) = V.int (-1))) (et_test (ev_op (ev_var rfl) ev_c (rv_eq rfl))) (fun hb => ?_) (fun hb => ?_)) fun p2 H2 hp2 e2 hq2 => k p2 H2 (fresh_back e1 hp2) (e1.trans e2) hq2
    · unfold chv
      cases e : Km562.cheapest s with
      | none => exact el_lst (by walk_at "ev") (by show 1 ≤ 100000; decide)
      | some r =>
        rw [e] at hb
        have := V.int.inj (of_decide_eq_true hb)
        exact absurd this (by show ¬ ((r.1 : Int) = -1); omega)
    · unfold chv
      cases e : Km562.cheapest s with
      | none =>
        rw [e] at hb
        exact absurd rfl (of_decide_eq_false hb)
      | some r => exact el_lst (by walk_at "ev") (by show 2 ≤ 100000; decide)
end
end Ib
/-! ### the calls about days -/
namespace Ib
open PySem PySem.Spec PyProof.Rows L2 Evl
open Km562 (Schedule)
local macro_rules | `(tactic| walk_at "ev") => `(tactic| repeat' (first
  | exact ev_c | exact ev_var rfl | exact ea_nil | apply ea_cons | apply ev_op | exact rv_I0 | apply et_test | exact rv_eq rfl | exact rv_ne rfl | refine el_lst ?_ (by decide) | refine ev_un ?_ ru_neg))
/-- a call's answer: as it is due, the season as it is due, all else as it was -/
def RetH (C : Addr) (i : Int) (a g : Addr) (s : Schedule) (args : List Int) (H : Hp) (Q : VK) : Prop := ∀ (H' : Hp) (p g' : Addr) (s2 : Schedule) (out : List Int), Km562Neutral.step (some s) [i :: args] = (some s2, out) → Ok s2 → out.length ≤ 16 →
  SAt C H' a g' s2 → Chg H H' a g → (g' = g ∨ H g' = none) → H p = none → H' p = some (.lst (vz out)) → Q (.ref p) H'
def spH (C : Addr) (i : Int) : Sp := fun vs H Q _ => ∃ (a g gv : Addr) (s : Schedule) (args : List Int), vs = [.ref a, .ref gv] ∧ SAt C H a g s ∧ Ok s ∧ H gv = some (.lst (vz args)) ∧ gv ≠ g ∧ PyKm562.shape i = some (args.length, 0) ∧ (∀ x ∈ args, 0 ≤ x) ∧ RetH C i a g s args H Q
theorem spH_len {C : Addr} {i : Int} : ∀ vs H Q E, spH C i vs H Q E → vs.length = 2 := fun vs H Q E h => by
  obtain ⟨a, g, gv, s, args, rfl, _⟩ := h
  rfl
theorem RetH.pure {C : Addr} {i : Int} {a g : Addr} {s : Schedule} {args : List Int} {H : Hp} {Q : VK} (k : RetH C i a g s args H Q) (hA : SAt C H a g s) (o : Ok s) {H' : Hp} {p : Addr} {out : List Int} (e : Km562Neutral.step (some s) [i :: args] = (some s, out)) (hl : out.length ≤ 16)
    (hp : H p = none) (ee : Ex H H') (hq : H' p = some (.lst (vz out))) : Q (.ref p) H' := k H' p g s out e o hl (hA.mono ee) (Chg.of ee) (.inl rfl) hp hq
section
variable {K : PySem.W.Frag} {σ : L2.St} {H H' : Hp} {ta tb tc tv te to : TE} {t : TA} {C a g gv dx b : Addr} {s : Schedule} {args : List Int} {x : Int} {d : Nat} {fs : List (Str × V)} {m : Str} {sp : Sp} {vs : List V} {D : Ends} {tz : TS}
theorem ev_giv0 (h : Ev tv σ H (.ref gv)) (hv : H gv = some (.lst (vz args))) (hx : args[0]? = some x) : Ev (tOp (rIxL K) tv (tC (.int 0))) σ H (.int x) := ev_op h ev_c (rv_ixL (sq_of hv) (at_of (j := 0) rfl (vz_get hx)))
theorem ev_giv1 (h : Ev tv σ H (.ref gv)) (hv : H gv = some (.lst (vz args))) (hx : args[1]? = some x) : Ev (tOp (rIxL K) tv (tC (.int 1))) σ H (.int x) := ev_op h ev_c (rv_ixL (sq_of hv) (at_of (j := 1) rfl (vz_get hx)))
theorem ev_days (h : Ev ta σ H (.ref a)) (hA : SAt C H a g s) : Ev (tMeth C "day_count" (sp_day_count C) [] E0 ta tNil) σ H (.int (s.growth.length : Int)) := by
  obtain ⟨dx, b, h1, h2, h3, h4⟩ := hA.ex
  exact ev_meth h h1 sF_day_count (vs := []) (dvs := []) ea_nil (fun H3 e3 Q1 q1 E1 => ⟨a, g, s, rfl, hA.mono e3, q1⟩)
theorem et_has (h : Ev ta σ H (.ref a)) (hA : SAt C H a g s) (hd : Ev tb σ H (.int (d : Int))) : EvT (tB (tMeth C "has_day" (sp_has_day C) [] E0 ta (tCons tb tNil))) σ H (decide (d < s.growth.length)) := by
  obtain ⟨dx, b, h1, h2, h3, h4⟩ := hA.ex
  exact et_B (ev_meth h h1 sF_has_day (vs := [.int (d : Int)]) (dvs := []) (ea_cons hd ea_nil) (fun H3 e3 Q1 q1 E1 => ⟨a, g, s, d, rfl, hA.mono e3, q1⟩))
theorem q_pop {l : Addr} {xs : List V} {y : V} (hl : H l = some (.lst xs)) (h : Ev to σ H (.ref l)) (hy : xs[xs.length - 1]? = some y) (k : ∀ H1, Ex H H1 → tz D σ (upd H1 l (.lst xs.dropLast))) : tSeq (tDrop (tBM0 K "list" rPop to)) tz D σ H :=
  h H (Ex.refl H) _ fun H1 e1 => ⟨Or.inl ⟨rfl, xs, sq_of (e1 l _ hl)⟩, l, xs, y, rfl, rfl, e1 l _ hl, hy, k H1 e1⟩
theorem q_methS (ho : Ev ta σ H (.ref a)) (hi : H a = some (.ins C dx fs)) (hm : fs.lookup m = none) (ha : EvA t σ H vs) (k : ∀ H1, Ex H H1 → sp (.ref a :: (vs ++ [])) H1 (fun _ H2 => tz D σ H2) E0) : tSeq (tDrop (tMeth C m sp [] E0 ta t)) tz D σ H :=
  ho H (Ex.refl H) _ fun H1 e1 => ⟨a, dx, fs, rfl, e1 _ _ hi, hm, ha H1 e1 _ fun H2 e2 => k H2 (e1.trans e2)⟩
theorem SAt.setGr (hA : SAt C H a g s) (G : List Nat) : SAt C (upd H g (.lst (nz G))) a g { s with growth := G } := by
  obtain ⟨dx, b, h1, h2, h3, h4⟩ := hA.ex
  exact ⟨dx, b, by rw [upd_ne (ne_of h1 h2 (by intro z; cases z))]; exact h1, upd_same, by rw [upd_ne h4.symm]; exact h3, h4⟩
end
theorem chg_updg {H : Hp} {a g : Addr} {o : HO} : Chg H (upd H g o) a g := fun b u hb _ hg => by rw [upd_ne hg]; exact hb
theorem nz_dropLast (l : List Nat) : (nz l).dropLast = nz (l.take (l.length - 1)) := by
  rw [← List.dropLast_eq_take]
  unfold nz Km562.toInts
  rw [← List.map_dropLast, ← List.map_dropLast]
theorem nz_sum (l : List Nat) : (Km562.toInts l).sum = ((Km562.sum l : Nat) : Int) := by
  induction l with
  | nil => rfl
  | cons x r ih =>
    show ((x : Int) :: Km562.toInts r).sum = _
    rw [List.sum_cons, ih, sum_cons, Int.natCast_add]
section
variable {P : Program} {w : World} {K : PySem.W.Frag} {mg : Str → Option Value} {base : Heap} {C SZ : Addr}
theorem k_add_day (T : Txt K mg C SZ) (D : Df K mg "add_day" s_add_day ["season", "given"]) (m_day_count : Mt P w K mg base 1 C "day_count" (sp_day_count C)) : Cl P w K mg base 2 "add_day" (spH C 1) := by
  refine D.cl sc_add_day spH_len (fun fa cdv A outer st H vs Q E hr h => ?_)
  obtain ⟨a, g, gv, s, args, rfl, hA, o, hv, hvg, hsh, hnn, k⟩ := h
  obtain ⟨n, rfl⟩ := args1 hsh hnn rfl
  obtain ⟨dx, b, h1, h2, h3, h4⟩ := hA.ex
  have hst := st1 s n
  have hG := o.len
  refine ⟨_, pss_cons (ps_if (pt_cmpR op_gt (pe_ix ix_list (pv 1) (pe_int) (fun _ _ => rfl)) (C8.pe_gc rfl T.g_MOST_GROWTH) (nomark _)) (pss_one (ps_ret (pe_lst (pa_cons (C8.pe_gc rfl T.g_OUT_OF_RANGE) (pa_nil))))) (pss_nil))
      (pss_cons (ps_if (pt_cmpR op_ge (pe_mt0 m_day_count hr (by decide) (pv 0)) (C8.pe_gc rfl T.g_MOST_DAYS) (nomark _)) (pss_one (ps_ret (pe_lst (pa_cons (C8.pe_gc rfl T.g_TOO_MANY_DAYS) (pa_nil))))) (pss_nil))
      (pss_cons (ps_expr (pe_bm PySem.F.plainAttrs_list PySem.F.slot_list_append PySem.F.type_list_append mt_append (pe_fld (pv 0) rfl) (pa_cons (pe_ix ix_list (pv 1) (pe_int) (fun _ _ => rfl)) (pa_nil))))
      (pss_one (ps_ret (pe_lst (pa_cons (pe_op op_sub (pe_mt0 m_day_count hr (by decide) (pv 0)) (pe_int)) (pa_nil))))))), ?_⟩
  refine q_when (b := decide ((30 : Int) < n)) (et_test (ev_op (ev_giv0 (ev_var rfl) hv rfl) ev_c rv_I0)) (fun hb H1 e1 => ?_) (fun hb H1 e1 => ?_)
  · have hb' := of_decide_eq_true hb
    rw [if_pos (by omega)] at hst
    exact s_retL (el_lst (by walk_at "ev") (by show 1 ≤ 100000; decide)) fun p H2 hp e2 hq => k.pure hA o hst (by decide) (fresh_back e1 hp) (e1.trans e2) hq
  · have hb' := of_decide_eq_false hb
    rw [if_neg (by omega)] at hst
    refine q_when (b := decide ((10 : Int) ≤ s.growth.length)) (et_test (ev_op (ev_days (ev_var rfl) (hA.mono e1)) ev_c rv_I0)) (fun hc H2 e2 => ?_) (fun hc H2 e2 => ?_)
    · have hc' := of_decide_eq_true hc
      rw [if_pos (by omega)] at hst
      exact s_retL (el_lst (by walk_at "ev") (by show 1 ≤ 100000; decide)) fun p H3 hp e3 hq => k.pure hA o hst (by decide) (fresh_back (e1.trans e2) hp) ((e1.trans e2).trans e3) hq
    · have hc' := of_decide_eq_false hc
      rw [if_neg (by omega)] at hst
      have e12 := e1.trans e2
      refine q_app (v := .int (n : Int)) (e12 _ _ h2) (ev_fld (ev_var rfl) (e12 _ _ h1) T.cl T.nG sF_g) (ev_giv0 (ev_var rfl) (e12 _ _ hv) rfl) (by rw [nz_length]; omega) fun H3 e3 => ?_
      have e13 := e12.trans e3
      have hA3 := (hA.mono e13).setGr (s.growth ++ [n])
      rw [nz_append] at hA3
      refine s_retL (xs := [.int (s.growth.length : Int)]) (el_lst (ea_cons (ev_is (ev_op (ev_days (ev_var rfl) hA3) ev_c rv_I0) ?_) ea_nil) (by show 1 ≤ 100000; decide)) fun p H4 hp e4 hq => ?_
      · show V.int (((s.growth ++ [n]).length : Nat) - 1 : Int) = _
        rw [List.length_append]
        congr 1
        show ((_ + 1 : Nat) : Int) - 1 = _
        omega
      · have hpg : p ≠ g := by
          intro z
          rw [z, upd_same] at hp
          cases hp
        rw [upd_ne hpg] at hp
        exact k H4 p g _ _ hst (o.addDay (by omega) (by omega)) (by show 1 ≤ 16; decide) (hA3.mono e4) ((Chg.pre e13 chg_updg).post e4) (.inl rfl) (fresh_back e13 hp) hq
theorem k_remove_last_day (T : Txt K mg C SZ) (D : Df K mg "remove_last_day" s_remove_last_day ["season", "given"]) (m_day_count : Mt P w K mg base 1 C "day_count" (sp_day_count C)) (m_remove_break : Mt P w K mg base 1 C "remove_break" (spm_remove_break C)) : Cl P w K mg base 2 "remove_last_day" (spH C 2) := by
  refine D.cl sc_remove_last_day spH_len (fun fa cdv A outer st H vs Q E hr h => ?_)
  obtain ⟨a, g, gv, s, args, rfl, hA, o, hv, hvg, hsh, hnn, k⟩ := h
  obtain rfl := args0 hsh rfl
  obtain ⟨dx, b, h1, h2, h3, h4⟩ := hA.ex
  have hst := st2 s
  have hG := o.len
  have hB := o.brk
  refine ⟨_, pss_cons (ps_if (pt_cmpR op_eq (pe_mt0 m_day_count hr (by decide) (pv 0)) (pe_int) (nomark _)) (pss_one (ps_ret (pe_lst (pa_cons (C8.pe_gc rfl T.g_NO_DAYS) (pa_nil))))) (pss_nil))
      (pss_cons (ps_expr (pe_bm0 PySem.F.plainAttrs_list PySem.F.slot_list_pop PySem.F.type_list_pop mt_pop (pe_fld (pv 0) rfl)))
      (pss_cons (ps_expr (pe_mt m_remove_break hr (by decide) (pv 0) (pa_cons (pe_mt0 m_day_count hr (by decide) (pv 0)) (pa_nil))))
      (pss_one (ps_ret (pe_lst (pa_cons (pe_mt0 m_day_count hr (by decide) (pv 0)) (pa_nil))))))), ?_⟩
  refine q_when (b := decide (V.int (s.growth.length : Int) = V.int 0)) (et_test (ev_op (ev_days (ev_var rfl) hA) ev_c (rv_eq rfl))) (fun hb H1 e1 => ?_) (fun hb H1 e1 => ?_)
  · have hb' := V.int.inj (of_decide_eq_true hb)
    rw [if_pos (by omega)] at hst
    exact s_retL (el_lst (by walk_at "ev") (by show 1 ≤ 100000; decide)) fun p H2 hp e2 hq => k.pure hA o hst (by decide) (fresh_back e1 hp) (e1.trans e2) hq
  · have hb' : ¬ s.growth.length = 0 := fun z => of_decide_eq_false hb (by rw [z]; rfl)
    rw [if_neg hb'] at hst
    have hlast : (nz s.growth)[(nz s.growth).length - 1]? = some (.int (s.growth[s.growth.length - 1]'(by omega) : Nat)) := by
      rw [nz_length]
      exact nz_get (List.getElem?_eq_getElem (by omega))
    refine q_pop (e1 _ _ h2) (ev_fld (ev_var rfl) (e1 _ _ h1) T.cl T.nG sF_g) hlast fun H2 e2 => ?_
    have e12 := e1.trans e2
    rw [nz_dropLast]
    have hA2 := (hA.mono e12).setGr (s.growth.take (s.growth.length - 1))
    have hlen : (s.growth.take (s.growth.length - 1)).length = s.growth.length - 1 := by rw [List.length_take]; omega
    obtain ⟨dx2, b2, i1, i2, i3, i4⟩ := hA2.ex
    refine q_methS (vs := [.int ((s.growth.length - 1 : Nat) : Int)]) (ev_var rfl) i1 sF_rem (ea_cons (ev_is (ev_days (ev_var rfl) hA2) (congrArg (fun n : Nat => V.int (n : Int)) hlen)) ea_nil) fun H3 e3 => ?_
    refine ⟨a, g, _, s.growth.length - 1, rfl, hA2.mono e3, (by show s.breaks.length ≤ 100; omega), fun H4 hA4 hC4 => ?_⟩
    have hf : (s.breaks.filter fun b => b != s.growth.length - 1) = s.breaks.filter fun b => decide (b + 1 < s.growth.length) := by
      have := filter_last (l := s.breaks) (n := s.growth.length - 1) (fun b hb => by have := o.inn b hb; omega)
      rw [show s.growth.length - 1 + 1 = s.growth.length by omega] at this
      exact this
    have hA5 : SAt C H4 a g { s with growth := s.growth.take (s.growth.length - 1), breaks := s.breaks.filter fun b => decide (b + 1 < s.growth.length) } := by
      rw [← hf]
      exact hA4
    refine s_retL (xs := [.int ((s.growth.length - 1 : Nat) : Int)]) (el_lst (ea_cons (ev_is (ev_days (ev_var rfl) hA5) (congrArg (fun n : Nat => V.int (n : Int)) hlen)) ea_nil) (by show 1 ≤ 100000; decide)) fun p H5 hp e5 hq => ?_
    have c0 : Chg H H3 a g := (Chg.pre e12 chg_updg).post e3
    have c1 : Chg H H4 a g := fun b o hb ha hg => hC4 b o (c0 b o hb ha hg) ha
    have hp0 : H p = none := by
      cases q : H p with
      | none => rfl
      | some u =>
        by_cases hpa : p = a
        · subst hpa
          obtain ⟨_, _, j1, _⟩ := hA5.ex
          rw [j1] at hp
          cases hp
        · by_cases hpg : p = g
          · subst hpg
            obtain ⟨_, _, _, j2, _⟩ := hA5.ex
            rw [j2] at hp
            cases hp
          · rw [c1 p u q hpa hpg] at hp
            cases hp
    exact k H5 p g _ _ hst o.rmDay (by show 1 ≤ 16; decide) (hA5.mono e5) (c1.post e5) (.inl rfl) hp0 hq
theorem k_set_growth (T : Txt K mg C SZ) (D : Df K mg "set_growth" s_set_growth ["season", "given"]) (m_has_day : Mt P w K mg base 1 C "has_day" (sp_has_day C)) (m_growth_with : Mt P w K mg base 1 C "growth_with" (sp_growth_with C)) : Cl P w K mg base 2 "set_growth" (spH C 3) := by
  refine D.cl sc_set_growth spH_len (fun fa cdv A outer st H vs Q E hr h => ?_)
  obtain ⟨a, g, gv, s, args, rfl, hA, o, hv, hvg, hsh, hnn, k⟩ := h
  obtain ⟨d, n, rfl⟩ := args2 hsh hnn rfl
  obtain ⟨dx, b, h1, h2, h3, h4⟩ := hA.ex
  have hst := st3 s d n
  refine ⟨_, pss_cons (ps_if (pt_not (pt_val (pe_mt m_has_day hr (by decide) (pv 0) (pa_cons (pe_ix ix_list (pv 1) (pe_int) (fun _ _ => rfl)) (pa_nil))))) (pss_one (ps_ret (pe_lst (pa_cons (C8.pe_gc rfl T.g_NO_DAY) (pa_nil))))) (pss_nil))
      (pss_cons (ps_if (pt_cmpR op_gt (pe_ix ix_list (pv 1) (pe_int) (fun _ _ => rfl)) (C8.pe_gc rfl T.g_MOST_GROWTH) (nomark _)) (pss_one (ps_ret (pe_lst (pa_cons (C8.pe_gc rfl T.g_OUT_OF_RANGE) (pa_nil))))) (pss_nil))
      (pss_cons (ps_set (i := 2) sc_set_growth.nd rfl (Or.inl rfl) (pe_ix ix_list (pe_fld (pv 0) rfl) (pe_ix ix_list (pv 1) (pe_int) (fun _ _ => rfl)) (fun _ _ => rfl)))
      (pss_cons (ps_fld (pv 0) (pe_mt m_growth_with hr (by decide) (pv 0) (pa_cons (pe_ix ix_list (pv 1) (pe_int) (fun _ _ => rfl)) (pa_cons (pe_ix ix_list (pv 1) (pe_int) (fun _ _ => rfl)) (pa_nil)))) rfl)
      (pss_one (ps_ret (pe_lst (pa_cons (pv 2) (pa_nil)))))))), ?_⟩
  refine q_when (b := !decide (d < s.growth.length)) (et_not (et_has (ev_var rfl) hA (ev_giv0 (ev_var rfl) hv rfl))) (fun hb H1 e1 => ?_) (fun hb H1 e1 => ?_)
  · have hb' : ¬ d < s.growth.length := by simpa using hb
    rw [if_pos (by omega)] at hst
    exact s_retL (el_lst (by walk_at "ev") (by show 1 ≤ 100000; decide)) fun p H2 hp e2 hq => k.pure hA o hst (by decide) (fresh_back e1 hp) (e1.trans e2) hq
  · have hb' : d < s.growth.length := by simpa using hb
    rw [if_neg (by omega)] at hst
    refine q_when (b := decide ((30 : Int) < n)) (et_test (ev_op (ev_giv1 (ev_var rfl) (e1 _ _ hv) rfl) ev_c rv_I0)) (fun hc H2 e2 => ?_) (fun hc H2 e2 => ?_)
    · have hc' := of_decide_eq_true hc
      rw [if_pos (by omega)] at hst
      exact s_retL (el_lst (by walk_at "ev") (by show 1 ≤ 100000; decide)) fun p H3 hp e3 hq => k.pure hA o hst (by decide) (fresh_back (e1.trans e2) hp) ((e1.trans e2).trans e3) hq
    · have hc' := of_decide_eq_false hc
      rw [if_neg (by omega)] at hst
      have e12 := e1.trans e2
      refine q_asg (v := .int ((s.growth.getD d 0 : Nat) : Int)) (ev_is (ev_op (ev_fld (ev_var rfl) (e12 _ _ h1) T.cl T.nG sF_g) (ev_giv0 (ev_var rfl) (e12 _ _ hv) rfl) (rv_ixL (sq_of (e12 _ _ h2)) (nz_at (List.getElem?_eq_getElem hb')))) ?_) fun H3 e3 => ?_
      · rw [List.getD_eq_getElem?_getD, List.getElem?_eq_getElem hb']
        rfl
      · have e13 := e12.trans e3
        refine q_fldL (xs := nz (s.growth.set d n)) (el_meth (vs := [.int (d : Int), .int (n : Int)]) (dvs := []) (ev_var rfl) (e13 _ _ h1) sF_with (ea_cons (ev_giv0 (ev_var rfl) (e13 _ _ hv) rfl) (ea_cons (ev_giv1 (ev_var rfl) (e13 _ _ hv) rfl) ea_nil)) (fun H4 e4 Q1 q1 E1 => ⟨a, g, s, d, n, rfl, hA.mono (e13.trans e4), hb', q1⟩)) (ev_var rfl) (e13 _ _ h1) T.cl T.nG (by show 4 < 1000; decide) fun q H4 hq e4 h5 => ?_
        rw [sF_pg]
        have e14 := e13.trans e4
        have hqa : q ≠ a := (ne_of_none (e13 _ _ h1) hq).symm
        have hba : b ≠ a := ne_of h3 h1 (by intro z; cases z)
        have hA4 : SAt C (upd H4 a (.ins C dx (sF q s.tripCost s.maxThickness b))) a q { s with growth := s.growth.set d n } := ⟨dx, b, upd_same, by rw [upd_ne hqa]; exact h5, by rw [upd_ne hba]; exact e14 _ _ h3, (ne_of_none (e13 _ _ h3) hq).symm⟩
        refine s_retL (el_lst (by walk_at "ev") (by show 1 ≤ 100000; decide)) fun p H5 hp e5 hp2 => ?_
        have hpa : p ≠ a := by
          intro z
          rw [z, upd_same] at hp
          cases hp
        rw [upd_ne hpa] at hp
        exact k H5 p q _ _ hst (o.setG (by omega)) (by show 1 ≤ 16; decide) (hA4.mono e5) (((Chg1.pre e14 chg1_upd).post e5).chg) (.inr (fresh_back e13 hq)) (fresh_back e14 hp) hp2
theorem k_set_trip_cost (T : Txt K mg C SZ) (D : Df K mg "set_trip_cost" s_set_trip_cost ["season", "given"]) : Cl P w K mg base 1 "set_trip_cost" (spH C 4) := by
  refine D.cl sc_set_trip_cost spH_len (fun fa cdv A outer st H vs Q E hr h => ?_)
  obtain ⟨a, g, gv, s, args, rfl, hA, o, hv, hvg, hsh, hnn, k⟩ := h
  obtain ⟨n, rfl⟩ := args1 hsh hnn rfl
  obtain ⟨dx, b, h1, h2, h3, h4⟩ := hA.ex
  have hst := st4 s n
  refine ⟨_, pss_cons (ps_if (pt_cmpR op_gt (pe_ix ix_list (pv 1) (pe_int) (fun _ _ => rfl)) (C8.pe_gc rfl T.g_MOST_TRIP_COST) (nomark _)) (pss_one (ps_ret (pe_lst (pa_cons (C8.pe_gc rfl T.g_OUT_OF_RANGE) (pa_nil))))) (pss_nil))
      (pss_cons (ps_set (i := 2) sc_set_trip_cost.nd rfl (Or.inl rfl) (pe_fld (pv 0) rfl))
      (pss_cons (ps_fld (pv 0) (pe_ix ix_list (pv 1) (pe_int) (fun _ _ => rfl)) rfl)
      (pss_one (ps_ret (pe_lst (pa_cons (pv 2) (pa_nil))))))), ?_⟩
  refine q_when (b := decide ((9999 : Int) < n)) (et_test (ev_op (ev_giv0 (ev_var rfl) hv rfl) ev_c rv_I0)) (fun hb H1 e1 => ?_) (fun hb H1 e1 => ?_)
  · have hb' := of_decide_eq_true hb
    rw [if_pos (by omega)] at hst
    exact s_retL (el_lst (by walk_at "ev") (by show 1 ≤ 100000; decide)) fun p H2 hp e2 hq => k.pure hA o hst (by decide) (fresh_back e1 hp) (e1.trans e2) hq
  · have hb' := of_decide_eq_false hb
    rw [if_neg (by omega)] at hst
    refine q_asg (v := .int (s.tripCost : Int)) (ev_fld (ev_var rfl) (e1 _ _ h1) T.cl T.nT sF_t) fun H2 e2 => ?_
    have e12 := e1.trans e2
    refine q_fld (v := .int (n : Int)) (ev_giv0 (ev_var rfl) (e12 _ _ hv) rfl) (ev_var rfl) (e12 _ _ h1) T.cl T.nT (by show 4 < 1000; decide) fun H3 e3 => ?_
    rw [sF_pt]
    have e13 := e12.trans e3
    have hga : g ≠ a := ne_of h2 h1 (by intro z; cases z)
    have hba : b ≠ a := ne_of h3 h1 (by intro z; cases z)
    have hA4 : SAt C (upd H3 a (.ins C dx (sF g n s.maxThickness b))) a g { s with tripCost := n } := ⟨dx, b, upd_same, by rw [upd_ne hga]; exact e13 _ _ h2, by rw [upd_ne hba]; exact e13 _ _ h3, h4⟩
    refine s_retL (el_lst (by walk_at "ev") (by show 1 ≤ 100000; decide)) fun p H5 hp e5 hp2 => ?_
    have hpa : p ≠ a := by
      intro z
      rw [z, upd_same] at hp
      cases hp
    rw [upd_ne hpa] at hp
    exact k H5 p g _ _ hst (o.setT (by omega)) (by show 1 ≤ 16; decide) (hA4.mono e5) (((Chg1.pre e13 chg1_upd).post e5).chg) (.inl rfl) (fresh_back e13 hp) hp2
theorem k_set_max_thickness (T : Txt K mg C SZ) (D : Df K mg "set_max_thickness" s_set_max_thickness ["season", "given"]) : Cl P w K mg base 1 "set_max_thickness" (spH C 5) := by
  refine D.cl sc_set_max_thickness spH_len (fun fa cdv A outer st H vs Q E hr h => ?_)
  obtain ⟨a, g, gv, s, args, rfl, hA, o, hv, hvg, hsh, hnn, k⟩ := h
  obtain ⟨n, rfl⟩ := args1 hsh hnn rfl
  obtain ⟨dx, b, h1, h2, h3, h4⟩ := hA.ex
  have hst := st5 s n
  refine ⟨_, pss_cons (ps_if (pt_cmpR op_gt (pe_ix ix_list (pv 1) (pe_int) (fun _ _ => rfl)) (C8.pe_gc rfl T.g_MOST_THICKNESS) (nomark _)) (pss_one (ps_ret (pe_lst (pa_cons (C8.pe_gc rfl T.g_OUT_OF_RANGE) (pa_nil))))) (pss_nil))
      (pss_cons (ps_set (i := 2) sc_set_max_thickness.nd rfl (Or.inl rfl) (pe_fld (pv 0) rfl))
      (pss_cons (ps_fld (pv 0) (pe_ix ix_list (pv 1) (pe_int) (fun _ _ => rfl)) rfl)
      (pss_one (ps_ret (pe_lst (pa_cons (pv 2) (pa_nil))))))), ?_⟩
  refine q_when (b := decide ((999 : Int) < n)) (et_test (ev_op (ev_giv0 (ev_var rfl) hv rfl) ev_c rv_I0)) (fun hb H1 e1 => ?_) (fun hb H1 e1 => ?_)
  · have hb' := of_decide_eq_true hb
    rw [if_pos (by omega)] at hst
    exact s_retL (el_lst (by walk_at "ev") (by show 1 ≤ 100000; decide)) fun p H2 hp e2 hq => k.pure hA o hst (by decide) (fresh_back e1 hp) (e1.trans e2) hq
  · have hb' := of_decide_eq_false hb
    rw [if_neg (by omega)] at hst
    refine q_asg (v := .int (s.maxThickness : Int)) (ev_fld (ev_var rfl) (e1 _ _ h1) T.cl T.nM sF_m) fun H2 e2 => ?_
    have e12 := e1.trans e2
    refine q_fld (v := .int (n : Int)) (ev_giv0 (ev_var rfl) (e12 _ _ hv) rfl) (ev_var rfl) (e12 _ _ h1) T.cl T.nM (by show 4 < 1000; decide) fun H3 e3 => ?_
    rw [sF_pm]
    have e13 := e12.trans e3
    have hga : g ≠ a := ne_of h2 h1 (by intro z; cases z)
    have hba : b ≠ a := ne_of h3 h1 (by intro z; cases z)
    have hA4 : SAt C (upd H3 a (.ins C dx (sF g s.tripCost n b))) a g { s with maxThickness := n } := ⟨dx, b, upd_same, by rw [upd_ne hga]; exact e13 _ _ h2, by rw [upd_ne hba]; exact e13 _ _ h3, h4⟩
    refine s_retL (el_lst (by walk_at "ev") (by show 1 ≤ 100000; decide)) fun p H5 hp e5 hp2 => ?_
    have hpa : p ≠ a := by
      intro z
      rw [z, upd_same] at hp
      cases hp
    rw [upd_ne hpa] at hp
    exact k H5 p g _ _ hst (o.setM (by omega)) (by show 1 ≤ 16; decide) (hA4.mono e5) (((Chg1.pre e13 chg1_upd).post e5).chg) (.inl rfl) (fresh_back e13 hp) hp2
theorem k_list_growth (T : Txt K mg C SZ) (D : Df K mg "list_growth" s_list_growth ["season", "given"]) (m_day_count : Mt P w K mg base 1 C "day_count" (sp_day_count C)) : Cl P w K mg base 2 "list_growth" (spH C 6) := by
  refine D.cl sc_list_growth spH_len (fun fa cdv A outer st H vs Q E hr h => ?_)
  obtain ⟨a, g, gv, s, args, rfl, hA, o, hv, hvg, hsh, hnn, k⟩ := h
  obtain rfl := args0 hsh rfl
  obtain ⟨dx, b, h1, h2, h3, h4⟩ := hA.ex
  have hst := st6 s
  have hG := o.len
  refine ⟨_, pss_one (ps_ret (pe_op op_cat (pe_lst (pa_cons (pe_mt0 m_day_count hr (by decide) (pv 0)) (pa_nil))) (pe_fld (pv 0) rfl))), ?_⟩
  refine s_retL (el_cat1 (xs := [.int (s.growth.length : Int)]) (el_lst (ea_cons (ev_days (ev_var rfl) hA) ea_nil) (by show 1 ≤ 100000; decide)) (fun H1 e1 => ev_fld (ev_var rfl) (e1 _ _ h1) T.cl T.nG sF_g) h2 (by rw [nz_length]; show 1 + _ ≤ 100000; omega)) fun p H2 hp e2 hq => k.pure hA o hst ?_ hp e2 hq
  show (Km562.toInts s.growth).length + 1 ≤ 16
  unfold Km562.toInts
  rw [List.length_map]
  omega
theorem k_thickness_between (T : Txt K mg C SZ) (D : Df K mg "thickness_between" s_thickness_between ["season", "given"]) (m_has_day : Mt P w K mg base 1 C "has_day" (sp_has_day C)) (c_thickness : Cl P w K mg base 1 "thickness" (sp_thickness K)) (c_effort : Cl P w K mg base 2 "effort" (sp_effort K)) : Cl P w K mg base 3 "thickness_between" (spH C 7) := by
  refine D.cl sc_thickness_between spH_len (fun fa cdv A outer st H vs Q E hr h => ?_)
  obtain ⟨a, g, gv, s, args, rfl, hA, o, hv, hvg, hsh, hnn, k⟩ := h
  obtain ⟨f, l, rfl⟩ := args2 hsh hnn rfl
  obtain ⟨dx, b, h1, h2, h3, h4⟩ := hA.ex
  have hst := st7 s f l
  have hG := o.len
  refine ⟨_, pss_cons (ps_if (PW.pt (pw_or (pt_not (pt_val (pe_mt m_has_day hr (by decide) (pv 0) (pa_cons (pe_ix ix_list (pv 1) (pe_int) (fun _ _ => rfl)) (pa_nil))))) (pw_or1 (pt_not (pt_val (pe_mt m_has_day hr (by decide) (pv 0) (pa_cons (pe_ix ix_list (pv 1) (pe_int) (fun _ _ => rfl)) (pa_nil)))))))) (pss_one (ps_ret (pe_lst (pa_cons (C8.pe_gc rfl T.g_NO_DAY) (pa_nil))))) (pss_nil))
      (pss_cons (ps_if (pt_cmpR op_lt (pe_ix ix_list (pv 1) (pe_int) (fun _ _ => rfl)) (pe_ix ix_list (pv 1) (pe_int) (fun _ _ => rfl)) (nomark _)) (pss_one (ps_ret (pe_lst (pa_cons (C8.pe_gc rfl T.g_OUT_OF_RANGE) (pa_nil))))) (pss_nil))
      (pss_one (ps_ret (pe_lst (pa_cons (pe_cl c_thickness hr (by decide) rfl (pa_cons (pe_fld (pv 0) rfl) (pa_cons (pe_ix ix_list (pv 1) (pe_int) (fun _ _ => rfl)) (pa_cons (pe_ix ix_list (pv 1) (pe_int) (fun _ _ => rfl)) (pa_nil))))) (pa_cons (pe_cl c_effort hr (by decide) rfl (pa_cons (pe_fld (pv 0) rfl) (pa_cons (pe_ix ix_list (pv 1) (pe_int) (fun _ _ => rfl)) (pa_cons (pe_ix ix_list (pv 1) (pe_int) (fun _ _ => rfl)) (pa_nil))))) (pa_nil))))))), ?_⟩
  refine q_when (b := !decide (f < s.growth.length) || !decide (l < s.growth.length)) (et_or (et_not (et_has (ev_var rfl) hA (ev_giv0 (ev_var rfl) hv rfl))) (fun _ => et_not (et_has (ev_var rfl) hA (ev_giv1 (ev_var rfl) hv rfl)))) (fun hb H1 e1 => ?_) (fun hb H1 e1 => ?_)
  · have hb' : s.growth.length ≤ f ∨ s.growth.length ≤ l := by
      rcases Bool.or_eq_true_iff.mp hb with q | q
      · left; have : ¬ f < s.growth.length := by simpa using q
        omega
      · right; have : ¬ l < s.growth.length := by simpa using q
        omega
    rw [if_pos hb'] at hst
    exact s_retL (el_lst (by walk_at "ev") (by show 1 ≤ 100000; decide)) fun p H2 hp e2 hq => k.pure hA o hst (by decide) (fresh_back e1 hp) (e1.trans e2) hq
  · have hb2 := Bool.or_eq_false_iff.mp hb
    have hf : f < s.growth.length := by simpa using hb2.1
    have hl : l < s.growth.length := by simpa using hb2.2
    rw [if_neg (by omega)] at hst
    refine q_when (b := decide ((l : Int) < f)) (et_test (ev_op (ev_giv1 (ev_var rfl) (e1 _ _ hv) rfl) (ev_giv0 (ev_var rfl) (e1 _ _ hv) rfl) rv_I0)) (fun hc H2 e2 => ?_) (fun hc H2 e2 => ?_)
    · have hc' := of_decide_eq_true hc
      rw [if_pos (by omega)] at hst
      exact s_retL (el_lst (by walk_at "ev") (by show 1 ≤ 100000; decide)) fun p H3 hp e3 hq => k.pure hA o hst (by decide) (fresh_back (e1.trans e2) hp) ((e1.trans e2).trans e3) hq
    · have hc' := of_decide_eq_false hc
      rw [if_neg (by omega)] at hst
      have e12 := e1.trans e2
      have hargs : ∀ H3, Ex H2 H3 → EvA (tCons (tFld K (tVar 0) "growth") (tCons (tOp (rIxL K) (tVar 1) (tC (.int 0))) (tCons (tOp (rIxL K) (tVar 1) (tC (.int 1))) tNil))) (start ["season", "given"] [V.ref a, V.ref gv]) H3 [.ref g, .int (f : Int), .int (l : Int)] := fun H3 e3 =>
        ea_cons (ev_fld (ev_var rfl) (e3 _ _ (e12 _ _ h1)) T.cl T.nG sF_g) (ea_cons (ev_giv0 (ev_var rfl) (e3 _ _ (e12 _ _ hv)) rfl) (ea_cons (ev_giv1 (ev_var rfl) (e3 _ _ (e12 _ _ hv)) rfl) ea_nil))
      exact s_retL (el_lst (ea_cons (ev_call1 (hargs H2 (Ex.refl _)) (fun H4 e4 Q1 q1 E1 => ⟨g, s.growth, f, l, rfl, sq_of (e4 _ _ (e12 _ _ h2)), hl, o.gk, by omega, q1⟩)) (ea_cons (ev_call1 (hargs H2 (Ex.refl _)) (fun H4 e4 Q1 q1 E1 => ⟨g, s.growth, f, l, rfl, sq_of (e4 _ _ (e12 _ _ h2)), hl, o.gk, by omega, q1⟩)) ea_nil)) (by show 2 ≤ 100000; decide))
        fun p H3 hp e3 hq => k.pure hA o hst (by show 2 ≤ 16; decide) (fresh_back e12 hp) (e12.trans e3) hq
theorem k_total_growth (T : Txt K mg C SZ) (D : Df K mg "total_growth" s_total_growth ["season", "given"]) : Cl P w K mg base 1 "total_growth" (spH C 14) := by
  refine D.cl sc_total_growth spH_len (fun fa cdv A outer st H vs Q E hr h => ?_)
  obtain ⟨a, g, gv, s, args, rfl, hA, o, hv, hvg, hsh, hnn, k⟩ := h
  obtain rfl := args0 hsh rfl
  obtain ⟨dx, b, h1, h2, h3, h4⟩ := hA.ex
  have hst := st14 s
  refine ⟨_, pss_one (ps_ret (pe_lst (pa_cons (pe_callB (cr_sum rfl) (by rfl) T.b_sum (by decide +kernel) (pa_cons (pe_fld (pv 0) rfl) (pa_nil))) (pa_nil)))), ?_⟩
  refine s_retL (xs := [.int ((Km562.sum s.growth : Nat) : Int)]) (el_lst (ea_cons (ev_cb (vs := [.ref g]) (ea_cons (ev_fld (ev_var rfl) h1 T.cl T.nG sF_g) ea_nil) (fun H1 e1 Q1 q1 => ⟨g, Km562.toInts s.growth, rfl, sq_of (e1 _ _ h2), by rw [nz_sum]; exact q1 H1 (Ex.refl _)⟩)) ea_nil) (by show 1 ≤ 100000; decide)) fun p H2 hp e2 hq => k.pure hA o hst (by show 1 ≤ 16; decide) hp e2 hq
theorem k_summary (T : Txt K mg C SZ) (D : Df K mg "summary" s_summary ["season", "given"]) (m_day_count : Mt P w K mg base 1 C "day_count" (sp_day_count C)) : Cl P w K mg base 2 "summary" (spH C 26) := by
  refine D.cl sc_summary spH_len (fun fa cdv A outer st H vs Q E hr h => ?_)
  obtain ⟨a, g, gv, s, args, rfl, hA, o, hv, hvg, hsh, hnn, k⟩ := h
  obtain rfl := args0 hsh rfl
  obtain ⟨dx, b, h1, h2, h3, h4⟩ := hA.ex
  have hst := st26 s
  refine ⟨_, pss_one (ps_ret (pe_lst (pa_cons (pe_mt0 m_day_count hr (by decide) (pv 0)) (pa_cons (pe_fld (pv 0) rfl) (pa_cons (pe_fld (pv 0) rfl) (pa_cons (pe_callB call_len_seq (by rfl) T.b_len PySem.boot_len (pa_cons (pe_fld (pv 0) rfl) (pa_nil))) (pa_nil))))))), ?_⟩
  refine s_retL (el_lst (ea_cons (ev_days (ev_var rfl) hA) (ea_cons (ev_fld (ev_var rfl) h1 T.cl T.nT sF_t) (ea_cons (ev_fld (ev_var rfl) h1 T.cl T.nM sF_m) (ea_cons (ev_is (ev_len (ev_fld (ev_var rfl) h1 T.cl T.nB sF_b) (sq_of h3)) (by rw [nz_length])) ea_nil)))) (by show 4 ≤ 100000; decide)) fun p H2 hp e2 hq => k.pure hA o hst (by show 4 ≤ 16; decide) hp e2 hq
end
end Ib
/-! ### the calls about the schedule -/
namespace Ib
open PySem PySem.Spec PyProof.Rows L2 Evl
open Km562 (Schedule)
local macro_rules | `(tactic| walk_at "ev") => `(tactic| repeat' (first
  | exact ev_c | exact ev_var rfl | exact ea_nil | apply ea_cons | apply ev_op | exact rv_I0 | apply et_test | exact rv_eq rfl | exact rv_ne rfl | refine el_lst ?_ (by decide) | refine ev_un ?_ ru_neg))
theorem at_ins (s : Schedule) (d : Nat) : Km562.thicknessAt { s with breaks := Km562.insertDay d s.breaks } d = Km562.thicknessAt s d := by
  unfold Km562.thicknessAt
  show th s.growth (((Km562.insertDay d s.breaks).filter fun b => decide (b < d)).foldl (fun (first b : Nat) => max first (b + 1)) 0) d = _
  rw [ins_filter]
  rfl
section
variable {P : Program} {w : World} {K : PySem.W.Frag} {mg : Str → Option Value} {base : Heap} {C SZ : Addr}
theorem k_add_break (T : Txt K mg C SZ) (D : Df K mg "add_break" s_add_break ["season", "given"]) (m_has_day : Mt P w K mg base 1 C "has_day" (sp_has_day C)) (m_add_break : Mt P w K mg base 1 C "add_break" (spm_add_break C)) (c_thickness_on : Cl P w K mg base 2 "thickness_on" (sp_thickness_on C)) : Cl P w K mg base 3 "add_break" (spH C 8) := by
  refine D.cl sc_add_break spH_len (fun fa cdv A outer st H vs Q E hr h => ?_)
  obtain ⟨a, g, gv, s, args, rfl, hA, o, hv, hvg, hsh, hnn, k⟩ := h
  obtain ⟨d, rfl⟩ := args1 hsh hnn rfl
  obtain ⟨dx, b, h1, h2, h3, h4⟩ := hA.ex
  have hst := st8 s d
  refine ⟨_, pss_cons (ps_if (pt_not (pt_val (pe_mt m_has_day hr (by decide) (pv 0) (pa_cons (pe_ix ix_list (pv 1) (pe_int) (fun _ _ => rfl)) (pa_nil))))) (pss_one (ps_ret (pe_lst (pa_cons (C8.pe_gc rfl T.g_NO_DAY) (pa_nil))))) (pss_nil))
      (pss_cons (ps_if (pt_cmpR op_in_seq (pe_ix ix_list (pv 1) (pe_int) (fun _ _ => rfl)) (pe_fld (pv 0) rfl) rfl) (pss_one (ps_ret (pe_lst (pa_cons (C8.pe_gc rfl T.g_BREAK_THERE) (pa_nil))))) (pss_nil))
      (pss_cons (ps_expr (pe_mt m_add_break hr (by decide) (pv 0) (pa_cons (pe_ix ix_list (pv 1) (pe_int) (fun _ _ => rfl)) (pa_nil))))
      (pss_one (ps_ret (pe_lst (pa_cons (pe_cl c_thickness_on hr (by decide) rfl (pa_cons (pv 0) (pa_cons (pe_ix ix_list (pv 1) (pe_int) (fun _ _ => rfl)) (pa_nil)))) (pa_nil))))))), ?_⟩
  refine q_when (b := !decide (d < s.growth.length)) (et_not (et_has (ev_var rfl) hA (ev_giv0 (ev_var rfl) hv rfl))) (fun hb H1 e1 => ?_) (fun hb H1 e1 => ?_)
  · have hb' : ¬ d < s.growth.length := by simpa using hb
    rw [if_pos (by omega)] at hst
    exact s_retL (el_lst (by walk_at "ev") (by show 1 ≤ 100000; decide)) fun p H2 hp e2 hq => k.pure hA o hst (by decide) (fresh_back e1 hp) (e1.trans e2) hq
  · have hb' : d < s.growth.length := by simpa using hb
    rw [if_neg (by omega)] at hst
    refine q_when (b := s.breaks.contains d) (et_test (ev_is (ev_op (ev_giv0 (ev_var rfl) (e1 _ _ hv) rfl) (ev_fld (ev_var rfl) (e1 _ _ h1) T.cl T.nB sF_b) (rv_isL (sq_of (e1 _ _ h3)) rfl (nz_flat _))) (congrArg V.bl (nz_in _ _)))) (fun hc H2 e2 => ?_) (fun hc H2 e2 => ?_)
    · rw [if_pos hc] at hst
      exact s_retL (el_lst (by walk_at "ev") (by show 1 ≤ 100000; decide)) fun p H3 hp e3 hq => k.pure hA o hst (by decide) (fresh_back (e1.trans e2) hp) ((e1.trans e2).trans e3) hq
    · have hd : d ∉ s.breaks := by
        intro z
        rw [List.contains_iff_mem.mpr z] at hc
        cases hc
      rw [hc, if_neg (by decide)] at hst
      have e12 := e1.trans e2
      refine q_methS (vs := [.int (d : Int)]) (ev_var rfl) (e12 _ _ h1) sF_add (ea_cons (ev_giv0 (ev_var rfl) (e12 _ _ hv) rfl) ea_nil) fun H3 e3 => ?_
      have e13 := e12.trans e3
      refine ⟨a, g, s, d, rfl, hA.mono e13, o, hd, fun H4 hA4 hC4 => ?_⟩
      have hv4 : H4 gv = some (.lst (vz [(d : Int)])) := hC4 _ _ (e13 _ _ hv) (ne_of hv h1 (by intro z; cases z))
      have hC : Chg1 H H4 a := Chg1.pre e13 hC4
      refine s_retL (xs := [.int ((Km562.thicknessAt s d : Nat) : Int)]) (el_lst (ea_cons (ev_call1 (vs := [.ref a, .int (d : Int)]) (ea_cons (ev_var rfl) (ea_cons (ev_giv0 (ev_var rfl) hv4 rfl) ea_nil)) (fun H5 e5 Q1 q1 E1 => ⟨a, g, _, d, rfl, hA4.mono e5, o.ins hb', hb', by rw [at_ins]; exact q1⟩)) ea_nil) (by show 1 ≤ 100000; decide)) fun p H5 hp e5 hq => ?_
      have hp0 : H p = none := by
        cases q : H p with
        | none => rfl
        | some u =>
          by_cases hpa : p = a
          · subst hpa
            obtain ⟨_, _, j1, _⟩ := hA4.ex
            rw [j1] at hp
            cases hp
          · rw [hC p u q hpa] at hp
            cases hp
      exact k H5 p g _ _ hst (o.ins hb') (by show 1 ≤ 16; decide) (hA4.mono e5) ((hC.post e5).chg) (.inl rfl) hp0 hq
theorem k_remove_break (T : Txt K mg C SZ) (D : Df K mg "remove_break" s_remove_break ["season", "given"]) (m_remove_break : Mt P w K mg base 1 C "remove_break" (spm_remove_break C)) : Cl P w K mg base 2 "remove_break" (spH C 9) := by
  refine D.cl sc_remove_break spH_len (fun fa cdv A outer st H vs Q E hr h => ?_)
  obtain ⟨a, g, gv, s, args, rfl, hA, o, hv, hvg, hsh, hnn, k⟩ := h
  obtain ⟨d, rfl⟩ := args1 hsh hnn rfl
  obtain ⟨dx, b, h1, h2, h3, h4⟩ := hA.ex
  have hst := st9 s d
  have hG := o.len
  have hB := o.brk
  refine ⟨_, pss_cons (ps_if (pt_cmpR op_notIn_seq (pe_ix ix_list (pv 1) (pe_int) (fun _ _ => rfl)) (pe_fld (pv 0) rfl) rfl) (pss_one (ps_ret (pe_lst (pa_cons (C8.pe_gc rfl T.g_NO_DAY) (pa_nil))))) (pss_nil))
      (pss_cons (ps_expr (pe_mt m_remove_break hr (by decide) (pv 0) (pa_cons (pe_ix ix_list (pv 1) (pe_int) (fun _ _ => rfl)) (pa_nil))))
      (pss_one (ps_ret (pe_lst (pa_cons (pe_callB call_len_seq (by rfl) T.b_len PySem.boot_len (pa_cons (pe_fld (pv 0) rfl) (pa_nil))) (pa_nil)))))), ?_⟩
  refine q_when (b := !s.breaks.contains d) (et_test (ev_is (ev_op (ev_giv0 (ev_var rfl) hv rfl) (ev_fld (ev_var rfl) h1 T.cl T.nB sF_b) (rv_niL (sq_of h3) rfl (nz_flat _))) (congrArg (fun q => V.bl (!q)) (nz_in _ _)))) (fun hc H1 e1 => ?_) (fun hc H1 e1 => ?_)
  · have hc' : s.breaks.contains d = false := by simpa using hc
    rw [if_pos hc'] at hst
    exact s_retL (el_lst (by walk_at "ev") (by show 1 ≤ 100000; decide)) fun p H3 hp e3 hq => k.pure hA o hst (by decide) (fresh_back e1 hp) (e1.trans e3) hq
  · have hc' : s.breaks.contains d = true := by simpa using hc
    rw [if_neg (by rw [hc']; decide)] at hst
    refine q_methS (vs := [.int (d : Int)]) (ev_var rfl) (e1 _ _ h1) sF_rem (ea_cons (ev_giv0 (ev_var rfl) (e1 _ _ hv) rfl) ea_nil) fun H3 e3 => ?_
    have e13 := e1.trans e3
    refine ⟨a, g, s, d, rfl, hA.mono e13, by omega, fun H4 hA4 hC4 => ?_⟩
    have hC : Chg1 H H4 a := Chg1.pre e13 hC4
    obtain ⟨dx4, b4, i1, i2, i3, i4⟩ := hA4.ex
    refine s_retL (xs := [.int ((s.breaks.length - 1 : Nat) : Int)]) (el_lst (ea_cons (ev_is (ev_len (ev_fld (ev_var rfl) i1 T.cl T.nB sF_b) (sq_of i3)) (by rw [nz_length]; exact congrArg (fun n : Nat => V.int (n : Int)) (contains_len o.asc hc'))) ea_nil) (by show 1 ≤ 100000; decide)) fun p H5 hp e5 hq => ?_
    have hp0 : H p = none := by
      cases q : H p with
      | none => rfl
      | some u =>
        by_cases hpa : p = a
        · subst hpa
          rw [i1] at hp
          cases hp
        · rw [hC p u q hpa] at hp
          cases hp
    exact k H5 p g _ _ hst (o.rem _) (by show 1 ≤ 16; decide) (hA4.mono e5) ((hC.post e5).chg) (.inl rfl) hp0 hq
theorem k_list_breaks (T : Txt K mg C SZ) (D : Df K mg "list_breaks" s_list_breaks ["season", "given"]) : Cl P w K mg base 1 "list_breaks" (spH C 10) := by
  refine D.cl sc_list_breaks spH_len (fun fa cdv A outer st H vs Q E hr h => ?_)
  obtain ⟨a, g, gv, s, args, rfl, hA, o, hv, hvg, hsh, hnn, k⟩ := h
  obtain rfl := args0 hsh rfl
  obtain ⟨dx, b, h1, h2, h3, h4⟩ := hA.ex
  have hst := st10 s
  have hG := o.len
  have hB := o.brk
  refine ⟨_, pss_one (ps_ret (pe_op op_cat (pe_lst (pa_cons (pe_callB call_len_seq (by rfl) T.b_len PySem.boot_len (pa_cons (pe_fld (pv 0) rfl) (pa_nil))) (pa_nil))) (pe_fld (pv 0) rfl))), ?_⟩
  refine s_retL (el_cat1 (xs := [.int (s.breaks.length : Int)]) (el_lst (ea_cons (ev_is (ev_len (ev_fld (ev_var rfl) h1 T.cl T.nB sF_b) (sq_of h3)) (by rw [nz_length])) ea_nil) (by show 1 ≤ 100000; decide)) (fun H1 e1 => ev_fld (ev_var rfl) (e1 _ _ h1) T.cl T.nB sF_b) h3 (by rw [nz_length]; show 1 + _ ≤ 100000; omega)) fun p H2 hp e2 hq => k.pure hA o hst ?_ hp e2 hq
  show (Km562.toInts s.breaks).length + 1 ≤ 16
  unfold Km562.toInts
  rw [List.length_map]
  omega
theorem k_thickness_per_break (T : Txt K mg C SZ) (D : Df K mg "thickness_per_break" s_thickness_per_break ["season", "given"]) (c_thicknesses : Cl P w K mg base 2 "thicknesses" (sp_thicknesses K)) : Cl P w K mg base 3 "thickness_per_break" (spH C 11) := by
  refine D.cl sc_thickness_per_break spH_len (fun fa cdv A outer st H vs Q E hr h => ?_)
  obtain ⟨a, g, gv, s, args, rfl, hA, o, hv, hvg, hsh, hnn, k⟩ := h
  obtain rfl := args0 hsh rfl
  obtain ⟨dx, b, h1, h2, h3, h4⟩ := hA.ex
  have hst := st11 s
  have hG := o.len
  have hB := o.brk
  refine ⟨_, pss_one (ps_ret (pe_op op_cat (pe_lst (pa_cons (pe_callB call_len_seq (by rfl) T.b_len PySem.boot_len (pa_cons (pe_fld (pv 0) rfl) (pa_nil))) (pa_nil))) (pe_cl c_thicknesses hr (by decide) rfl (pa_cons (pe_fld (pv 0) rfl) (pa_cons (pe_fld (pv 0) rfl) (pa_nil)))))), ?_⟩
  refine s_retL (el_cat (xs := [.int (s.breaks.length : Int)]) (ys := nz (Km562.thicknessesFrom s 0 s.breaks)) (el_lst (ea_cons (ev_is (ev_len (ev_fld (ev_var rfl) h1 T.cl T.nB sF_b) (sq_of h3)) (by rw [nz_length])) ea_nil) (by show 1 ≤ 100000; decide)) (el_call1 (vs := [.ref g, .ref b]) (ea_cons (ev_fld (ev_var rfl) h1 T.cl T.nG sF_g) (ea_cons (ev_fld (ev_var rfl) h1 T.cl T.nB sF_b) ea_nil)) (fun H3 e3 Q1 q1 E1 => ⟨g, b, s, rfl, sq_of (e3 _ _ h2), sq_of (e3 _ _ h3), o, q1⟩)) (by rw [nz_length, ths_length]; show 1 + _ ≤ 100000; omega)) fun p H2 hp e2 hq => k.pure hA o hst ?_ hp e2 hq
  show (Km562.toInts _).length + 1 ≤ 16
  unfold Km562.toInts
  rw [List.length_map, ths_length]
  omega
theorem k_is_valid_schedule (T : Txt K mg C SZ) (D : Df K mg "is_valid_schedule" s_is_valid_schedule ["season", "given"]) (c_is_valid : Cl P w K mg base 3 "is_valid" (sp_is_valid K)) : Cl P w K mg base 4 "is_valid_schedule" (spH C 12) := by
  refine D.cl sc_is_valid_schedule spH_len (fun fa cdv A outer st H vs Q E hr h => ?_)
  obtain ⟨a, g, gv, s, args, rfl, hA, o, hv, hvg, hsh, hnn, k⟩ := h
  obtain rfl := args0 hsh rfl
  obtain ⟨dx, b, h1, h2, h3, h4⟩ := hA.ex
  have hst := st12 s
  refine ⟨_, pss_one (ps_ret (pe_lst (pa_cons (pe_callTy call_int1 (by rfl) T.b_int (by decide +kernel) (pa_cons (pe_cl c_is_valid hr (by decide) rfl (pa_cons (pe_fld (pv 0) rfl) (pa_cons (pe_fld (pv 0) rfl) (pa_cons (pe_fld (pv 0) rfl) (pa_nil))))) (pa_nil))) (pa_nil)))), ?_⟩
  refine s_retL (xs := [.int (if Km562.isValid s s.breaks = true then 1 else 0)]) (el_lst (ea_cons (ev_cb (vs := [.bl (Km562.isValid s s.breaks)]) (ea_cons (ev_call1 (vs := [.ref g, .ref b, .int (s.maxThickness : Int)]) (ea_cons (ev_fld (ev_var rfl) h1 T.cl T.nG sF_g) (ea_cons (ev_fld (ev_var rfl) h1 T.cl T.nB sF_b) (ea_cons (ev_fld (ev_var rfl) h1 T.cl T.nM sF_m) ea_nil)))
    (fun H3 e3 Q1 q1 E1 => ⟨g, b, s, rfl, sq_of (e3 _ _ h2), sq_of (e3 _ _ h3), o, q1⟩)) ea_nil) (fun H1 e1 Q1 q1 => Or.inr ⟨_, rfl, q1 H1 (Ex.refl _)⟩)) ea_nil) (by show 1 ≤ 100000; decide)) fun p H2 hp e2 hq => k.pure hA o hst (by show 1 ≤ 16; decide) hp e2 hq
theorem k_schedule_cost (T : Txt K mg C SZ) (D : Df K mg "schedule_cost" s_schedule_cost ["season", "given"]) (c_effort_of : Cl P w K mg base 3 "effort_of" (sp_effort_of K)) : Cl P w K mg base 4 "schedule_cost" (spH C 13) := by
  refine D.cl sc_schedule_cost spH_len (fun fa cdv A outer st H vs Q E hr h => ?_)
  obtain ⟨a, g, gv, s, args, rfl, hA, o, hv, hvg, hsh, hnn, k⟩ := h
  obtain rfl := args0 hsh rfl
  obtain ⟨dx, b, h1, h2, h3, h4⟩ := hA.ex
  have hst := st13 s
  have hT := o.tc
  refine ⟨_, pss_cons (ps_set (i := 2) sc_schedule_cost.nd rfl (Or.inl rfl) (pe_cl c_effort_of hr (by decide) rfl (pa_cons (pe_fld (pv 0) rfl) (pa_cons (pe_fld (pv 0) rfl) (pa_nil)))))
      (pss_one (ps_ret (pe_lst (pa_cons (pv 2) (pa_cons (pe_op op_add (pv 2) (pe_op op_mul (pe_fld (pv 0) rfl) (pe_callB call_len_seq (by rfl) T.b_len PySem.boot_len (pa_cons (pe_fld (pv 0) rfl) (pa_nil))))) (pa_nil)))))), ?_⟩
  refine q_asg (v := .int ((Km562.totalEffort s s.breaks : Nat) : Int)) (ev_call1 (vs := [.ref g, .ref b]) (ea_cons (ev_fld (ev_var rfl) h1 T.cl T.nG sF_g) (ea_cons (ev_fld (ev_var rfl) h1 T.cl T.nB sF_b) ea_nil)) (fun H3 e3 Q1 q1 E1 => ⟨g, b, s, rfl, sq_of (e3 _ _ h2), sq_of (e3 _ _ h3), o, q1⟩)) fun H1 e1 => ?_
  refine s_retL (xs := vz [((Km562.totalEffort s s.breaks : Nat) : Int), ((Km562.totalEffort s s.breaks + s.tripCost * s.breaks.length : Nat) : Int)]) (el_lst (ea_cons (ev_var rfl) (ea_cons (ev_is (ev_op (ev_var rfl) (ev_op (ev_fld (ev_var rfl) (e1 _ _ h1) T.cl T.nT sF_t) (ev_len (ev_fld (ev_var rfl) (e1 _ _ h1) T.cl T.nB sF_b) (sq_of (e1 _ _ h3))) (rv_I (.inl (by omega)))) rv_I0) ?_) ea_nil)) (by show 2 ≤ 100000; decide)) fun p H2 hp e2 hq => k.pure hA o hst (by show 2 ≤ 16; decide) (fresh_back e1 hp) (e1.trans e2) hq
  rw [nz_length, Int.natCast_add, Int.natCast_mul]
theorem k_excess_effort (T : Txt K mg C SZ) (D : Df K mg "excess_effort" s_excess_effort ["season", "given"]) (c_is_valid : Cl P w K mg base 3 "is_valid" (sp_is_valid K)) (c_effort_of : Cl P w K mg base 3 "effort_of" (sp_effort_of K)) (c_least_effort : Cl P w K mg base 7 "least_effort" (sp_least_effort K)) : Cl P w K mg base 8 "excess_effort" (spH C 17) := by
  refine D.cl sc_excess_effort spH_len (fun fa cdv A outer st H vs Q E hr h => ?_)
  obtain ⟨a, g, gv, s, args, rfl, hA, o, hv, hvg, hsh, hnn, k⟩ := h
  obtain rfl := args0 hsh rfl
  obtain ⟨dx, b, h1, h2, h3, h4⟩ := hA.ex
  have hst := st17 s
  have hG := o.len
  have hB := o.brk
  refine ⟨_, pss_cons (ps_if (pt_not (pt_val (pe_cl c_is_valid hr (by decide) rfl (pa_cons (pe_fld (pv 0) rfl) (pa_cons (pe_fld (pv 0) rfl) (pa_cons (pe_fld (pv 0) rfl) (pa_nil))))))) (pss_one (ps_ret (pe_lst (pa_cons (C8.pe_gc rfl T.g_NOT_VALID) (pa_nil))))) (pss_nil))
      (pss_cons (ps_set (i := 2) sc_excess_effort.nd rfl (Or.inl rfl) (pe_cl c_least_effort hr (by decide) rfl (pa_cons (pe_fld (pv 0) rfl) (pa_cons (pe_fld (pv 0) rfl) (pa_cons (pe_callB call_len_seq (by rfl) T.b_len PySem.boot_len (pa_cons (pe_fld (pv 0) rfl) (pa_nil))) (pa_nil))))))
      (pss_one (ps_ret (pe_lst (pa_cons (pe_op op_sub (pe_cl c_effort_of hr (by decide) rfl (pa_cons (pe_fld (pv 0) rfl) (pa_cons (pe_fld (pv 0) rfl) (pa_nil)))) (pv 2)) (pa_nil)))))), ?_⟩
  refine q_when (b := !Km562.isValid s s.breaks) (et_not (et_B (ev_call1 (vs := [.ref g, .ref b, .int (s.maxThickness : Int)]) (ea_cons (ev_fld (ev_var rfl) h1 T.cl T.nG sF_g) (ea_cons (ev_fld (ev_var rfl) h1 T.cl T.nB sF_b) (ea_cons (ev_fld (ev_var rfl) h1 T.cl T.nM sF_m) ea_nil)))
    (fun H3 e3 Q1 q1 E1 => ⟨g, b, s, rfl, sq_of (e3 _ _ h2), sq_of (e3 _ _ h3), o, q1⟩)))) (fun hb H1 e1 => ?_) (fun hb H1 e1 => ?_)
  · have hb' : Km562.isValid s s.breaks = false := by simpa using hb
    rw [if_pos hb'] at hst
    exact s_retL (el_lst (by walk_at "ev") (by show 1 ≤ 100000; decide)) fun p H3 hp e3 hq => k.pure hA o hst (by decide) (fresh_back e1 hp) (e1.trans e3) hq
  · have hb' : Km562.isValid s s.breaks = true := by simpa using hb
    obtain ⟨v, es, ho, hle⟩ := valid_best o hb'
    rw [if_neg (by rw [hb']; decide), ho] at hst
    have hZ : Z s s.breaks.length 0 = (v : Int) := by
      unfold Z
      rw [ho]
      rfl
    refine q_asg (v := .int (v : Int)) (ev_is (ev_call1 (vs := [.ref g, .int (s.maxThickness : Int), .int (s.breaks.length : Int)]) (z := .int (Z s s.breaks.length 0)) (ea_cons (ev_fld (ev_var rfl) (e1 _ _ h1) T.cl T.nG sF_g) (ea_cons (ev_fld (ev_var rfl) (e1 _ _ h1) T.cl T.nM sF_m) (ea_cons (ev_is (ev_len (ev_fld (ev_var rfl) (e1 _ _ h1) T.cl T.nB sF_b) (sq_of (e1 _ _ h3))) (by rw [nz_length])) ea_nil)))
      (fun H3 e3 Q1 q1 E1 => ⟨g, s, s.breaks.length, rfl, sq_of (e3 _ _ (e1 _ _ h2)), o, by omega, q1⟩)) (by rw [hZ])) fun H2 e2 => ?_
    have e12 := e1.trans e2
    refine s_retL (xs := [.int ((Km562.totalEffort s s.breaks - v : Nat) : Int)]) (el_lst (ea_cons (ev_is (ev_op (ev_call1 (vs := [.ref g, .ref b]) (z := .int ((Km562.totalEffort s s.breaks : Nat) : Int)) (ea_cons (ev_fld (ev_var rfl) (e12 _ _ h1) T.cl T.nG sF_g) (ea_cons (ev_fld (ev_var rfl) (e12 _ _ h1) T.cl T.nB sF_b) ea_nil)) (fun H3 e3 Q1 q1 E1 => ⟨g, b, s, rfl, sq_of (e3 _ _ (e12 _ _ h2)), sq_of (e3 _ _ (e12 _ _ h3)), o, q1⟩)) (ev_var rfl) rv_I0) ?_) ea_nil) (by show 1 ≤ 100000; decide)) fun p H3 hp e3 hq => k.pure hA o hst (by show 1 ≤ 16; decide) (fresh_back e12 hp) (e12.trans e3) hq
    congr 1
    omega
theorem k_thickness_at (T : Txt K mg C SZ) (D : Df K mg "thickness_at" s_thickness_at ["season", "given"]) (m_has_day : Mt P w K mg base 1 C "has_day" (sp_has_day C)) (c_thickness_on : Cl P w K mg base 2 "thickness_on" (sp_thickness_on C)) : Cl P w K mg base 3 "thickness_at" (spH C 25) := by
  refine D.cl sc_thickness_at spH_len (fun fa cdv A outer st H vs Q E hr h => ?_)
  obtain ⟨a, g, gv, s, args, rfl, hA, o, hv, hvg, hsh, hnn, k⟩ := h
  obtain ⟨d, rfl⟩ := args1 hsh hnn rfl
  obtain ⟨dx, b, h1, h2, h3, h4⟩ := hA.ex
  have hst := st25 s d
  refine ⟨_, pss_cons (ps_if (pt_not (pt_val (pe_mt m_has_day hr (by decide) (pv 0) (pa_cons (pe_ix ix_list (pv 1) (pe_int) (fun _ _ => rfl)) (pa_nil))))) (pss_one (ps_ret (pe_lst (pa_cons (C8.pe_gc rfl T.g_NO_DAY) (pa_nil))))) (pss_nil))
      (pss_one (ps_ret (pe_lst (pa_cons (pe_cl c_thickness_on hr (by decide) rfl (pa_cons (pv 0) (pa_cons (pe_ix ix_list (pv 1) (pe_int) (fun _ _ => rfl)) (pa_nil)))) (pa_nil))))), ?_⟩
  refine q_when (b := !decide (d < s.growth.length)) (et_not (et_has (ev_var rfl) hA (ev_giv0 (ev_var rfl) hv rfl))) (fun hb H1 e1 => ?_) (fun hb H1 e1 => ?_)
  · have hb' : ¬ d < s.growth.length := by simpa using hb
    rw [if_pos (by omega)] at hst
    exact s_retL (el_lst (by walk_at "ev") (by show 1 ≤ 100000; decide)) fun p H2 hp e2 hq => k.pure hA o hst (by decide) (fresh_back e1 hp) (e1.trans e2) hq
  · have hb' : d < s.growth.length := by simpa using hb
    rw [if_neg (by omega)] at hst
    exact s_retL (xs := [.int ((Km562.thicknessAt s d : Nat) : Int)]) (el_lst (ea_cons (ev_call1 (vs := [.ref a, .int (d : Int)]) (ea_cons (ev_var rfl) (ea_cons (ev_giv0 (ev_var rfl) (e1 _ _ hv) rfl) ea_nil)) (fun H5 e5 Q1 q1 E1 => ⟨a, g, s, d, rfl, hA.mono (e1.trans e5), o, hb', q1⟩)) ea_nil) (by show 1 ≤ 100000; decide)) fun p H3 hp e3 hq => k.pure hA o hst (by show 1 ≤ 16; decide) (fresh_back e1 hp) (e1.trans e3) hq
end
end Ib
/-! ### the calls about optimal breaks -/
namespace Ib
open PySem PySem.Spec PyProof.Rows L2 Evl
open Km562 (Schedule)
local macro_rules | `(tactic| walk_at "ev") => `(tactic| repeat' (first
  | exact ev_c | exact ev_var rfl | exact ea_nil | apply ea_cons | apply ev_op | exact rv_I0 | apply et_test | exact rv_eq rfl | exact rv_ne rfl | refine el_lst ?_ (by decide) | refine ev_un ?_ ru_neg))
section
variable {K : PySem.W.Frag} {σ : L2.St} {H H' : Hp} {ta tb tc tv te to : TE} {t : TA} {C a g gv dx b : Addr} {s : Schedule}
theorem rv_ne0 {p q : Addr} (hp : H p = some (.lst [])) (hq : H q = some (.lst [])) : RV (rNeD K) (.ref p) (.ref q) H (.bl false) := fun H1 e Q k =>
  ⟨.list [], .list [], .lst (sq_of (e _ _ hp)) .nil, .lst (sq_of (e _ _ hq)) .nil, by decide, by decide, k H1 (Ex.refl _)⟩
theorem rv_ne1 {p q : Addr} {i : Int} (hs : SeqAt.shaped (.list [.int i]) = true) (hp : H p = some (.lst [.int i])) (hq : H q = some (.lst [])) : RV (rNeD K) (.ref p) (.ref q) H (.bl true) := fun H1 e Q k =>
  ⟨.list [.int i], .list [], .lst (sq_of (e _ _ hp)) (.cons (.int i) .nil), .lst (sq_of (e _ _ hq)) .nil, hs, by decide, k H1 (Ex.refl _)⟩
/-- refusal != [] -/
theorem et_ne0 {p : Addr} (h : Ev ta σ H (.ref p)) (hp : H p = some (.lst [])) : EvT (tTest (tOp (rNeD K) ta (tLst tNil))) σ H false :=
  et_test (ev_opL h (el_lst ea_nil (by show 0 ≤ 100000; decide)) fun q H1 hq e => rv_ne0 (e _ _ hp) hq)
theorem et_ne1 {p : Addr} {i : Int} (hs : SeqAt.shaped (.list [.int i]) = true) (h : Ev ta σ H (.ref p)) (hp : H p = some (.lst [.int i])) : EvT (tTest (tOp (rNeD K) ta (tLst tNil))) σ H true :=
  et_test (ev_opL h (el_lst ea_nil (by show 0 ≤ 100000; decide)) fun q H1 hq e => rv_ne1 hs (e _ _ hp) hq)
theorem q_callT {sp : Sp} {E : XK} {ta : TA} {vs : List V} {n : Nat} {tg : TGs} {D : Ends} {tz : TS} (h : EvA ta σ H vs) (k : ∀ H1, Ex H H1 → sp (vs ++ []) H1 (fun x H2 => gTup K n tg x σ H2 (tz D)) E) : tSeq (tAsg (tCall sp [] E ta) (gTup K n tg)) tz D σ H := h H (Ex.refl H) _ k
/-- lo <= x <= hi -/
theorem et_chain {i j l : Int} (ha : Ev ta σ H (.int i)) (hb : Ev tb σ H (.int j)) (hc : Ev tc σ H (.int l)) : EvT (tTest (tChain (rI0 fun i j => .bl (decide (i ≤ j))) (rI0 fun i j => .bl (decide (i ≤ j))) ta tb tc)) σ H (decide (i ≤ j) && decide (j ≤ l)) :=
  et_test fun H1 e Q q => ha H1 e _ fun H2 e2 => hb H2 (e.trans e2) _ fun H3 e3 => ⟨i, j, rfl, rfl, decide (i ≤ j), rfl, by
    revert q
    generalize decide (i ≤ j) = b
    intro q
    cases b with
    | true =>
      show tc σ H3 _
      exact hc H3 ((e.trans e2).trans e3) _ fun H4 e4 => ⟨j, l, rfl, rfl, q H4 ((e2.trans e3).trans e4)⟩
    | false =>
      show Q (.bl false) H3
      exact q H3 (e2.trans e3)⟩
/-- a def called on a new list and what else there is -/
theorem el_callL {sp : Sp} {E : XK} {tr : TA} {vs xs ys : List V} (h : EvL te σ H xs) (hr : ∀ H1, Ex H H1 → EvA tr σ H1 vs) (hs : ∀ p H1, H1 p = some (.lst xs) → Ex H H1 → ∀ Q : VK, RetL ys H1 Q → ∀ E : XK, sp ((.ref p :: vs) ++ []) H1 Q E) : EvL (tCall sp [] E (tCons te tr)) σ H ys := fun H1 e Q q =>
  h H1 e _ fun p H2 _ e2 h2 => hr H2 (e.trans e2) H2 (Ex.refl _) _ fun H3 e3 => hs p H3 (e3 _ _ h2) ((e.trans e2).trans e3) Q (fun p' H4 hp' e4 h4 => q p' H4 (fresh_back (e2.trans e3) hp') ((e2.trans e3).trans e4) h4) E
end
theorem chp_vz (s : Schedule) : vz (chp s) = chv s := by
  unfold chp chv
  cases Km562.cheapest s <;> rfl
theorem chp_len (s : Schedule) : (chp s).length ≤ 16 := by
  unfold chp
  cases Km562.cheapest s with
  | none => show 1 ≤ 16; decide
  | some r => show 2 ≤ 16; decide
theorem toInts_length (l : List Nat) : (Km562.toInts l).length = l.length := by
  unfold Km562.toInts
  rw [List.length_map]
section
variable {P : Program} {w : World} {K : PySem.W.Frag} {mg : Str → Option Value} {base : Heap} {C SZ : Addr}
theorem k_optimal_breaks (T : Txt K mg C SZ) (D : Df K mg "optimal_breaks" s_optimal_breaks ["season", "given"]) (c_refusal_of : Cl P w K mg base 8 "refusal_of" (sp_refusal_of C)) (c_least_breaks : Cl P w K mg base 7 "least_breaks" (sp_least_breaks K)) (c_least_effort : Cl P w K mg base 7 "least_effort" (sp_least_effort K)) : Cl P w K mg base 9 "optimal_breaks" (spH C 15) := by
  refine D.cl sc_optimal_breaks spH_len (fun fa cdv A outer st H vs Q E hr h => ?_)
  obtain ⟨a, g, gv, s, args, rfl, hA, o, hv, hvg, hsh, hnn, k⟩ := h
  obtain ⟨m, rfl⟩ := args1 hsh hnn rfl
  obtain ⟨dx, b, h1, h2, h3, h4⟩ := hA.ex
  have hst := st15 s m
  have hG := o.len
  refine ⟨_, pss_cons (ps_set (i := 2) sc_optimal_breaks.nd rfl (Or.inl rfl) (pe_cl c_refusal_of hr (by decide) rfl (pa_cons (pv 0) (pa_cons (pe_ix ix_list (pv 1) (pe_int) (fun _ _ => rfl)) (pa_nil)))))
      (pss_cons (ps_if (pt_cmpR (op_neD hr.units) (pv 2) (pe_lst (pa_nil)) (nomark _)) (pss_one (ps_ret (pv 2))) (pss_nil))
      (pss_cons (ps_set (i := 3) sc_optimal_breaks.nd rfl (Or.inl rfl) (pe_cl c_least_breaks hr (by decide) rfl (pa_cons (pe_fld (pv 0) rfl) (pa_cons (pe_fld (pv 0) rfl) (pa_cons (pe_ix ix_list (pv 1) (pe_int) (fun _ _ => rfl)) (pa_nil))))))
      (pss_one (ps_ret (pe_op op_cat (pe_lst (pa_cons (pe_cl c_least_effort hr (by decide) rfl (pa_cons (pe_fld (pv 0) rfl) (pa_cons (pe_fld (pv 0) rfl) (pa_cons (pe_ix ix_list (pv 1) (pe_int) (fun _ _ => rfl)) (pa_nil))))) (pa_nil))) (pv 3)))))), ?_⟩
  refine q_asgL (el_call1 (vs := [.ref a, .int (m : Int)]) (ea_cons (ev_var rfl) (ea_cons (ev_giv0 (ev_var rfl) hv rfl) ea_nil)) (fun H3 e3 Q1 q1 E1 => ⟨a, g, s, m, rfl, hA.mono e3, o, q1⟩)) fun r H1 hr1 e1 hR => ?_
  by_cases c1 : s.growth.length < m
  · rw [if_pos c1] at hst hR
    exact q_when (b := true) (et_ne1 (by decide) (ev_var rfl) hR) (fun _ H2 e2 => s_ret (ev_var rfl) fun H3 e3 => k.pure hA o hst (by decide) hr1 ((e1.trans e2).trans e3) (e3 _ _ (e2 _ _ hR))) (fun z => nomatch z)
  · rw [if_neg c1] at hst hR
    by_cases c2 : Z s m 0 = -1
    · rw [if_pos c2] at hR
      rw [zo_eq_none c2] at hst
      exact q_when (b := true) (et_ne1 (by decide) (ev_var rfl) hR) (fun _ H2 e2 => s_ret (ev_var rfl) fun H3 e3 => k.pure hA o hst (by decide) hr1 ((e1.trans e2).trans e3) (e3 _ _ (e2 _ _ hR))) (fun z => nomatch z)
    · rw [if_neg c2] at hR
      obtain ⟨v, ds, ho, hZ⟩ := Z_some c2
      rw [ho] at hst
      have hl := (opt_len ho).1
      refine q_when (b := false) (et_ne0 (ev_var rfl) hR) (fun z => nomatch z) (fun _ H2 e2 => ?_)
      have e12 := e1.trans e2
      have hargs : ∀ {σ : L2.St} H3, Ex H2 H3 → σ[0]? = some (some (.ref a)) → σ[1]? = some (some (.ref gv)) → EvA (tCons (tFld K (tVar 0) "growth") (tCons (tFld K (tVar 0) "max_thickness") (tCons (tOp (rIxL K) (tVar 1) (tC (.int 0))) tNil))) σ H3 [.ref g, .int (s.maxThickness : Int), .int (m : Int)] := fun H3 e3 x0 x1 =>
        ea_cons (ev_fld (ev_var x0) (e3 _ _ (e12 _ _ h1)) T.cl T.nG sF_g) (ea_cons (ev_fld (ev_var x0) (e3 _ _ (e12 _ _ h1)) T.cl T.nM sF_m) (ea_cons (ev_giv0 (ev_var x1) (e3 _ _ (e12 _ _ hv)) rfl) ea_nil))
      refine q_asgL (xs := nz ds) (el_call1 (hargs H2 (Ex.refl _) rfl rfl) (fun H3 e3 Q1 q1 E1 => ⟨g, s, m, v, ds, rfl, sq_of (e3 _ _ (e12 _ _ h2)), o, by omega, ho, q1⟩)) fun f H3 hf e3 hF => ?_
      have e13 := e12.trans e3
      refine s_retL (el_cat1 (xs := [.int (v : Int)]) (el_lst (ea_cons (ev_is (ev_call1 (z := .int (Z s m 0)) (hargs H3 e3 rfl rfl) (fun H4 e4 Q1 q1 E1 => ⟨g, s, m, rfl, sq_of (e4 _ _ (e13 _ _ h2)), o, by omega, q1⟩)) (by rw [hZ])) ea_nil) (by show 1 ≤ 100000; decide)) (fun H4 e4 => ev_var rfl) hF (by rw [nz_length]; show 1 + _ ≤ 100000; omega)) fun p H4 hp e4 hq => k.pure hA o hst ?_ (fresh_back e13 hp) (e13.trans e4) hq
      show (Km562.toInts ds).length + 1 ≤ 16
      rw [toInts_length]
      omega
theorem k_use_optimal_breaks (T : Txt K mg C SZ) (D : Df K mg "use_optimal_breaks" s_use_optimal_breaks ["season", "given"]) (c_refusal_of : Cl P w K mg base 8 "refusal_of" (sp_refusal_of C)) (c_least_breaks : Cl P w K mg base 7 "least_breaks" (sp_least_breaks K)) (c_least_effort : Cl P w K mg base 7 "least_effort" (sp_least_effort K)) : Cl P w K mg base 9 "use_optimal_breaks" (spH C 16) := by
  refine D.cl sc_use_optimal_breaks spH_len (fun fa cdv A outer st H vs Q E hr h => ?_)
  obtain ⟨a, g, gv, s, args, rfl, hA, o, hv, hvg, hsh, hnn, k⟩ := h
  obtain ⟨m, rfl⟩ := args1 hsh hnn rfl
  obtain ⟨dx, b, h1, h2, h3, h4⟩ := hA.ex
  have hst := st16 s m
  have hG := o.len
  refine ⟨_, pss_cons (ps_set (i := 2) sc_use_optimal_breaks.nd rfl (Or.inl rfl) (pe_cl c_refusal_of hr (by decide) rfl (pa_cons (pv 0) (pa_cons (pe_ix ix_list (pv 1) (pe_int) (fun _ _ => rfl)) (pa_nil)))))
      (pss_cons (ps_if (pt_cmpR (op_neD hr.units) (pv 2) (pe_lst (pa_nil)) (nomark _)) (pss_one (ps_ret (pv 2))) (pss_nil))
      (pss_cons (ps_fld (pv 0) (pe_cl c_least_breaks hr (by decide) rfl (pa_cons (pe_fld (pv 0) rfl) (pa_cons (pe_fld (pv 0) rfl) (pa_cons (pe_ix ix_list (pv 1) (pe_int) (fun _ _ => rfl)) (pa_nil))))) rfl)
      (pss_one (ps_ret (pe_lst (pa_cons (pe_cl c_least_effort hr (by decide) rfl (pa_cons (pe_fld (pv 0) rfl) (pa_cons (pe_fld (pv 0) rfl) (pa_cons (pe_ix ix_list (pv 1) (pe_int) (fun _ _ => rfl)) (pa_nil))))) (pa_nil))))))), ?_⟩
  refine q_asgL (el_call1 (vs := [.ref a, .int (m : Int)]) (ea_cons (ev_var rfl) (ea_cons (ev_giv0 (ev_var rfl) hv rfl) ea_nil)) (fun H3 e3 Q1 q1 E1 => ⟨a, g, s, m, rfl, hA.mono e3, o, q1⟩)) fun r H1 hr1 e1 hR => ?_
  by_cases c1 : s.growth.length < m
  · rw [if_pos c1] at hst hR
    exact q_when (b := true) (et_ne1 (by decide) (ev_var rfl) hR) (fun _ H2 e2 => s_ret (ev_var rfl) fun H3 e3 => k.pure hA o hst (by decide) hr1 ((e1.trans e2).trans e3) (e3 _ _ (e2 _ _ hR))) (fun z => nomatch z)
  · rw [if_neg c1] at hst hR
    by_cases c2 : Z s m 0 = -1
    · rw [if_pos c2] at hR
      rw [zo_eq_none c2] at hst
      exact q_when (b := true) (et_ne1 (by decide) (ev_var rfl) hR) (fun _ H2 e2 => s_ret (ev_var rfl) fun H3 e3 => k.pure hA o hst (by decide) hr1 ((e1.trans e2).trans e3) (e3 _ _ (e2 _ _ hR))) (fun z => nomatch z)
    · rw [if_neg c2] at hR
      obtain ⟨v, ds, ho, hZ⟩ := Z_some c2
      rw [ho] at hst
      refine q_when (b := false) (et_ne0 (ev_var rfl) hR) (fun z => nomatch z) (fun _ H2 e2 => ?_)
      have e12 := e1.trans e2
      refine q_fldL (xs := nz ds) (el_call1 (vs := [.ref g, .int (s.maxThickness : Int), .int (m : Int)]) (ea_cons (ev_fld (ev_var rfl) (e12 _ _ h1) T.cl T.nG sF_g) (ea_cons (ev_fld (ev_var rfl) (e12 _ _ h1) T.cl T.nM sF_m) (ea_cons (ev_giv0 (ev_var rfl) (e12 _ _ hv) rfl) ea_nil)))
        (fun H3 e3 Q1 q1 E1 => ⟨g, s, m, v, ds, rfl, sq_of (e3 _ _ (e12 _ _ h2)), o, by omega, ho, q1⟩)) (ev_var rfl) (e12 _ _ h1) T.cl T.nB (by show 4 < 1000; decide) fun f H3 hf e3 hF => ?_
      rw [sF_pb]
      have e13 := e12.trans e3
      have hga : g ≠ a := ne_of h2 h1 (by intro z; cases z)
      have hva : gv ≠ a := ne_of hv h1 (by intro z; cases z)
      have hfa : f ≠ a := (ne_of_none (e12 _ _ h1) hf).symm
      have hA4 : SAt C (upd H3 a (.ins C dx (sF g s.tripCost s.maxThickness f))) a g { s with breaks := ds } := ⟨dx, f, upd_same, by rw [upd_ne hga]; exact e13 _ _ h2, by rw [upd_ne hfa]; exact hF, ne_of_none (e12 _ _ h2) hf⟩
      have hv4 : (upd H3 a (.ins C dx (sF g s.tripCost s.maxThickness f))) gv = some (.lst (vz [(m : Int)])) := by rw [upd_ne hva]; exact e13 _ _ hv
      have hg4 : (upd H3 a (.ins C dx (sF g s.tripCost s.maxThickness f))) g = some (.lst (nz s.growth)) := by rw [upd_ne hga]; exact e13 _ _ h2
      refine s_retL (xs := [.int (v : Int)]) (el_lst (ea_cons (ev_is (ev_call1 (vs := [.ref g, .int (s.maxThickness : Int), .int (m : Int)]) (z := .int (Z s m 0)) (ea_cons (ev_fld (ev_var rfl) upd_same T.cl T.nG sF_g) (ea_cons (ev_fld (ev_var rfl) upd_same T.cl T.nM sF_m) (ea_cons (ev_giv0 (ev_var rfl) hv4 rfl) ea_nil)))
        (fun H4 e4 Q1 q1 E1 => ⟨g, s, m, rfl, sq_of (e4 _ _ hg4), o, by omega, q1⟩)) (by rw [hZ])) ea_nil) (by show 1 ≤ 100000; decide)) fun p H5 hp e5 hq => ?_
      have hpa : p ≠ a := by
        intro z
        rw [z, upd_same] at hp
        cases hp
      rw [upd_ne hpa] at hp
      exact k H5 p g _ _ hst (o.opt ho) (by show 1 ≤ 16; decide) (hA4.mono e5) (((Chg1.pre e13 chg1_upd).post e5).chg) (.inl rfl) (fresh_back e13 hp) hq
theorem k_saving_of_break (T : Txt K mg C SZ) (D : Df K mg "saving_of_break" s_saving_of_break ["season", "given"]) (m_day_count : Mt P w K mg base 1 C "day_count" (sp_day_count C)) (c_least_effort : Cl P w K mg base 7 "least_effort" (sp_least_effort K)) : Cl P w K mg base 8 "saving_of_break" (spH C 18) := by
  refine D.cl sc_saving_of_break spH_len (fun fa cdv A outer st H vs Q E hr h => ?_)
  obtain ⟨a, g, gv, s, args, rfl, hA, o, hv, hvg, hsh, hnn, k⟩ := h
  obtain ⟨m, rfl⟩ := args1 hsh hnn rfl
  obtain ⟨dx, b, h1, h2, h3, h4⟩ := hA.ex
  have hst := st18 s m
  have hG := o.len
  have ou : Ok (Km562.unlimited s) := ⟨o.len, o.gr, o.tc, by show 999 ≤ 999; omega, o.asc, o.inn⟩
  refine ⟨_, pss_cons (ps_if (pt_not (pt_chain op_le op_le (pe_int) (pe_ix ix_list (pv 1) (pe_int) (fun _ _ => rfl)) (pe_mt0 m_day_count hr (by decide) (pv 0)))) (pss_one (ps_ret (pe_lst (pa_cons (C8.pe_gc rfl T.g_OUT_OF_RANGE) (pa_nil))))) (pss_nil))
      (pss_cons (ps_set (i := 2) sc_saving_of_break.nd rfl (Or.inl rfl) (pe_cl c_least_effort hr (by decide) rfl (pa_cons (pe_fld (pv 0) rfl) (pa_cons (C8.pe_gc rfl T.g_MOST_THICKNESS) (pa_cons (pe_op op_sub (pe_ix ix_list (pv 1) (pe_int) (fun _ _ => rfl)) (pe_int)) (pa_nil))))))
      (pss_one (ps_ret (pe_lst (pa_cons (pe_op op_sub (pv 2) (pe_cl c_least_effort hr (by decide) rfl (pa_cons (pe_fld (pv 0) rfl) (pa_cons (C8.pe_gc rfl T.g_MOST_THICKNESS) (pa_cons (pe_ix ix_list (pv 1) (pe_int) (fun _ _ => rfl)) (pa_nil)))))) (pa_nil)))))), ?_⟩
  refine q_when (b := !(decide ((2 : Int) ≤ m) && decide ((m : Int) ≤ s.growth.length))) (et_not (et_chain ev_c (ev_giv0 (ev_var rfl) hv rfl) (ev_days (ev_var rfl) hA))) (fun hb H1 e1 => ?_) (fun hb H1 e1 => ?_)
  · have hb' : m < 2 ∨ s.growth.length < m := by
      rw [Bool.not_eq_true', Bool.and_eq_false_iff] at hb
      rcases hb with q | q
      · left; have := of_decide_eq_false q; omega
      · right; have := of_decide_eq_false q; omega
    rw [if_pos hb'] at hst
    exact s_retL (el_lst (by walk_at "ev") (by show 1 ≤ 100000; decide)) fun p H3 hp e3 hq => k.pure hA o hst (by decide) (fresh_back e1 hp) (e1.trans e3) hq
  · rw [Bool.not_eq_false', Bool.and_eq_true_iff] at hb
    have b1 := of_decide_eq_true hb.1
    have b2 := of_decide_eq_true hb.2
    rw [if_neg (by omega)] at hst
    refine q_asg (v := .int (Z (Km562.unlimited s) (m - 1) 0)) (ev_call1 (vs := [.ref g, .int 999, .int ((m : Int) - 1)]) (ea_cons (ev_fld (ev_var rfl) (e1 _ _ h1) T.cl T.nG sF_g) (ea_cons ev_c (ea_cons (ev_op (ev_giv0 (ev_var rfl) (e1 _ _ hv) rfl) ev_c rv_I0) ea_nil)))
      (fun H4 e4 Q1 q1 E1 => ⟨g, Km562.unlimited s, m - 1, by rw [show (m : Int) - 1 = ((m - 1 : Nat) : Int) by omega]; rfl, sq_of (e4 _ _ (e1 _ _ h2)), ou, by omega, q1⟩)) fun H2 e2 => ?_
    have e12 := e1.trans e2
    refine s_retL (xs := [.int ((Km562.saving s m : Nat) : Int)]) (el_lst (ea_cons (ev_is (ev_op (ev_var rfl) (ev_call1 (vs := [.ref g, .int 999, .int (m : Int)]) (z := .int (Z (Km562.unlimited s) m 0)) (ea_cons (ev_fld (ev_var rfl) (e12 _ _ h1) T.cl T.nG sF_g) (ea_cons ev_c (ea_cons (ev_giv0 (ev_var rfl) (e12 _ _ hv) rfl) ea_nil)))
      (fun H4 e4 Q1 q1 E1 => ⟨g, Km562.unlimited s, m, rfl, sq_of (e4 _ _ (e12 _ _ h2)), ou, by omega, q1⟩)) rv_I0) (by rw [saving_eq o (by omega) (by omega)])) ea_nil) (by show 1 ≤ 100000; decide)) fun p H3 hp e3 hq => k.pure hA o hst (by show 1 ≤ 16; decide) (fresh_back e12 hp) (e12.trans e3) hq
theorem k_min_break_count (T : Txt K mg C SZ) (D : Df K mg "min_break_count" s_min_break_count ["season", "given"]) (c_least_number : Cl P w K mg base 7 "least_number" (sp_least_number K)) : Cl P w K mg base 8 "min_break_count" (spH C 19) := by
  refine D.cl sc_min_break_count spH_len (fun fa cdv A outer st H vs Q E hr h => ?_)
  obtain ⟨a, g, gv, s, args, rfl, hA, o, hv, hvg, hsh, hnn, k⟩ := h
  obtain rfl := args0 hsh rfl
  obtain ⟨dx, b, h1, h2, h3, h4⟩ := hA.ex
  have hst := st19 s
  refine ⟨_, pss_cons (ps_set (i := 2) sc_min_break_count.nd rfl (Or.inl rfl) (pe_cl c_least_number hr (by decide) rfl (pa_cons (pe_fld (pv 0) rfl) (pa_cons (pe_fld (pv 0) rfl) (pa_nil)))))
      (pss_one (ps_ret (pe_ifExp (pt_cmpR op_eq (pv 2) (C8.pe_gc rfl T.g_UNDEFINED) (nomark _)) (pe_lst (pa_cons (C8.pe_gc rfl T.g_NOT_VALID) (pa_nil))) (pe_lst (pa_cons (pv 2) (pa_nil)))))), ?_⟩
  refine q_asg (v := .int (mn s)) (ev_call1 (vs := [.ref g, .int (s.maxThickness : Int)]) (ea_cons (ev_fld (ev_var rfl) h1 T.cl T.nG sF_g) (ea_cons (ev_fld (ev_var rfl) h1 T.cl T.nM sF_m) ea_nil)) (fun H4 e4 Q1 q1 E1 => ⟨g, s, rfl, sq_of (e4 _ _ h2), o, q1⟩)) fun H1 e1 => ?_
  unfold mn
  cases e : (List.range (s.growth.length + 1)).find? fun k => (Km562.optimal s k).isSome with
  | none =>
    rw [e] at hst
    exact s_retL (el_if (b := true) (et_is (et_test (ev_op (ev_var rfl) ev_c (rv_eq rfl))) rfl) (fun _ => el_lst (by walk_at "ev") (by show 1 ≤ 100000; decide)) (fun z => nomatch z)) fun p H3 hp e3 hq => k.pure hA o hst (by decide) (fresh_back e1 hp) (e1.trans e3) hq
  | some n =>
    rw [e] at hst
    exact s_retL (el_if (b := false) (et_is (et_test (ev_op (ev_var rfl) ev_c (rv_eq rfl))) (decide_eq_false (fun z => by have z2 : ((n : Nat) : Int) = -1 := V.int.inj z; omega))) (fun z => nomatch z) (fun _ => el_lst (by walk_at "ev") (by show 1 ≤ 100000; decide))) fun p H3 hp e3 hq => k.pure hA o hst (by show 1 ≤ 16; decide) (fresh_back e1 hp) (e1.trans e3) hq
theorem k_cheapest_break_count (T : Txt K mg C SZ) (D : Df K mg "cheapest_break_count" s_cheapest_break_count ["season", "given"]) (c_cheapest_answer : Cl P w K mg base 8 "cheapest_answer" (sp_cheapest_answer K)) : Cl P w K mg base 9 "cheapest_break_count" (spH C 20) := by
  refine D.cl sc_cheapest_break_count spH_len (fun fa cdv A outer st H vs Q E hr h => ?_)
  obtain ⟨a, g, gv, s, args, rfl, hA, o, hv, hvg, hsh, hnn, k⟩ := h
  obtain rfl := args0 hsh rfl
  obtain ⟨dx, b, h1, h2, h3, h4⟩ := hA.ex
  have hst := st20 s
  refine ⟨_, pss_one (ps_ret (pe_cl c_cheapest_answer hr (by decide) rfl (pa_cons (pe_fld (pv 0) rfl) (pa_cons (pe_fld (pv 0) rfl) (pa_cons (pe_fld (pv 0) rfl) (pa_nil)))))), ?_⟩
  exact s_retL (xs := vz (chp s)) (el_call1 (vs := [.ref g, .int (s.maxThickness : Int), .int (s.tripCost : Int)]) (ea_cons (ev_fld (ev_var rfl) h1 T.cl T.nG sF_g) (ea_cons (ev_fld (ev_var rfl) h1 T.cl T.nM sF_m) (ea_cons (ev_fld (ev_var rfl) h1 T.cl T.nT sF_t) ea_nil))) (fun H4 e4 Q1 q1 E1 => ⟨g, s, rfl, sq_of (e4 _ _ h2), o, by rw [← chp_vz]; exact q1⟩)) fun p H3 hp e3 hq => k.pure hA o hst (chp_len s) hp e3 hq
theorem k_use_cheapest_breaks (T : Txt K mg C SZ) (D : Df K mg "use_cheapest_breaks" s_use_cheapest_breaks ["season", "given"]) (c_cheapest : Cl P w K mg base 7 "cheapest" (sp_cheapest K)) (c_least_breaks : Cl P w K mg base 7 "least_breaks" (sp_least_breaks K)) : Cl P w K mg base 8 "use_cheapest_breaks" (spH C 21) := by
  refine D.cl sc_use_cheapest_breaks spH_len (fun fa cdv A outer st H vs Q E hr h => ?_)
  obtain ⟨a, g, gv, s, args, rfl, hA, o, hv, hvg, hsh, hnn, k⟩ := h
  obtain rfl := args0 hsh rfl
  obtain ⟨dx, b, h1, h2, h3, h4⟩ := hA.ex
  have hst := st21 s
  have hG := o.len
  refine ⟨_, pss_cons (ps_asg (pe_cl c_cheapest hr (by decide) rfl (pa_cons (pe_fld (pv 0) rfl) (pa_cons (pe_fld (pv 0) rfl) (pa_cons (pe_fld (pv 0) rfl) (pa_nil))))) (pg_tup rfl (pgs_cons (pg_name (i := 2) sc_use_cheapest_breaks.nd rfl (Or.inl rfl)) (pgs_cons (pg_name (i := 3) sc_use_cheapest_breaks.nd rfl (Or.inl rfl)) (pgs_nil)))))
      (pss_cons (ps_if (pt_cmpR op_eq (pv 2) (C8.pe_gc rfl T.g_UNDEFINED) (nomark _)) (pss_one (ps_ret (pe_lst (pa_cons (C8.pe_gc rfl T.g_NOT_VALID) (pa_nil))))) (pss_nil))
      (pss_cons (ps_fld (pv 0) (pe_cl c_least_breaks hr (by decide) rfl (pa_cons (pe_fld (pv 0) rfl) (pa_cons (pe_fld (pv 0) rfl) (pa_cons (pv 2) (pa_nil))))) rfl)
      (pss_one (ps_ret (pe_lst (pa_cons (pv 3) (pa_nil))))))), ?_⟩
  have hargs : EvA (tCons (tFld K (tVar 0) "growth") (tCons (tFld K (tVar 0) "max_thickness") (tCons (tFld K (tVar 0) "trip_cost") tNil))) (start ["season", "given", "number", "cost"] [V.ref a, V.ref gv]) H [.ref g, .int (s.maxThickness : Int), .int (s.tripCost : Int)] :=
    ea_cons (ev_fld (ev_var rfl) h1 T.cl T.nG sF_g) (ea_cons (ev_fld (ev_var rfl) h1 T.cl T.nM sF_m) (ea_cons (ev_fld (ev_var rfl) h1 T.cl T.nT sF_t) ea_nil))
  refine q_callT hargs fun H1 e1 => ⟨g, s, rfl, sq_of (e1 _ _ h2), o, fun q H2 hq2 e2 hq => ⟨q, _, rfl, st_of hq, rfl, _, _, rfl, _, _, rfl, rfl, ?_⟩⟩
  have e12 := e1.trans e2
  cases e : Km562.cheapest s with
  | none =>
    rw [e] at hst
    exact q_when (b := true) (et_is (et_test (ev_op (ev_var rfl) ev_c (rv_eq rfl))) rfl) (fun _ H3 e3 => s_retL (el_lst (by walk_at "ev") (by show 1 ≤ 100000; decide)) fun p H4 hp e4 hp2 => k.pure hA o hst (by decide) (fresh_back (e12.trans e3) hp) ((e12.trans e3).trans e4) hp2) (fun z => nomatch z)
  | some r =>
    rw [e] at hst
    obtain ⟨n, c⟩ := r
    have cbs := cb_some (show cb s (s.growth.length + 1) = some (n, c) from e)
    obtain ⟨hn, v, ds, ho, hc⟩ := cbs
    have hds : ((Km562.optimalFrom s n 0).map fun r => r.2).getD [] = ds := by rw [ho]; rfl
    have hst' : Km562Neutral.step (some s) [[21]] = (some { s with breaks := ds }, [(c : Int)]) := by
      rw [hst]
      rw [← hds]
    refine q_when (b := false) (et_is (et_test (ev_op (ev_var rfl) ev_c (rv_eq rfl))) (decide_eq_false (fun z => by have z2 : ((n : Nat) : Int) = -1 := V.int.inj z; omega))) (fun z => nomatch z) (fun _ H3 e3 => ?_)
    have e13 := e12.trans e3
    refine q_fldL (xs := nz ds) (el_call1 (vs := [.ref g, .int (s.maxThickness : Int), .int (n : Int)]) (ea_cons (ev_fld (ev_var rfl) (e13 _ _ h1) T.cl T.nG sF_g) (ea_cons (ev_fld (ev_var rfl) (e13 _ _ h1) T.cl T.nM sF_m) (ea_cons (ev_var rfl) ea_nil)))
      (fun H4 e4 Q1 q1 E1 => ⟨g, s, n, v, ds, rfl, sq_of (e4 _ _ (e13 _ _ h2)), o, by omega, ho, q1⟩)) (ev_var rfl) (e13 _ _ h1) T.cl T.nB (by show 4 < 1000; decide) fun f H4 hf e4 hF => ?_
    rw [sF_pb]
    have e14 := e13.trans e4
    have hga : g ≠ a := ne_of h2 h1 (by intro z; cases z)
    have hfa : f ≠ a := (ne_of_none (e13 _ _ h1) hf).symm
    have hA4 : SAt C (upd H4 a (.ins C dx (sF g s.tripCost s.maxThickness f))) a g { s with breaks := ds } := ⟨dx, f, upd_same, by rw [upd_ne hga]; exact e14 _ _ h2, by rw [upd_ne hfa]; exact hF, ne_of_none (e13 _ _ h2) hf⟩
    refine s_retL (xs := [.int (c : Int)]) (el_lst (ea_cons (ev_var rfl) ea_nil) (by show 1 ≤ 100000; decide)) fun p H5 hp e5 hq => ?_
    have hpa : p ≠ a := by
      intro z
      rw [z, upd_same] at hp
      cases hp
    rw [upd_ne hpa] at hp
    exact k H5 p g _ _ hst' (o.opt ho) (by show 1 ≤ 16; decide) (hA4.mono e5) (((Chg1.pre e14 chg1_upd).post e5).chg) (.inl rfl) (fresh_back e14 hp) hq
theorem k_cheapest_with_growth (T : Txt K mg C SZ) (D : Df K mg "cheapest_with_growth" s_cheapest_with_growth ["season", "given"]) (m_has_day : Mt P w K mg base 1 C "has_day" (sp_has_day C)) (m_growth_with : Mt P w K mg base 1 C "growth_with" (sp_growth_with C)) (c_cheapest_answer : Cl P w K mg base 8 "cheapest_answer" (sp_cheapest_answer K)) : Cl P w K mg base 9 "cheapest_with_growth" (spH C 22) := by
  refine D.cl sc_cheapest_with_growth spH_len (fun fa cdv A outer st H vs Q E hr h => ?_)
  obtain ⟨a, g, gv, s, args, rfl, hA, o, hv, hvg, hsh, hnn, k⟩ := h
  obtain ⟨d, n, rfl⟩ := args2 hsh hnn rfl
  obtain ⟨dx, b, h1, h2, h3, h4⟩ := hA.ex
  have hst := st22 s d n
  refine ⟨_, pss_cons (ps_if (pt_not (pt_val (pe_mt m_has_day hr (by decide) (pv 0) (pa_cons (pe_ix ix_list (pv 1) (pe_int) (fun _ _ => rfl)) (pa_nil))))) (pss_one (ps_ret (pe_lst (pa_cons (C8.pe_gc rfl T.g_NO_DAY) (pa_nil))))) (pss_nil))
      (pss_cons (ps_if (pt_cmpR op_gt (pe_ix ix_list (pv 1) (pe_int) (fun _ _ => rfl)) (C8.pe_gc rfl T.g_MOST_GROWTH) (nomark _)) (pss_one (ps_ret (pe_lst (pa_cons (C8.pe_gc rfl T.g_OUT_OF_RANGE) (pa_nil))))) (pss_nil))
      (pss_one (ps_ret (pe_cl c_cheapest_answer hr (by decide) rfl (pa_cons (pe_mt m_growth_with hr (by decide) (pv 0) (pa_cons (pe_ix ix_list (pv 1) (pe_int) (fun _ _ => rfl)) (pa_cons (pe_ix ix_list (pv 1) (pe_int) (fun _ _ => rfl)) (pa_nil)))) (pa_cons (pe_fld (pv 0) rfl) (pa_cons (pe_fld (pv 0) rfl) (pa_nil)))))))), ?_⟩
  refine q_when (b := !decide (d < s.growth.length)) (et_not (et_has (ev_var rfl) hA (ev_giv0 (ev_var rfl) hv rfl))) (fun hb H1 e1 => ?_) (fun hb H1 e1 => ?_)
  · have hb' : ¬ d < s.growth.length := by simpa using hb
    rw [if_pos (by omega)] at hst
    exact s_retL (el_lst (by walk_at "ev") (by show 1 ≤ 100000; decide)) fun p H2 hp e2 hq => k.pure hA o hst (by decide) (fresh_back e1 hp) (e1.trans e2) hq
  · have hb' : d < s.growth.length := by simpa using hb
    rw [if_neg (by omega)] at hst
    refine q_when (b := decide ((30 : Int) < n)) (et_test (ev_op (ev_giv1 (ev_var rfl) (e1 _ _ hv) rfl) ev_c rv_I0)) (fun hc H2 e2 => ?_) (fun hc H2 e2 => ?_)
    · have hc' := of_decide_eq_true hc
      rw [if_pos (by omega)] at hst
      exact s_retL (el_lst (by walk_at "ev") (by show 1 ≤ 100000; decide)) fun p H3 hp e3 hq => k.pure hA o hst (by decide) (fresh_back (e1.trans e2) hp) ((e1.trans e2).trans e3) hq
    · have hc' := of_decide_eq_false hc
      rw [if_neg (by omega)] at hst
      have e12 := e1.trans e2
      have o2 : Ok { s with growth := s.growth.set d n } := o.setG (by omega)
      exact s_retL (xs := vz (chp { s with growth := s.growth.set d n })) (el_callL (vs := [.int (s.maxThickness : Int), .int (s.tripCost : Int)]) (xs := nz (s.growth.set d n)) (el_meth (vs := [.int (d : Int), .int (n : Int)]) (dvs := []) (ev_var rfl) (e12 _ _ h1) sF_with (ea_cons (ev_giv0 (ev_var rfl) (e12 _ _ hv) rfl) (ea_cons (ev_giv1 (ev_var rfl) (e12 _ _ hv) rfl) ea_nil)) (fun H4 e4 Q1 q1 E1 => ⟨a, g, s, d, n, rfl, hA.mono (e12.trans e4), hb', q1⟩))
        (fun H3 e3 => ea_cons (ev_fld (ev_var rfl) (e3 _ _ (e12 _ _ h1)) T.cl T.nM sF_m) (ea_cons (ev_fld (ev_var rfl) (e3 _ _ (e12 _ _ h1)) T.cl T.nT sF_t) ea_nil))
        (fun p H3 hp e3 Q1 q1 E1 => ⟨p, { s with growth := s.growth.set d n }, rfl, sq_of hp, o2, by rw [← chp_vz]; exact q1⟩)) fun p H3 hp e3 hq => k.pure hA o hst (chp_len _) (fresh_back e12 hp) (e12.trans e3) hq
theorem k_cheapest_with_max_thickness (T : Txt K mg C SZ) (D : Df K mg "cheapest_with_max_thickness" s_cheapest_with_max_thickness ["season", "given"]) (c_cheapest_answer : Cl P w K mg base 8 "cheapest_answer" (sp_cheapest_answer K)) : Cl P w K mg base 9 "cheapest_with_max_thickness" (spH C 23) := by
  refine D.cl sc_cheapest_with_max_thickness spH_len (fun fa cdv A outer st H vs Q E hr h => ?_)
  obtain ⟨a, g, gv, s, args, rfl, hA, o, hv, hvg, hsh, hnn, k⟩ := h
  obtain ⟨n, rfl⟩ := args1 hsh hnn rfl
  obtain ⟨dx, b, h1, h2, h3, h4⟩ := hA.ex
  have hst := st23 s n
  refine ⟨_, pss_cons (ps_if (pt_cmpR op_gt (pe_ix ix_list (pv 1) (pe_int) (fun _ _ => rfl)) (C8.pe_gc rfl T.g_MOST_THICKNESS) (nomark _)) (pss_one (ps_ret (pe_lst (pa_cons (C8.pe_gc rfl T.g_OUT_OF_RANGE) (pa_nil))))) (pss_nil))
      (pss_one (ps_ret (pe_cl c_cheapest_answer hr (by decide) rfl (pa_cons (pe_fld (pv 0) rfl) (pa_cons (pe_ix ix_list (pv 1) (pe_int) (fun _ _ => rfl)) (pa_cons (pe_fld (pv 0) rfl) (pa_nil))))))), ?_⟩
  refine q_when (b := decide ((999 : Int) < n)) (et_test (ev_op (ev_giv0 (ev_var rfl) hv rfl) ev_c rv_I0)) (fun hb H1 e1 => ?_) (fun hb H1 e1 => ?_)
  · have hb' := of_decide_eq_true hb
    rw [if_pos (by omega)] at hst
    exact s_retL (el_lst (by walk_at "ev") (by show 1 ≤ 100000; decide)) fun p H2 hp e2 hq => k.pure hA o hst (by decide) (fresh_back e1 hp) (e1.trans e2) hq
  · have hb' := of_decide_eq_false hb
    rw [if_neg (by omega)] at hst
    have o2 : Ok { s with maxThickness := n } := o.setM (by omega)
    exact s_retL (xs := vz (chp { s with maxThickness := n })) (el_call1 (vs := [.ref g, .int (n : Int), .int (s.tripCost : Int)]) (ea_cons (ev_fld (ev_var rfl) (e1 _ _ h1) T.cl T.nG sF_g) (ea_cons (ev_giv0 (ev_var rfl) (e1 _ _ hv) rfl) (ea_cons (ev_fld (ev_var rfl) (e1 _ _ h1) T.cl T.nT sF_t) ea_nil)))
      (fun H4 e4 Q1 q1 E1 => ⟨g, { s with maxThickness := n }, rfl, sq_of (e4 _ _ (e1 _ _ h2)), o2, by rw [← chp_vz]; exact q1⟩)) fun p H3 hp e3 hq => k.pure hA o hst (chp_len _) (fresh_back e1 hp) (e1.trans e3) hq
theorem k_balanced_effort (T : Txt K mg C SZ) (D : Df K mg "balanced_effort" s_balanced_effort ["season", "given"]) (m_day_count : Mt P w K mg base 1 C "day_count" (sp_day_count C)) (c_balanced : Cl P w K mg base 1 "balanced" sp_balanced) : Cl P w K mg base 2 "balanced_effort" (spH C 24) := by
  refine D.cl sc_balanced_effort spH_len (fun fa cdv A outer st H vs Q E hr h => ?_)
  obtain ⟨a, g, gv, s, args, rfl, hA, o, hv, hvg, hsh, hnn, k⟩ := h
  obtain ⟨m, rfl⟩ := args1 hsh hnn rfl
  obtain ⟨dx, b, h1, h2, h3, h4⟩ := hA.ex
  have hst := st24 s m
  have hG := o.len
  refine ⟨_, pss_cons (ps_if (pt_not (pt_chain op_le op_le (pe_int) (pe_ix ix_list (pv 1) (pe_int) (fun _ _ => rfl)) (pe_mt0 m_day_count hr (by decide) (pv 0)))) (pss_one (ps_ret (pe_lst (pa_cons (C8.pe_gc rfl T.g_OUT_OF_RANGE) (pa_nil))))) (pss_nil))
      (pss_one (ps_ret (pe_lst (pa_cons (pe_cl c_balanced hr (by decide) rfl (pa_cons (pe_mt0 m_day_count hr (by decide) (pv 0)) (pa_cons (pe_ix ix_list (pv 1) (pe_int) (fun _ _ => rfl)) (pa_nil)))) (pa_nil))))), ?_⟩
  refine q_when (b := !(decide ((1 : Int) ≤ m) && decide ((m : Int) ≤ s.growth.length))) (et_not (et_chain ev_c (ev_giv0 (ev_var rfl) hv rfl) (ev_days (ev_var rfl) hA))) (fun hb H1 e1 => ?_) (fun hb H1 e1 => ?_)
  · have hb' : m = 0 ∨ s.growth.length < m := by
      rw [Bool.not_eq_true', Bool.and_eq_false_iff] at hb
      rcases hb with q | q
      · left; have := of_decide_eq_false q; omega
      · right; have := of_decide_eq_false q; omega
    rw [if_pos hb'] at hst
    exact s_retL (el_lst (by walk_at "ev") (by show 1 ≤ 100000; decide)) fun p H3 hp e3 hq => k.pure hA o hst (by decide) (fresh_back e1 hp) (e1.trans e3) hq
  · rw [Bool.not_eq_false', Bool.and_eq_true_iff] at hb
    have b1 := of_decide_eq_true hb.1
    have b2 := of_decide_eq_true hb.2
    rw [if_neg (by omega)] at hst
    exact s_retL (xs := [.int ((Km562.balancedSquares s.growth.length m : Nat) : Int)]) (el_lst (ea_cons (ev_call1 (vs := [.int (s.growth.length : Int), .int (m : Int)]) (ea_cons (ev_days (ev_var rfl) (hA.mono e1)) (ea_cons (ev_giv0 (ev_var rfl) (e1 _ _ hv) rfl) ea_nil)) (fun H4 e4 Q1 q1 E1 => ⟨s.growth.length, m, rfl, hG, by omega, by omega, q1⟩)) ea_nil) (by show 1 ≤ 100000; decide)) fun p H3 hp e3 hq => k.pure hA o hst (by show 1 ≤ 16; decide) (fresh_back e1 hp) (e1.trans e3) hq
end
end Ib
/-! ### the calls told apart; the request split; the answers -/
namespace Ib
open PySem PySem.Spec PyProof.Rows L2 Evl
open Km562 (Schedule)
local macro_rules | `(tactic| walk_at "ev") => `(tactic| repeat' (first
  | exact ev_c | exact ev_var rfl | exact ea_nil | apply ea_cons | apply ev_op | exact rv_I0 | apply et_test | exact rv_eq rfl | exact rv_ne rfl | refine el_lst ?_ (by decide) | refine ev_un ?_ ru_neg))
/-- a call on a season, its number between lo and hi -/
def spD (C : Addr) (lo hi : Int) : Sp := fun vs H Q _ => ∃ (a g gv : Addr) (s : Schedule) (i : Int) (args : List Int), vs = [.ref a, .int i, .ref gv] ∧ lo ≤ i ∧ i ≤ hi ∧ SAt C H a g s ∧ Ok s ∧ H gv = some (.lst (vz args)) ∧ gv ≠ g ∧ PyKm562.shape i = some (args.length, 0) ∧ (∀ x ∈ args, 0 ≤ x) ∧ RetH C i a g s args H Q
/-- .. or on none -/
def spA (C : Addr) : Sp := fun vs H Q E => (∃ (i : Int) (gv : Addr), vs = [.non, .int i, .ref gv] ∧ RetL [.int (-11)] H Q) ∨ spD C 1 26 vs H Q E
theorem ifT {c : Bool} {A B : Prop} (hc : c = true) (h : A) : if c = true then A else B := by
  rw [if_pos hc]
  exact h
theorem ifF {c : Bool} {A B : Prop} (hc : c = false) (h : B) : if c = true then A else B := by
  rw [hc, if_neg Bool.false_ne_true]
  exact h
section
variable {σ : L2.St} {H : Hp} {i j : Int} {x0 x2 : V} {sp : Sp} {D : Ends} {tz : TS}
theorem q_disp (h0 : σ[0]? = some (some x0)) (h1 : σ[1]? = some (some (.int i))) (h2 : σ[2]? = some (some x2)) (hy : i = j → sp [x0, x2] H D.rt E0) (hn : i ≠ j → tz D σ H) :
    tSeq (tIfS (tTest (tOp rEq (tVar 1) (tC (.int j)))) (tRet (tCall sp [] E0 (tCons (tVar 0) (tCons (tVar 2) tNil)))) tNext) tz D σ H := by
  refine ⟨.int i, h1, rfl, _, rfl, ?_⟩
  by_cases e : i = j
  · exact ifT (decide_eq_true (by rw [e])) ⟨x0, h0, x2, h2, hy e⟩
  · exact ifF (decide_eq_false (fun z => e (V.int.inj z))) (hn e)
end
section
variable {P : Program} {w : World} {K : PySem.W.Frag} {mg : Str → Option Value} {base : Heap} {C SZ : Addr}
theorem k_answer_first (T : Txt K mg C SZ) (D : Df K mg "answer_first" s_answer_first ["season", "number", "given"]) (c_add_day : Cl P w K mg base 2 "add_day" (spH C 1)) (c_remove_last_day : Cl P w K mg base 2 "remove_last_day" (spH C 2)) (c_set_growth : Cl P w K mg base 2 "set_growth" (spH C 3)) (c_set_trip_cost : Cl P w K mg base 1 "set_trip_cost" (spH C 4)) (c_set_max_thickness : Cl P w K mg base 1 "set_max_thickness" (spH C 5)) (c_list_growth : Cl P w K mg base 2 "list_growth" (spH C 6)) (c_thickness_between : Cl P w K mg base 3 "thickness_between" (spH C 7)) (c_add_break : Cl P w K mg base 3 "add_break" (spH C 8)) (c_remove_break : Cl P w K mg base 2 "remove_break" (spH C 9)) : Cl P w K mg base 4 "answer_first" (spD C 1 9) := by
  refine D.cl sc_answer_first (fun vs H Q E h => ?_) (fun fa cdv A outer st H vs Q E hr h => ?_)
  · obtain ⟨a, g, gv, s, i, args, rfl, _⟩ := h
    rfl
  · obtain ⟨a, g, gv, s, i, args, rfl, hlo, hhi, hA, o, hv, hvg, hsh, hnn, k⟩ := h
    refine ⟨_, pss_cons (ps_if (pt_cmpR op_eq (pv 1) (pe_int) (nomark _)) (pss_one (ps_ret (pe_cl c_add_day hr (by decide) rfl (pa_cons (pv 0) (pa_cons (pv 2) (pa_nil)))))) (pss_nil))
      (pss_cons (ps_if (pt_cmpR op_eq (pv 1) (pe_int) (nomark _)) (pss_one (ps_ret (pe_cl c_remove_last_day hr (by decide) rfl (pa_cons (pv 0) (pa_cons (pv 2) (pa_nil)))))) (pss_nil))
      (pss_cons (ps_if (pt_cmpR op_eq (pv 1) (pe_int) (nomark _)) (pss_one (ps_ret (pe_cl c_set_growth hr (by decide) rfl (pa_cons (pv 0) (pa_cons (pv 2) (pa_nil)))))) (pss_nil))
      (pss_cons (ps_if (pt_cmpR op_eq (pv 1) (pe_int) (nomark _)) (pss_one (ps_ret (pe_cl c_set_trip_cost hr (by decide) rfl (pa_cons (pv 0) (pa_cons (pv 2) (pa_nil)))))) (pss_nil))
      (pss_cons (ps_if (pt_cmpR op_eq (pv 1) (pe_int) (nomark _)) (pss_one (ps_ret (pe_cl c_set_max_thickness hr (by decide) rfl (pa_cons (pv 0) (pa_cons (pv 2) (pa_nil)))))) (pss_nil))
      (pss_cons (ps_if (pt_cmpR op_eq (pv 1) (pe_int) (nomark _)) (pss_one (ps_ret (pe_cl c_list_growth hr (by decide) rfl (pa_cons (pv 0) (pa_cons (pv 2) (pa_nil)))))) (pss_nil))
      (pss_cons (ps_if (pt_cmpR op_eq (pv 1) (pe_int) (nomark _)) (pss_one (ps_ret (pe_cl c_thickness_between hr (by decide) rfl (pa_cons (pv 0) (pa_cons (pv 2) (pa_nil)))))) (pss_nil))
      (pss_cons (ps_if (pt_cmpR op_eq (pv 1) (pe_int) (nomark _)) (pss_one (ps_ret (pe_cl c_add_break hr (by decide) rfl (pa_cons (pv 0) (pa_cons (pv 2) (pa_nil)))))) (pss_nil))
      (pss_one (ps_ret (pe_cl c_remove_break hr (by decide) rfl (pa_cons (pv 0) (pa_cons (pv 2) (pa_nil))))))))))))), ?_⟩
    refine q_disp rfl rfl rfl (fun e => ?_) (fun n1 => ?_)
    · subst e
      exact ⟨a, g, gv, s, args, rfl, hA, o, hv, hvg, hsh, hnn, k⟩
    refine q_disp rfl rfl rfl (fun e => ?_) (fun n2 => ?_)
    · subst e
      exact ⟨a, g, gv, s, args, rfl, hA, o, hv, hvg, hsh, hnn, k⟩
    refine q_disp rfl rfl rfl (fun e => ?_) (fun n3 => ?_)
    · subst e
      exact ⟨a, g, gv, s, args, rfl, hA, o, hv, hvg, hsh, hnn, k⟩
    refine q_disp rfl rfl rfl (fun e => ?_) (fun n4 => ?_)
    · subst e
      exact ⟨a, g, gv, s, args, rfl, hA, o, hv, hvg, hsh, hnn, k⟩
    refine q_disp rfl rfl rfl (fun e => ?_) (fun n5 => ?_)
    · subst e
      exact ⟨a, g, gv, s, args, rfl, hA, o, hv, hvg, hsh, hnn, k⟩
    refine q_disp rfl rfl rfl (fun e => ?_) (fun n6 => ?_)
    · subst e
      exact ⟨a, g, gv, s, args, rfl, hA, o, hv, hvg, hsh, hnn, k⟩
    refine q_disp rfl rfl rfl (fun e => ?_) (fun n7 => ?_)
    · subst e
      exact ⟨a, g, gv, s, args, rfl, hA, o, hv, hvg, hsh, hnn, k⟩
    refine q_disp rfl rfl rfl (fun e => ?_) (fun n8 => ?_)
    · subst e
      exact ⟨a, g, gv, s, args, rfl, hA, o, hv, hvg, hsh, hnn, k⟩
    have e : i = 9 := by omega
    subst e
    exact ⟨_, rfl, _, rfl, a, g, gv, s, args, rfl, hA, o, hv, hvg, hsh, hnn, k⟩
theorem k_answer_second (T : Txt K mg C SZ) (D : Df K mg "answer_second" s_answer_second ["season", "number", "given"]) (c_list_breaks : Cl P w K mg base 1 "list_breaks" (spH C 10)) (c_thickness_per_break : Cl P w K mg base 3 "thickness_per_break" (spH C 11)) (c_is_valid_schedule : Cl P w K mg base 4 "is_valid_schedule" (spH C 12)) (c_schedule_cost : Cl P w K mg base 4 "schedule_cost" (spH C 13)) (c_total_growth : Cl P w K mg base 1 "total_growth" (spH C 14)) (c_optimal_breaks : Cl P w K mg base 9 "optimal_breaks" (spH C 15)) (c_use_optimal_breaks : Cl P w K mg base 9 "use_optimal_breaks" (spH C 16)) (c_excess_effort : Cl P w K mg base 8 "excess_effort" (spH C 17)) (c_saving_of_break : Cl P w K mg base 8 "saving_of_break" (spH C 18)) : Cl P w K mg base 10 "answer_second" (spD C 10 18) := by
  refine D.cl sc_answer_second (fun vs H Q E h => ?_) (fun fa cdv A outer st H vs Q E hr h => ?_)
  · obtain ⟨a, g, gv, s, i, args, rfl, _⟩ := h
    rfl
  · obtain ⟨a, g, gv, s, i, args, rfl, hlo, hhi, hA, o, hv, hvg, hsh, hnn, k⟩ := h
    refine ⟨_, pss_cons (ps_if (pt_cmpR op_eq (pv 1) (pe_int) (nomark _)) (pss_one (ps_ret (pe_cl c_list_breaks hr (by decide) rfl (pa_cons (pv 0) (pa_cons (pv 2) (pa_nil)))))) (pss_nil))
      (pss_cons (ps_if (pt_cmpR op_eq (pv 1) (pe_int) (nomark _)) (pss_one (ps_ret (pe_cl c_thickness_per_break hr (by decide) rfl (pa_cons (pv 0) (pa_cons (pv 2) (pa_nil)))))) (pss_nil))
      (pss_cons (ps_if (pt_cmpR op_eq (pv 1) (pe_int) (nomark _)) (pss_one (ps_ret (pe_cl c_is_valid_schedule hr (by decide) rfl (pa_cons (pv 0) (pa_cons (pv 2) (pa_nil)))))) (pss_nil))
      (pss_cons (ps_if (pt_cmpR op_eq (pv 1) (pe_int) (nomark _)) (pss_one (ps_ret (pe_cl c_schedule_cost hr (by decide) rfl (pa_cons (pv 0) (pa_cons (pv 2) (pa_nil)))))) (pss_nil))
      (pss_cons (ps_if (pt_cmpR op_eq (pv 1) (pe_int) (nomark _)) (pss_one (ps_ret (pe_cl c_total_growth hr (by decide) rfl (pa_cons (pv 0) (pa_cons (pv 2) (pa_nil)))))) (pss_nil))
      (pss_cons (ps_if (pt_cmpR op_eq (pv 1) (pe_int) (nomark _)) (pss_one (ps_ret (pe_cl c_optimal_breaks hr (by decide) rfl (pa_cons (pv 0) (pa_cons (pv 2) (pa_nil)))))) (pss_nil))
      (pss_cons (ps_if (pt_cmpR op_eq (pv 1) (pe_int) (nomark _)) (pss_one (ps_ret (pe_cl c_use_optimal_breaks hr (by decide) rfl (pa_cons (pv 0) (pa_cons (pv 2) (pa_nil)))))) (pss_nil))
      (pss_cons (ps_if (pt_cmpR op_eq (pv 1) (pe_int) (nomark _)) (pss_one (ps_ret (pe_cl c_excess_effort hr (by decide) rfl (pa_cons (pv 0) (pa_cons (pv 2) (pa_nil)))))) (pss_nil))
      (pss_one (ps_ret (pe_cl c_saving_of_break hr (by decide) rfl (pa_cons (pv 0) (pa_cons (pv 2) (pa_nil))))))))))))), ?_⟩
    refine q_disp rfl rfl rfl (fun e => ?_) (fun n10 => ?_)
    · subst e
      exact ⟨a, g, gv, s, args, rfl, hA, o, hv, hvg, hsh, hnn, k⟩
    refine q_disp rfl rfl rfl (fun e => ?_) (fun n11 => ?_)
    · subst e
      exact ⟨a, g, gv, s, args, rfl, hA, o, hv, hvg, hsh, hnn, k⟩
    refine q_disp rfl rfl rfl (fun e => ?_) (fun n12 => ?_)
    · subst e
      exact ⟨a, g, gv, s, args, rfl, hA, o, hv, hvg, hsh, hnn, k⟩
    refine q_disp rfl rfl rfl (fun e => ?_) (fun n13 => ?_)
    · subst e
      exact ⟨a, g, gv, s, args, rfl, hA, o, hv, hvg, hsh, hnn, k⟩
    refine q_disp rfl rfl rfl (fun e => ?_) (fun n14 => ?_)
    · subst e
      exact ⟨a, g, gv, s, args, rfl, hA, o, hv, hvg, hsh, hnn, k⟩
    refine q_disp rfl rfl rfl (fun e => ?_) (fun n15 => ?_)
    · subst e
      exact ⟨a, g, gv, s, args, rfl, hA, o, hv, hvg, hsh, hnn, k⟩
    refine q_disp rfl rfl rfl (fun e => ?_) (fun n16 => ?_)
    · subst e
      exact ⟨a, g, gv, s, args, rfl, hA, o, hv, hvg, hsh, hnn, k⟩
    refine q_disp rfl rfl rfl (fun e => ?_) (fun n17 => ?_)
    · subst e
      exact ⟨a, g, gv, s, args, rfl, hA, o, hv, hvg, hsh, hnn, k⟩
    have e : i = 18 := by omega
    subst e
    exact ⟨_, rfl, _, rfl, a, g, gv, s, args, rfl, hA, o, hv, hvg, hsh, hnn, k⟩
theorem k_answer_third (T : Txt K mg C SZ) (D : Df K mg "answer_third" s_answer_third ["season", "number", "given"]) (c_min_break_count : Cl P w K mg base 8 "min_break_count" (spH C 19)) (c_cheapest_break_count : Cl P w K mg base 9 "cheapest_break_count" (spH C 20)) (c_use_cheapest_breaks : Cl P w K mg base 8 "use_cheapest_breaks" (spH C 21)) (c_cheapest_with_growth : Cl P w K mg base 9 "cheapest_with_growth" (spH C 22)) (c_cheapest_with_max_thickness : Cl P w K mg base 9 "cheapest_with_max_thickness" (spH C 23)) (c_balanced_effort : Cl P w K mg base 2 "balanced_effort" (spH C 24)) (c_thickness_at : Cl P w K mg base 3 "thickness_at" (spH C 25)) (c_summary : Cl P w K mg base 2 "summary" (spH C 26)) : Cl P w K mg base 10 "answer_third" (spD C 19 26) := by
  refine D.cl sc_answer_third (fun vs H Q E h => ?_) (fun fa cdv A outer st H vs Q E hr h => ?_)
  · obtain ⟨a, g, gv, s, i, args, rfl, _⟩ := h
    rfl
  · obtain ⟨a, g, gv, s, i, args, rfl, hlo, hhi, hA, o, hv, hvg, hsh, hnn, k⟩ := h
    refine ⟨_, pss_cons (ps_if (pt_cmpR op_eq (pv 1) (pe_int) (nomark _)) (pss_one (ps_ret (pe_cl c_min_break_count hr (by decide) rfl (pa_cons (pv 0) (pa_cons (pv 2) (pa_nil)))))) (pss_nil))
      (pss_cons (ps_if (pt_cmpR op_eq (pv 1) (pe_int) (nomark _)) (pss_one (ps_ret (pe_cl c_cheapest_break_count hr (by decide) rfl (pa_cons (pv 0) (pa_cons (pv 2) (pa_nil)))))) (pss_nil))
      (pss_cons (ps_if (pt_cmpR op_eq (pv 1) (pe_int) (nomark _)) (pss_one (ps_ret (pe_cl c_use_cheapest_breaks hr (by decide) rfl (pa_cons (pv 0) (pa_cons (pv 2) (pa_nil)))))) (pss_nil))
      (pss_cons (ps_if (pt_cmpR op_eq (pv 1) (pe_int) (nomark _)) (pss_one (ps_ret (pe_cl c_cheapest_with_growth hr (by decide) rfl (pa_cons (pv 0) (pa_cons (pv 2) (pa_nil)))))) (pss_nil))
      (pss_cons (ps_if (pt_cmpR op_eq (pv 1) (pe_int) (nomark _)) (pss_one (ps_ret (pe_cl c_cheapest_with_max_thickness hr (by decide) rfl (pa_cons (pv 0) (pa_cons (pv 2) (pa_nil)))))) (pss_nil))
      (pss_cons (ps_if (pt_cmpR op_eq (pv 1) (pe_int) (nomark _)) (pss_one (ps_ret (pe_cl c_balanced_effort hr (by decide) rfl (pa_cons (pv 0) (pa_cons (pv 2) (pa_nil)))))) (pss_nil))
      (pss_cons (ps_if (pt_cmpR op_eq (pv 1) (pe_int) (nomark _)) (pss_one (ps_ret (pe_cl c_thickness_at hr (by decide) rfl (pa_cons (pv 0) (pa_cons (pv 2) (pa_nil)))))) (pss_nil))
      (pss_one (ps_ret (pe_cl c_summary hr (by decide) rfl (pa_cons (pv 0) (pa_cons (pv 2) (pa_nil)))))))))))), ?_⟩
    refine q_disp rfl rfl rfl (fun e => ?_) (fun n19 => ?_)
    · subst e
      exact ⟨a, g, gv, s, args, rfl, hA, o, hv, hvg, hsh, hnn, k⟩
    refine q_disp rfl rfl rfl (fun e => ?_) (fun n20 => ?_)
    · subst e
      exact ⟨a, g, gv, s, args, rfl, hA, o, hv, hvg, hsh, hnn, k⟩
    refine q_disp rfl rfl rfl (fun e => ?_) (fun n21 => ?_)
    · subst e
      exact ⟨a, g, gv, s, args, rfl, hA, o, hv, hvg, hsh, hnn, k⟩
    refine q_disp rfl rfl rfl (fun e => ?_) (fun n22 => ?_)
    · subst e
      exact ⟨a, g, gv, s, args, rfl, hA, o, hv, hvg, hsh, hnn, k⟩
    refine q_disp rfl rfl rfl (fun e => ?_) (fun n23 => ?_)
    · subst e
      exact ⟨a, g, gv, s, args, rfl, hA, o, hv, hvg, hsh, hnn, k⟩
    refine q_disp rfl rfl rfl (fun e => ?_) (fun n24 => ?_)
    · subst e
      exact ⟨a, g, gv, s, args, rfl, hA, o, hv, hvg, hsh, hnn, k⟩
    refine q_disp rfl rfl rfl (fun e => ?_) (fun n25 => ?_)
    · subst e
      exact ⟨a, g, gv, s, args, rfl, hA, o, hv, hvg, hsh, hnn, k⟩
    have e : i = 26 := by omega
    subst e
    exact ⟨_, rfl, _, rfl, a, g, gv, s, args, rfl, hA, o, hv, hvg, hsh, hnn, k⟩
theorem k_answer_of (T : Txt K mg C SZ) (D : Df K mg "answer_of" s_answer_of ["season", "number", "given"]) (c_answer_first : Cl P w K mg base 4 "answer_first" (spD C 1 9)) (c_answer_second : Cl P w K mg base 10 "answer_second" (spD C 10 18)) (c_answer_third : Cl P w K mg base 10 "answer_third" (spD C 19 26)) : Cl P w K mg base 11 "answer_of" (spA C) := by
  refine D.cl sc_answer_of (fun vs H Q E h => ?_) (fun fa cdv A outer st H vs Q E hr h => ?_)
  · rcases h with ⟨i, gv, rfl, _⟩ | ⟨a, g, gv, s, i, args, rfl, _⟩ <;> rfl
  · rcases h with ⟨i, gv, rfl, k⟩ | ⟨a, g, gv, s, i, args, rfl, hlo, hhi, hA, o, hv, hvg, hsh, hnn, k⟩
    · refine ⟨_, pss_cons (ps_if (pt_cmpR op_isN (pv 0) (pe_non) (nomark _)) (pss_one (ps_ret (pe_lst (pa_cons (C8.pe_gc rfl T.g_NO_INSTANCE) (pa_nil))))) (pss_nil))
      (pss_cons (ps_if (pt_cmpR op_le (pv 1) (pe_int) (nomark _)) (pss_one (ps_ret (pe_cl c_answer_first hr (by decide) rfl (pa_cons (pv 0) (pa_cons (pv 1) (pa_cons (pv 2) (pa_nil))))))) (pss_nil))
      (pss_cons (ps_if (pt_cmpR op_le (pv 1) (pe_int) (nomark _)) (pss_one (ps_ret (pe_cl c_answer_second hr (by decide) rfl (pa_cons (pv 0) (pa_cons (pv 1) (pa_cons (pv 2) (pa_nil))))))) (pss_nil))
      (pss_one (ps_ret (pe_cl c_answer_third hr (by decide) rfl (pa_cons (pv 0) (pa_cons (pv 1) (pa_cons (pv 2) (pa_nil))))))))), ?_⟩
      refine ⟨.non, rfl, rfl, _, rfl, ?_⟩
      refine ifT (by decide) ?_
      exact s_retL (el_lst (by walk_at "ev") (by show 1 ≤ 100000; decide)) k
    · refine ⟨_, pss_cons (ps_if (pt_cmpR op_isN (pv 0) (pe_non) (nomark _)) (pss_one (ps_ret (pe_lst (pa_cons (C8.pe_gc rfl T.g_NO_INSTANCE) (pa_nil))))) (pss_nil))
      (pss_cons (ps_if (pt_cmpR op_le (pv 1) (pe_int) (nomark _)) (pss_one (ps_ret (pe_cl c_answer_first hr (by decide) rfl (pa_cons (pv 0) (pa_cons (pv 1) (pa_cons (pv 2) (pa_nil))))))) (pss_nil))
      (pss_cons (ps_if (pt_cmpR op_le (pv 1) (pe_int) (nomark _)) (pss_one (ps_ret (pe_cl c_answer_second hr (by decide) rfl (pa_cons (pv 0) (pa_cons (pv 1) (pa_cons (pv 2) (pa_nil))))))) (pss_nil))
      (pss_one (ps_ret (pe_cl c_answer_third hr (by decide) rfl (pa_cons (pv 0) (pa_cons (pv 1) (pa_cons (pv 2) (pa_nil))))))))), ?_⟩
      refine ⟨.ref a, rfl, rfl, _, rfl, ?_⟩
      refine ifF (by simp) ?_
      refine ⟨.int i, rfl, i, 9, rfl, rfl, _, rfl, ?_⟩
      by_cases c1 : i ≤ 9
      · refine ifT (decide_eq_true c1) ?_
        exact ⟨_, rfl, _, rfl, _, rfl, a, g, gv, s, i, args, rfl, hlo, c1, hA, o, hv, hvg, hsh, hnn, k⟩
      · refine ifF (decide_eq_false c1) ?_
        refine ⟨.int i, rfl, i, 18, rfl, rfl, _, rfl, ?_⟩
        by_cases c2 : i ≤ 18
        · refine ifT (decide_eq_true c2) ?_
          exact ⟨_, rfl, _, rfl, _, rfl, a, g, gv, s, i, args, rfl, by omega, c2, hA, o, hv, hvg, hsh, hnn, k⟩
        · refine ifF (decide_eq_false c2) ?_
          exact ⟨_, rfl, _, rfl, _, rfl, a, g, gv, s, i, args, rfl, by omega, hhi, hA, o, hv, hvg, hsh, hnn, k⟩
end
end Ib
/-! ### the request split; the answers -/
namespace Ib
open PySem PySem.Spec PyProof.Rows L2 Evl
open Km562 (Schedule)
local macro_rules | `(tactic| walk_at "ev") => `(tactic| repeat' (first
  | exact ev_c | exact ev_var rfl | exact ea_nil | apply ea_cons | apply ev_op | exact rv_I0 | apply et_test | exact rv_eq rfl | exact rv_ne rfl | refine el_lst ?_ (by decide) | refine ev_un ?_ ru_neg))
/-- the calls as they stand split: a list of pairs, a number and a list of numbers -/
structure CsAt (H : Hp) (l : Addr) (cs : List Cal) : Prop where
  ex : ∃ ts : List Addr, H l = some (.lst (ts.map V.ref)) ∧ ts.length = cs.length ∧ ∀ (j : Nat) (c : Cal) (t : Addr), cs[j]? = some c → ts[j]? = some t → ∃ gv, gv ≠ l ∧ H t = some (.tup [.int c.1, .ref gv]) ∧ H gv = some (.lst (vz c.2))
theorem CsAt.mono {H H' : Hp} {l : Addr} {cs : List Cal} (h : CsAt H l cs) (e : Ex H H') : CsAt H' l cs := by
  obtain ⟨ts, h1, h2, h3⟩ := h.ex
  refine ⟨ts, e _ _ h1, h2, fun j c t a b => ?_⟩
  obtain ⟨gv, q1, q2, q3⟩ := h3 j c t a b
  exact ⟨gv, q1, e _ _ q2, e _ _ q3⟩
theorem CsAt.more {H : Hp} {l t gv : Addr} {cs : List Cal} {c : Cal} {xs : List V} (h : CsAt H l cs) (hx : H l = some (.lst xs)) (ht : H t = some (.tup [.int c.1, .ref gv])) (hg : H gv = some (.lst (vz c.2))) (hn : gv ≠ l) : CsAt (upd H l (.lst (xs ++ [.ref t]))) l (cs ++ [c]) := by
  obtain ⟨ts, h1, h2, h3⟩ := h.ex
  have e : xs = ts.map V.ref := by
    rw [h1] at hx
    cases hx
    rfl
  subst e
  refine ⟨ts ++ [t], by rw [upd_same, List.map_append]; rfl, by rw [List.length_append, List.length_append, h2]; rfl, fun j d t' hd ht' => ?_⟩
  have key : ∃ gv', gv' ≠ l ∧ H t' = some (.tup [.int d.1, .ref gv']) ∧ H gv' = some (.lst (vz d.2)) := by
    by_cases q : j < cs.length
    · rw [List.getElem?_append_left q] at hd
      rw [List.getElem?_append_left (by omega)] at ht'
      exact h3 j d t' hd ht'
    · have hj : j - cs.length = 0 := by
        apply Classical.byContradiction
        intro z
        rw [List.getElem?_eq_none (by simp; omega)] at hd
        cases hd
      rw [List.getElem?_append_right (by omega), hj] at hd
      rw [List.getElem?_append_right (by omega), h2, hj] at ht'
      cases hd
      cases ht'
      exact ⟨gv, hn, ht, hg⟩
  obtain ⟨gv', k1, k2, k3⟩ := key
  exact ⟨gv', k1, by rw [upd_ne (ne_of k2 h1 (by intro z; cases z))]; exact k2, by rw [upd_ne k1]; exact k3⟩
def sp_split_calls (K : PySem.W.Frag) : Sp := fun vs H Q _ => ∃ (a : Addr) (cs : List Cal), vs = [.ref a] ∧ SqL K H a (vz (flat cs)) ∧ (flat cs).length ≤ 150 ∧ (∀ c ∈ cs, PyKm562.shape c.1 = some (c.2.length, 0)) ∧ ∀ p H2, H p = none → Ex H H2 → CsAt H2 p cs → Q (.ref p) H2
section
variable {K : PySem.W.Frag} {σ : L2.St} {H H' : Hp} {ta tb tc tv te to t1 t2 : TE} {t : TA} {D : Ends} {tz : TS} {x : V} {xs ys : List V} {l : Addr}
theorem q_appTL (hl : H l = some (.lst xs)) (ha : Ev ta σ H (.ref l)) (h1 : Ev t1 σ H x) (h2 : EvL t2 σ H ys) (hz : xs.length < 100000)
    (k : ∀ t gv H1, H t = none → H gv = none → Ex H H1 → H1 t = some (.tup [x, .ref gv]) → H1 gv = some (.lst ys) → tz D σ (upd H1 l (.lst (xs ++ [.ref t])))) : tSeq (tDrop (tBM K "list" rAppend ta (tCons (tTup (tCons t1 (tCons t2 tNil))) tNil))) tz D σ H :=
  ha H (Ex.refl H) _ fun H1 e1 => ⟨Or.inl ⟨rfl, xs, sq_of (e1 l _ hl)⟩, h1 H1 e1 _ fun H2 e2 => h2 H2 (e1.trans e2) _ fun gv H3 hgv e3 h3 => ⟨(by show 2 ≤ sizeLine; decide), fun t ht => ⟨l, xs, .ref t, rfl, rfl,
    (Ex.new ht) _ _ (e3 _ _ (e2 _ _ (e1 _ _ hl))), sz_lt hz, k t gv _ (fresh_back ((e1.trans e2).trans e3) ht) (fresh_back (e1.trans e2) hgv) (((e1.trans e2).trans e3).trans (Ex.new ht)) upd_same (by rw [upd_ne (ne_of_none h3 ht)]; exact h3)⟩⟩⟩
theorem cut_at {xs : List V} {i j : Nat} (h : i + j ≤ xs.length) : cutV xs (some (i : Int)) (some ((i + j : Nat) : Int)) = (xs.drop i).take j := by
  unfold cutV
  have e1 : min i xs.length = i := by omega
  have e2 : min (i + j) xs.length = i + j := by omega
  rw [HT.sIx_nat, HT.sIx_nat, e1, e2, Nat.add_sub_cancel_left]
end
section
variable {P : Program} {w : World} {K : PySem.W.Frag} {mg : Str → Option Value} {base : Heap} {C SZ : Addr}
theorem k_split_calls (T : Txt K mg C SZ) (D : Df K mg "split_calls" s_split_calls ["calls"]) : Cl P w K mg base 1 "split_calls" (sp_split_calls K) := by
  refine D.cl sc_split_calls (fun vs H Q E h => ?_) (fun fa cdv A outer st H vs Q E hr h => ?_)
  · obtain ⟨a, cs, rfl, _⟩ := h
    rfl
  · obtain ⟨a, cs, rfl, hS, hlen, hsh, k⟩ := h
    have hcl := cs_len cs
    refine ⟨_, pss_cons (ps_set (i := 1) sc_split_calls.nd rfl (Or.inl rfl) (pe_lst (pa_nil)))
      (pss_cons (ps_set (i := 2) sc_split_calls.nd rfl (Or.inl rfl) (pe_int))
      (pss_cons (ps_while PassesOwn.never (pt_cmpR op_lt (pv 2) (pe_callB call_len_seq (by rfl) T.b_len PySem.boot_len (pa_cons (pv 0) (pa_nil))) (nomark _))
        (pss_cons (ps_set (i := 3) sc_split_calls.nd rfl (Or.inl rfl) (pe_ix ix_list (pv 0) (pv 2) (fun _ _ => rfl)))
      (pss_cons (ps_set (i := 4) sc_split_calls.nd rfl (Or.inl rfl) (pe_op op_add (pe_op op_add (pv 2) (pe_int)) (pe_ix ix_tup (C8.pe_gc rfl T.g_SIZES) (pv 3) (fun _ _ => rfl))))
      (pss_cons (ps_expr (pe_bm PySem.F.plainAttrs_list PySem.F.slot_list_append PySem.F.type_list_append mt_append (pv 1) (pa_cons (pe_tup (pa_cons (pv 3) (pa_cons (pe_slice sl_list (pv 0) (po_some (pe_op op_add (pv 2) (pe_int))) (po_some (pv 4))) (pa_nil)))) (pa_nil))))
      (pss_one (ps_set (i := 2) sc_split_calls.nd rfl (Or.inl rfl) (pv 4)))))))
      (pss_one (ps_ret (pv 1))))), ?_⟩
    refine q_asgL (xs := []) (by walk_at "ev") fun p H1 hp e1 h1 => ?_
    refine q_asg ev_c fun H2 e2 => ?_
    refine q_while (fun m σ' H' => ∃ (j : Nat) (u u2 : Option V), σ' = [some (.ref a), some (.ref p), some (.int ((plc cs j : Nat) : Int)), u, u2] ∧ j + m = cs.length ∧ Ex H H' ∧ CsAt H' p (cs.take j)) cs.length
      ⟨0, none, none, rfl, Nat.zero_add _, e1.trans e2, ⟨[], e2 _ _ h1, rfl, fun j c t h => absurd h (by simp)⟩⟩ ?_
    rintro m σ' H' ⟨j, u, u2, rfl, hj, e, hC⟩
    refine ⟨decide (((plc cs j : Nat) : Int) < ((flat cs).length : Int)), et_test (ev_op (ev_var rfl) (ev_is (ev_len (ev_var rfl) (ex_l e hS)) (by rw [List.length_map])) rv_I0), fun hb H3 e3 => ?_, fun hb H3 e3 => ?_⟩
    · have hb' := of_decide_eq_true hb
      have hjl : j < cs.length := by
        apply Classical.byContradiction
        intro z
        have : j = cs.length := by omega
        rw [this, plc_end] at hb'
        omega
      have hc : cs[j]? = some cs[j] := List.getElem?_eq_getElem hjl
      generalize cs[j] = c at hc
      have hle := plc_le hc
      obtain ⟨i, hi, hci, hsz, _⟩ := shape_at (hsh c (List.mem_of_getElem? hc))
      refine ⟨fun σ2 H4 => ∃ (u u2 : Option V), σ2 = [some (.ref a), some (.ref p), some (.int ((plc cs (j + 1) : Nat) : Int)), u, u2] ∧ Ex H H4 ∧ CsAt H4 p (cs.take (j + 1)), fun σ2 H4 ⟨v, v2, q1, q2, q3⟩ => ⟨m - 1, by omega, j + 1, v, v2, q1, by omega, q2, q3⟩, ?_⟩
      have e13 := e.trans e3
      refine q_asg (v := .int c.1) (ev_op (ev_var rfl) (ev_var rfl) (rv_ixL (ex_l e13 hS) (vz_at (plc_get hc)))) fun H4 e4 => ?_
      refine q_asg (v := .int ((plc cs (j + 1) : Nat) : Int)) (ev_is (ev_op (ev_op (ev_var rfl) ev_c rv_I0) (ev_op ev_c (ev_var rfl) (rv_ixT (v := .int (c.2.length : Int)) (T.sz H4) (at_of (j := i) hci (vz_get hsz)))) rv_I0) (by rw [plc_snoc hc, Int.natCast_add, Int.natCast_add]; rfl)) fun H5 e5 => ?_
      have e35 := e4.trans e5
      have hC5 := hC.mono (e3.trans e35)
      obtain ⟨ts, t1, t2, t3⟩ := hC5.ex
      have hcut : cutV (vz (flat cs)) (some (((plc cs j : Nat) : Int) + 1)) (some ((plc cs (j + 1) : Nat) : Int)) = vz c.2 := by
        rw [plc_snoc hc, show ((plc cs j : Nat) : Int) + 1 = ((plc cs j + 1 : Nat) : Int) by omega, cut_at (by rw [List.length_map]; exact hle)]
        rw [← List.map_drop, ← List.map_take, plc_cut hc]
      refine q_appTL (x := .int c.1) (ys := vz c.2) t1 (ev_var rfl) (ev_var rfl) (by
        rw [← hcut]
        exact el_sl (ev_var rfl) (eo_some (ev_op (ev_var rfl) ev_c rv_I0)) (eo_some (ev_var rfl)) (ex_l (e13.trans e35) hS)) ?_ fun t gv H6 ht hgv e6 g1 g2 => ?_
      · rw [List.length_map, t2, List.length_take]
        omega
      · refine s_asg (v := .int ((plc cs (j + 1) : Nat) : Int)) (ev_var rfl) fun H7 e7 => ⟨_, _, rfl, (Ex.mut ((e13.trans e35).trans e6) hp).trans e7, ?_⟩
        rw [take_snoc hc]
        exact ((hC5.mono e6).more (e6 _ _ t1) g1 g2 (ne_of_none t1 hgv).symm).mono e7
    · have hb' := of_decide_eq_false hb
      have hjl : j = cs.length := by
        apply Classical.byContradiction
        intro z
        have hc : cs[j]? = some cs[j] := List.getElem?_eq_getElem (by omega)
        have := plc_le hc
        omega
      rw [hjl, List.take_length] at hC
      exact s_ret (ev_var rfl) fun H4 e4 => k p H4 hp ((e.trans e3).trans e4) ((hC.mono e3).mono e4)
end
end Ib
/-! ### the request split; the answers -/
namespace Ib
open PySem PySem.Spec PyProof.Rows L2 Evl
open Km562 (Schedule)
local macro_rules | `(tactic| walk_at "ev") => `(tactic| repeat' (first
  | exact ev_c | exact ev_var rfl | exact ea_nil | apply ea_cons | apply ev_op | exact rv_I0 | apply et_test | exact rv_eq rfl | exact rv_ne rfl | refine el_lst ?_ (by decide) | refine ev_un ?_ ru_neg))
section
variable {P : Program} {w : World} {K : PySem.W.Frag} {mg : Str → Option Value} {base : Heap} {C SZ : Addr}
/-- the season behind some calls: none, or it stands, told apart from what stood ahead of the loop (H2) and from the list l -/
def SeAt (C : Addr) (H2 H : Hp) (l : Addr) (sv : V) : Option Schedule → Prop
  | none => sv = .non
  | some s => ∃ a g : Addr, sv = .ref a ∧ SAt C H a g s ∧ Ok s ∧ l ≠ g ∧ H2 a = none ∧ H2 g = none
def sp_answers (K : PySem.W.Frag) : Sp := fun vs H Q _ => ∃ (a : Addr) (cs : List Cal), vs = [.ref a] ∧ SqL K H a (vz (flat cs)) ∧ (flat cs).length ≤ 150 ∧ (∀ c ∈ cs, PyKm562.shape c.1 = some (c.2.length, 0)) ∧ (∀ x ∈ flat cs, 0 ≤ x) ∧ ∀ (H' : Hp) (p : Addr), H' p = some (.lst (vz (run cs).2)) → Q (.ref p) H'
/-- found = found + [len(answer)] + answer -/
theorem s_found {K : PySem.W.Frag} {σ : L2.St} {H : Hp} {D : Ends} {l p : Addr} {o1 o2 : List Int} (hl : H l = some (.lst (vz o1))) (hp : H p = some (.lst (vz o2))) (x2 : σ[2]? = some (some (.ref l))) (x5 : σ[5]? = some (some (.ref p))) (hz : o1.length ≤ 5000) (hz2 : o2.length ≤ 5000)
    (k : ∀ q H1, H q = none → Ex H H1 → H1 q = some (.lst (vz (o1 ++ ((o2.length : Int) :: o2)))) → D.nx (σ.set 2 (some (.ref q))) H1) : tAsg (tOp rCat (tOp rCat (tVar 2) (tLst (tCons (tCB (rLenS K) (tCons (tVar 5) tNil)) tNil))) (tVar 5)) (gName 2) D σ H := by
  have e : vz (o1 ++ ((o2.length : Int) :: o2)) = (vz o1 ++ [.int (o2.length : Int)]) ++ vz o2 := by
    unfold vz
    rw [List.map_append, List.append_assoc]
    rfl
  rw [e] at k
  refine s_asgL (el_cat1 (el_cat0 (ev_var x2) hl (el_lst (ea_cons (ev_is (ev_len (ev_var x5) (sq_of hp)) (by rw [List.length_map])) ea_nil) (by show 1 ≤ 100000; decide)) (by rw [List.length_map]; show _ + 1 ≤ 100000; omega)) (fun H1 e1 => ev_var x5) hp (by rw [List.length_append, List.length_map, List.length_map]; show _ + 1 + _ ≤ 100000; omega)) k
theorem q_make0 {σ : L2.St} {H : Hp} {sp : Sp} {E : XK} {i : Nat} {D : Ends} {tz : TS} (k : ∀ x dx, H x = none → H dx = none → dx ≠ x → sp [.ref x] (upd (upd H dx (.own x)) x (.ins C dx [])) (fun v H2 => v = .non ∧ tz D (σ.set i (some (.ref x))) H2) E) : tSeq (tAsg (tMake C sp [] E tNil) (gName i)) tz D σ H := fun x dx nx nd ne => k x dx nx nd ne
theorem s_callV {σ : L2.St} {H : Hp} {sp : Sp} {E : XK} {i : Nat} {D : Ends} {ta : TA} {vs : List V} (h : EvA ta σ H vs) (k : ∀ H1, Ex H H1 → sp (vs ++ []) H1 (fun x H2 => D.nx (σ.set i (some x)) H2) E) : tAsg (tCall sp [] E ta) (gName i) D σ H := h H (Ex.refl H) _ k
theorem k_answers {fa : Addr} {fd : FuncData} (T : Txt K mg C SZ) (D : Fun K "answers" "answers" s_answers fa fd) (c_split_calls : Cl P w K mg base 1 "split_calls" (sp_split_calls K)) (c_make : Ma P w K mg base 1 "Season" C (sp_init C)) (c_answer_of : Cl P w K mg base 11 "answer_of" (spA C)) : FnOk P w K mg base CX0 12 fa fd ["calls"] (sp_answers K) := by
  refine D.ok sc_answers (fun vs H Q E h => ?_) (fun cdv A outer st H vs Q E hr h => ?_)
  · obtain ⟨a, cs, rfl, _⟩ := h
    rfl
  · obtain ⟨c0, cs, rfl, hS, hlen, hsh, hnn, k⟩ := h
    have hcl := cs_len cs
    refine ⟨_, pss_cons (ps_set (i := 1) sc_answers.nd rfl (Or.inl rfl) (pe_non))
      (pss_cons (ps_set (i := 2) sc_answers.nd rfl (Or.inl rfl) (pe_lst (pa_nil)))
      (pss_cons (ps_for PassesOwn.never rfl (pi_list (pe_cl c_split_calls hr (by decide) rfl (pa_cons (pv 0) (pa_nil)))) (pg_tup rfl (pgs_cons (pg_name (i := 3) sc_answers.nd rfl (Or.inl rfl)) (pgs_cons (pg_name (i := 4) sc_answers.nd rfl (Or.inl rfl)) (pgs_nil))))
        (pss_cons (ps_if (pt_cmpR op_eq (pv 3) (C8.pe_gc rfl T.g_CREATE) (nomark _)) (pss_cons (ps_set (i := 1) sc_answers.nd rfl (Or.inl rfl) (pe_mk0 c_make hr (by decide) rfl))
      (pss_one (ps_set (i := 5) sc_answers.nd rfl (Or.inl rfl) (pe_lst (pa_cons (pe_int) (pa_nil)))))) (pss_one (ps_set (i := 5) sc_answers.nd rfl (Or.inl rfl) (pe_cl c_answer_of hr (by decide) rfl (pa_cons (pv 1) (pa_cons (pv 3) (pa_cons (pv 4) (pa_nil))))))))
      (pss_one (ps_set (i := 2) sc_answers.nd rfl (Or.inl rfl) (pe_op op_cat (pe_op op_cat (pv 2) (pe_lst (pa_cons (pe_callB call_len_seq (by rfl) T.b_len PySem.boot_len (pa_cons (pv 5) (pa_nil))) (pa_nil)))) (pv 5))))))
      (pss_one (ps_ret (pv 2))))), ?_⟩
    refine q_asg ev_c fun H0 e0 => ?_
    refine q_asgL (xs := []) (by walk_at "ev") fun l0 H1 hl0 e1 h1 => ?_
    have e01 := e0.trans e1
    refine ⟨_, rfl, c0, cs, rfl, ex_l e01 hS, hlen, hsh, fun p H2 hp e2 hC => ?_⟩
    obtain ⟨ts, t1, t2, t3⟩ := hC.ex
    refine ⟨p, rfl, ⟨_, sq_of t1⟩, for_list (K := K) (a := p) (xs := ts.map V.ref) (fun i σ' H' => ∃ (sv : V) (l : Addr) (u3 u4 u5 : Option V), σ' = [some (.ref c0), some sv, some (.ref l), u3, u4, u5] ∧ Ex H2 H' ∧ H' l = some (.lst (vz (run (cs.take i)).2)) ∧ (run (cs.take i)).2.length ≤ 17 * i ∧ SeAt C H2 H' l sv (run (cs.take i)).1)
      ⟨.non, l0, none, none, none, rfl, Ex.refl _, e2 _ _ h1, Nat.zero_le _, rfl⟩ (fun i σ' H' _ ⟨_, _, _, _, _, _, e, _⟩ => sq_of (e _ _ t1)) ?_ ?_⟩
    · rintro i x σ' H' hx ⟨sv, l, u3, u4, u5, rfl, e, hl, hll, hSe⟩
      obtain ⟨t, ht, rfl⟩ : ∃ t, ts[i]? = some t ∧ x = V.ref t := by
        rw [List.getElem?_map] at hx
        cases q : ts[i]? with
        | none => rw [q] at hx; cases hx
        | some t => rw [q] at hx; exact ⟨t, rfl, (Option.some.inj hx).symm⟩
      have hi := (List.getElem?_eq_some_iff.mp ht).1
      have hc : cs[i]? = some cs[i] := List.getElem?_eq_getElem (by omega)
      generalize cs[i] = c at hc
      obtain ⟨gv, g1, g2, g3⟩ := t3 i c t hc ht
      have hcm := List.mem_of_getElem? hc
      have hshc := hsh c hcm
      have hrun := run_snoc hc
      refine ⟨t, _, rfl, st_of (e _ _ g2), rfl, _, _, rfl, _, _, rfl, rfl, ?_⟩
      -- what follows the answer
      have tail : ∀ (sv2 : V) (q : Addr) (H3 : Hp) (out : List Int), Ex H2 H3 → H3 l = some (.lst (vz (run (cs.take i)).2)) → H3 q = some (.lst (vz out)) → out.length ≤ 16 → (Km562Neutral.step (run (cs.take i)).1 [c.1 :: c.2]).2 = out → SeAt C H2 H3 l sv2 (Km562Neutral.step (run (cs.take i)).1 [c.1 :: c.2]).1 →
          ∀ D' : Ends, D'.nx = (fun σ' H' => ∃ (sv : V) (l : Addr) (u3 u4 u5 : Option V), σ' = [some (.ref c0), some sv, some (.ref l), u3, u4, u5] ∧ Ex H2 H' ∧ H' l = some (.lst (vz (run (cs.take (i + 1))).2)) ∧ (run (cs.take (i + 1))).2.length ≤ 17 * (i + 1) ∧ SeAt C H2 H' l sv (run (cs.take (i + 1))).1) →
          tAsg (tOp rCat (tOp rCat (tVar 2) (tLst (tCons (tCB (rLenS K) (tCons (tVar 5) tNil)) tNil))) (tVar 5)) (gName 2) D' [some (.ref c0), some sv2, some (.ref l), some (.int c.1), some (.ref gv), some (.ref q)] H3 := by
        intro sv2 q H3 out ee hl3 hq hol hst hSe3 D' hD
        refine s_found hl3 hq rfl rfl (by have := hi; omega) (by omega) fun r H4 hr4 e4 h4 => ?_
        rw [hD]
        refine ⟨sv2, r, _, _, _, rfl, ee.trans e4, ?_, ?_, ?_⟩
        · rw [hrun]
          unfold trn
          rw [hst]
          exact h4
        · rw [hrun]
          unfold trn
          rw [hst]
          show ((run (cs.take i)).2 ++ ((out.length : Int) :: out)).length ≤ _
          rw [List.length_append, List.length_cons]
          omega
        · rw [hrun]
          unfold trn
          revert hSe3
          show SeAt C H2 H3 l sv2 (Km562Neutral.step (run (cs.take i)).1 [c.1 :: c.2]).1 → SeAt C H2 H4 r sv2 (Km562Neutral.step (run (cs.take i)).1 [c.1 :: c.2]).1
          generalize (Km562Neutral.step (run (cs.take i)).1 [c.1 :: c.2]).1 = so
          intro hSe3
          cases so with
          | none => exact hSe3
          | some s =>
            obtain ⟨a, g, q1, q2, q3, q4, q5, q6⟩ := hSe3
            refine ⟨a, g, q1, q2.mono e4, q3, ?_, q5, q6⟩
            obtain ⟨_, _, _, w2, _⟩ := q2.ex
            exact (ne_of_none w2 hr4).symm
      refine q_if (b := decide (V.int c.1 = V.int 0)) (et_test (ev_op (ev_var rfl) ev_c (rv_eq rfl))) (fun hb H3 e3 => ?_) (fun hb H3 e3 => ?_)
      · have hz : c.1 = 0 := V.int.inj (of_decide_eq_true hb)
        have ha0 : c.2 = [] := args0 hshc (by rw [hz]; rfl)
        have e13 := e.trans e3
        refine q_make0 fun x dx nx nd ne => ⟨x, dx, rfl, upd_same, fun H4 g hA hCh hg => ⟨rfl, ?_⟩⟩
        have e4 : Ex H3 H4 := fun b o hb2 => hCh b o (by rw [upd_ne (ne_of_none hb2 nx), upd_ne (ne_of_none hb2 nd)]; exact hb2) (ne_of_none hb2 nx)
        have hg3 : H3 g = none := by
          cases q : H3 g with
          | none => rfl
          | some o =>
            rw [upd_ne (ne_of_none q nx), upd_ne (ne_of_none q nd), q] at hg
            cases hg
        refine s_asgL (xs := vz [0]) (el_lst (ea_cons ev_c ea_nil) (by show 1 ≤ 100000; decide)) fun q H5 hq e5 h5 => ?_
        have hst : Km562Neutral.step (run (cs.take i)).1 [c.1 :: c.2] = (some ⟨[], 0, 999, []⟩, [0]) := by rw [hz, ha0, st0]
        refine tail (.ref x) q H5 [0] ((e13.trans e4).trans e5) (e5 _ _ (e4 _ _ (e3 _ _ hl))) h5 (by decide) (by rw [hst]) ?_ _ rfl
        rw [hst]
        exact ⟨x, g, rfl, hA.mono e5, Ok.new, ne_of_none (e3 _ _ hl) hg3, fresh_back e13 nx, fresh_back e13 hg3⟩
      · have hz : c.1 ≠ 0 := fun z => of_decide_eq_false hb (by rw [z])
        refine s_callV (vs := [sv, .int c.1, .ref gv]) (ea_cons (ev_var rfl) (ea_cons (ev_var rfl) (ea_cons (ev_var rfl) ea_nil))) fun H3' e3' => ?_
        replace e3 := e3.trans e3'
        clear e3'
        have e13 := e.trans e3
        obtain ⟨op, hop, hop2⟩ := parse_some hshc
        have hop3 := hop2 hz
        obtain ⟨j, hj, hcj, _, _⟩ := shape_at hshc
        revert hSe hrun tail
        generalize hso : (run (cs.take i)).1 = so
        intro hSe hrun tail
        cases so with
        | none =>
          have hst := st_none hop hop3
          refine Or.inl ⟨c.1, gv, by rw [show sv = V.non from hSe]; rfl, fun q H5 hq e5 h5 => ?_⟩
          have hsv : sv = V.non := hSe
          subst hsv
          exact tail .non q H5 [-11] (e13.trans e5) (e5 _ _ (e3 _ _ hl)) h5 (by decide) (by rw [hst]) (by rw [hst]; rfl) _ rfl
        | some s =>
          obtain ⟨a, g, q1, q2, q3, q4, q5, q6⟩ := hSe
          subst q1
          refine Or.inr ⟨a, g, gv, s, c.1, c.2, rfl, by omega, by omega, q2.mono e3, q3, e13 _ _ g3, ?_, hshc, fun x hx => hnn x (mem_flat hcm hx), fun H5 q g' s2 out hst o2 hol hA5 hCh hg' hq h5 => ?_⟩
          · intro z
            rw [z] at g3
            rw [g3] at q6
            cases q6
          · obtain ⟨_, _, w1, w2, _⟩ := (q2.mono e3).ex
            have hla : l ≠ a := ne_of (e3 _ _ hl) w1 (by intro z; cases z)
            have hl5 := hCh _ _ (e3 _ _ hl) hla q4
            have e25 : Ex H2 H5 := fun b o hb2 => hCh b o (e13 _ _ hb2) (ne_of_none hb2 q5) (ne_of_none hb2 q6)
            refine tail (.ref a) q H5 out e25 hl5 h5 hol (by rw [hst]) ?_ _ rfl
            rw [hst]
            refine ⟨a, g', rfl, hA5, o2, ?_, q5, ?_⟩
            · rcases hg' with rfl | hg'
              · exact q4
              · exact ne_of_none (e3 _ _ hl) hg'
            · rcases hg' with rfl | hg'
              · exact q6
              · exact fresh_back e13 hg'
    · rintro σ' H' ⟨sv, l, u3, u4, u5, rfl, e, hl, hll, hSe⟩
      rw [List.length_map, t2, List.take_length] at hl
      exact s_ret (ev_var rfl) fun H4 e4 => k H4 l (e4 _ _ hl)
end
end Ib
/-! ### the end: what the top has written -/
namespace Ib
open PySem PySem.Spec PyProof.Rows L2 Evl
section
variable {K : PySem.W.Frag} {h : Heap} {mg : Str → Option Value}
theorem df_of {x : Str} {st : Stmt} {ps : List Str} {f : Addr} {oc kV dc pm cd ct : Value} {od an : Option Addr} {sl : Array (Option Value)} (X : K.In h) (G : h.Ns mainGlobals mg) (a : PySem.W.nsIn K mainGlobals x = some (some (.ref f)))
    (l : K.lookup f = some ⟨oc, od, .func (PySem.W.fnOf x x (defArgs st) (defBody st) (defScope st) .none kV dc pm an cd ct), sl⟩) (c : PySem.W.codeIn K cd x = true) (k : PySem.W.keepIn K (.ref f) = true)
    (hb : ∀ (kV doc pm : Value) (an : Option Addr) (cdv ct : Value) (us : List Value), us.length = ps.length → bindArgs (PySem.W.fnOf x x (defArgs st) (defBody st) (defScope st) .none kV doc pm an cdv ct) ⟨us, []⟩ = pure (ps.zip us)) : Df K mg x st ps := by
  have F := fun_mk (st := st) l c k
  exact ⟨f, _, F, PySem.W.mg_of X G a, F.binds hb⟩
theorem dm_of {C : Addr} {x qual : Str} {st : Stmt} {ps : List Str} {f : Addr} {oc kV dc pm cd ct : Value} {od an : Option Addr} {sl : Array (Option Value)} (a : PySem.W.findIn K (.ref C) x = some (some (.ref f))) (i : PySem.W.isFn K (.ref f) = true)
    (l : K.lookup f = some ⟨oc, od, .func (PySem.W.fnOf x qual (defArgs st) (defBody st) (defScope st) .none kV dc pm an cd ct), sl⟩) (c : PySem.W.codeIn K cd qual = true) (k : PySem.W.keepIn K (.ref f) = true)
    (hb : ∀ (kV doc pm : Value) (an : Option Addr) (cdv ct : Value) (us : List Value), us.length = ps.length → bindArgs (PySem.W.fnOf x qual (defArgs st) (defBody st) (defScope st) .none kV doc pm an cdv ct) ⟨us, []⟩ = pure (ps.zip us)) : Dm K C x qual st ps := by
  have F := fun_mk (st := st) l c k
  exact ⟨f, _, F, ⟨a, i, k⟩, F.binds hb⟩
theorem gc_of {x : Str} {i : Int} {t : Tok} (X : K.In h) (G : h.Ns mainGlobals mg) (a : PySem.W.nsIn K mainGlobals x = some (some (.int i t))) : ∃ u, mg x = some u ∧ RelV (.int i) u := ⟨_, PySem.W.mg_of X G a, t, rfl⟩
theorem na_of {C : Addr} {f : Str} (a : PySem.W.findIn K (.ref C) f = some none) : NoAttr K C f := a
theorem sz_of {SZ : Addr} {xs : List V} {o : Obj} {its : Array Value} {n : Nat} (l : K.lookup SZ = some o) (hc : o.cls = .type "tuple") (hd : o.data = .seq its n) (hs : its.size ≤ sizeLine) (hv : Vals xs its.toList) (H : Hp) : SqT K H SZ xs := .inr ⟨o, its, n, l, hc, hd, hs, hv⟩
end
/-- all the defs, from what the top has written -/
structure Defs (K : PySem.W.Frag) (mg : Str → Option Value) (C : Addr) : Prop where
  m_init : Dm K C "__init__" "Season.__init__" sm___init__ ["self"]
  m_day_count : Dm K C "day_count" "Season.day_count" sm_day_count ["self"]
  m_has_day : Dm K C "has_day" "Season.has_day" sm_has_day ["self", "day"]
  m_last_break_before : Dm K C "last_break_before" "Season.last_break_before" sm_last_break_before ["self", "day"]
  m_add_break : Dm K C "add_break" "Season.add_break" sm_add_break ["self", "day"]
  m_remove_break : Dm K C "remove_break" "Season.remove_break" sm_remove_break ["self", "day"]
  m_growth_with : Dm K C "growth_with" "Season.growth_with" sm_growth_with ["self", "day", "growth"]
  d_thickness : Df K mg "thickness" s_thickness ["growth", "first", "last"]
  d_effort : Df K mg "effort" s_effort ["growth", "first", "last"]
  d_thicknesses : Df K mg "thicknesses" s_thicknesses ["growth", "breaks"]
  d_effort_of : Df K mg "effort_of" s_effort_of ["growth", "breaks"]
  d_is_valid : Df K mg "is_valid" s_is_valid ["growth", "breaks", "most"]
  d_row_without_breaks : Df K mg "row_without_breaks" s_row_without_breaks ["growth"]
  d_effort_with : Df K mg "effort_with" s_effort_with ["growth", "most", "later", "first", "day"]
  d_least_from : Df K mg "least_from" s_least_from ["growth", "most", "later", "first"]
  d_row_with_one_more : Df K mg "row_with_one_more" s_row_with_one_more ["growth", "most", "later"]
  d_effort_rows : Df K mg "effort_rows" s_effort_rows ["growth", "most", "many"]
  d_least_effort : Df K mg "least_effort" s_least_effort ["growth", "most", "many"]
  d_first_break : Df K mg "first_break" s_first_break ["growth", "most", "rows", "left", "first"]
  d_least_breaks : Df K mg "least_breaks" s_least_breaks ["growth", "most", "many"]
  d_least_number : Df K mg "least_number" s_least_number ["growth", "most"]
  d_cheapest : Df K mg "cheapest" s_cheapest ["growth", "most", "trip_cost"]
  d_balanced : Df K mg "balanced" s_balanced ["days", "many"]
  d_thickness_on : Df K mg "thickness_on" s_thickness_on ["season", "day"]
  d_add_break : Df K mg "add_break" s_add_break ["season", "given"]
  d_remove_break : Df K mg "remove_break" s_remove_break ["season", "given"]
  d_list_breaks : Df K mg "list_breaks" s_list_breaks ["season", "given"]
  d_thickness_per_break : Df K mg "thickness_per_break" s_thickness_per_break ["season", "given"]
  d_is_valid_schedule : Df K mg "is_valid_schedule" s_is_valid_schedule ["season", "given"]
  d_schedule_cost : Df K mg "schedule_cost" s_schedule_cost ["season", "given"]
  d_excess_effort : Df K mg "excess_effort" s_excess_effort ["season", "given"]
  d_thickness_at : Df K mg "thickness_at" s_thickness_at ["season", "given"]
  d_add_day : Df K mg "add_day" s_add_day ["season", "given"]
  d_remove_last_day : Df K mg "remove_last_day" s_remove_last_day ["season", "given"]
  d_set_growth : Df K mg "set_growth" s_set_growth ["season", "given"]
  d_set_trip_cost : Df K mg "set_trip_cost" s_set_trip_cost ["season", "given"]
  d_set_max_thickness : Df K mg "set_max_thickness" s_set_max_thickness ["season", "given"]
  d_list_growth : Df K mg "list_growth" s_list_growth ["season", "given"]
  d_thickness_between : Df K mg "thickness_between" s_thickness_between ["season", "given"]
  d_total_growth : Df K mg "total_growth" s_total_growth ["season", "given"]
  d_summary : Df K mg "summary" s_summary ["season", "given"]
  d_refusal_of : Df K mg "refusal_of" s_refusal_of ["season", "many"]
  d_optimal_breaks : Df K mg "optimal_breaks" s_optimal_breaks ["season", "given"]
  d_use_optimal_breaks : Df K mg "use_optimal_breaks" s_use_optimal_breaks ["season", "given"]
  d_saving_of_break : Df K mg "saving_of_break" s_saving_of_break ["season", "given"]
  d_min_break_count : Df K mg "min_break_count" s_min_break_count ["season", "given"]
  d_cheapest_answer : Df K mg "cheapest_answer" s_cheapest_answer ["growth", "most", "trip_cost"]
  d_cheapest_break_count : Df K mg "cheapest_break_count" s_cheapest_break_count ["season", "given"]
  d_use_cheapest_breaks : Df K mg "use_cheapest_breaks" s_use_cheapest_breaks ["season", "given"]
  d_cheapest_with_growth : Df K mg "cheapest_with_growth" s_cheapest_with_growth ["season", "given"]
  d_cheapest_with_max_thickness : Df K mg "cheapest_with_max_thickness" s_cheapest_with_max_thickness ["season", "given"]
  d_balanced_effort : Df K mg "balanced_effort" s_balanced_effort ["season", "given"]
  d_answer_first : Df K mg "answer_first" s_answer_first ["season", "number", "given"]
  d_answer_second : Df K mg "answer_second" s_answer_second ["season", "number", "given"]
  d_answer_third : Df K mg "answer_third" s_answer_third ["season", "number", "given"]
  d_answer_of : Df K mg "answer_of" s_answer_of ["season", "number", "given"]
  d_split_calls : Df K mg "split_calls" s_split_calls ["calls"]
theorem all_ok {P : Program} {w : World} {K : PySem.W.Frag} {mg : Str → Option Value} {base : Heap} {C SZ fI fa : Addr} {fda : FuncData} (T : Txt K mg C SZ) (F : Defs K mg C) (mk : PySem.W.makesIn K C = true) (a1 : PySem.W.findIn K (.ref C) "__init__" = some (some (.ref fI))) (i1 : PySem.W.isFn K (.ref fI) = true) (kc : PySem.W.keepIn K (.ref C) = true) (gC : mg "Season" = some (.ref C)) (FA : Fun K "answers" "answers" s_answers fa fda) :
    FnOk P w K mg base CX0 12 fa fda ["calls"] (sp_answers K) := by
  have m_init := k_init (P := P) (w := w) (base := base) T F.m_init
  have m_day_count := k_day_count (P := P) (w := w) (base := base) T F.m_day_count
  have m_has_day := k_has_day (P := P) (w := w) (base := base) T F.m_has_day
  have m_last_break_before := k_last_break_before (P := P) (w := w) (base := base) T F.m_last_break_before
  have m_add_break := km_add_break (P := P) (w := w) (base := base) T F.m_add_break
  have m_remove_break := km_remove_break (P := P) (w := w) (base := base) T F.m_remove_break
  have m_growth_with := k_growth_with (P := P) (w := w) (base := base) T F.m_growth_with
  have c_thickness := k_thickness (P := P) (w := w) (base := base) T F.d_thickness 
  have c_effort := k_effort (P := P) (w := w) (base := base) T F.d_effort c_thickness
  have c_thicknesses := k_thicknesses (P := P) (w := w) (base := base) T F.d_thicknesses c_thickness
  have c_effort_of := k_effort_of (P := P) (w := w) (base := base) T F.d_effort_of c_thicknesses
  have c_is_valid := k_is_valid (P := P) (w := w) (base := base) T F.d_is_valid c_thicknesses
  have c_row_without_breaks := k_row_without_breaks (P := P) (w := w) (base := base) T F.d_row_without_breaks 
  have c_effort_with := k_effort_with (P := P) (w := w) (base := base) T F.d_effort_with c_thickness c_effort
  have c_least_from := k_least_from (P := P) (w := w) (base := base) T F.d_least_from c_effort_with
  have c_row_with_one_more := k_row_with_one_more (P := P) (w := w) (base := base) T F.d_row_with_one_more c_least_from
  have c_effort_rows := k_effort_rows (P := P) (w := w) (base := base) T F.d_effort_rows c_row_without_breaks c_row_with_one_more
  have c_least_effort := k_least_effort (P := P) (w := w) (base := base) T F.d_least_effort c_effort_rows
  have c_first_break := k_first_break (P := P) (w := w) (base := base) T F.d_first_break c_effort_with
  have c_least_breaks := k_least_breaks (P := P) (w := w) (base := base) T F.d_least_breaks c_effort_rows c_first_break
  have c_least_number := k_least_number (P := P) (w := w) (base := base) T F.d_least_number c_effort_rows
  have c_cheapest := k_cheapest (P := P) (w := w) (base := base) T F.d_cheapest c_effort_rows
  have c_balanced := k_balanced (P := P) (w := w) (base := base) T F.d_balanced 
  have c_thickness_on := k_thickness_on (P := P) (w := w) (base := base) T F.d_thickness_on c_thickness m_last_break_before
  have c_add_break := k_add_break (P := P) (w := w) (base := base) T F.d_add_break m_has_day m_add_break c_thickness_on
  have c_remove_break := k_remove_break (P := P) (w := w) (base := base) T F.d_remove_break m_remove_break
  have c_list_breaks := k_list_breaks (P := P) (w := w) (base := base) T F.d_list_breaks 
  have c_thickness_per_break := k_thickness_per_break (P := P) (w := w) (base := base) T F.d_thickness_per_break c_thicknesses
  have c_is_valid_schedule := k_is_valid_schedule (P := P) (w := w) (base := base) T F.d_is_valid_schedule c_is_valid
  have c_schedule_cost := k_schedule_cost (P := P) (w := w) (base := base) T F.d_schedule_cost c_effort_of
  have c_excess_effort := k_excess_effort (P := P) (w := w) (base := base) T F.d_excess_effort c_is_valid c_effort_of c_least_effort
  have c_thickness_at := k_thickness_at (P := P) (w := w) (base := base) T F.d_thickness_at m_has_day c_thickness_on
  have c_add_day := k_add_day (P := P) (w := w) (base := base) T F.d_add_day m_day_count
  have c_remove_last_day := k_remove_last_day (P := P) (w := w) (base := base) T F.d_remove_last_day m_day_count m_remove_break
  have c_set_growth := k_set_growth (P := P) (w := w) (base := base) T F.d_set_growth m_has_day m_growth_with
  have c_set_trip_cost := k_set_trip_cost (P := P) (w := w) (base := base) T F.d_set_trip_cost 
  have c_set_max_thickness := k_set_max_thickness (P := P) (w := w) (base := base) T F.d_set_max_thickness 
  have c_list_growth := k_list_growth (P := P) (w := w) (base := base) T F.d_list_growth m_day_count
  have c_thickness_between := k_thickness_between (P := P) (w := w) (base := base) T F.d_thickness_between m_has_day c_thickness c_effort
  have c_total_growth := k_total_growth (P := P) (w := w) (base := base) T F.d_total_growth 
  have c_summary := k_summary (P := P) (w := w) (base := base) T F.d_summary m_day_count
  have c_refusal_of := k_refusal_of (P := P) (w := w) (base := base) T F.d_refusal_of c_least_effort m_day_count
  have c_optimal_breaks := k_optimal_breaks (P := P) (w := w) (base := base) T F.d_optimal_breaks c_refusal_of c_least_breaks c_least_effort
  have c_use_optimal_breaks := k_use_optimal_breaks (P := P) (w := w) (base := base) T F.d_use_optimal_breaks c_refusal_of c_least_breaks c_least_effort
  have c_saving_of_break := k_saving_of_break (P := P) (w := w) (base := base) T F.d_saving_of_break m_day_count c_least_effort
  have c_min_break_count := k_min_break_count (P := P) (w := w) (base := base) T F.d_min_break_count c_least_number
  have c_cheapest_answer := k_cheapest_answer (P := P) (w := w) (base := base) T F.d_cheapest_answer c_cheapest
  have c_cheapest_break_count := k_cheapest_break_count (P := P) (w := w) (base := base) T F.d_cheapest_break_count c_cheapest_answer
  have c_use_cheapest_breaks := k_use_cheapest_breaks (P := P) (w := w) (base := base) T F.d_use_cheapest_breaks c_cheapest c_least_breaks
  have c_cheapest_with_growth := k_cheapest_with_growth (P := P) (w := w) (base := base) T F.d_cheapest_with_growth m_has_day m_growth_with c_cheapest_answer
  have c_cheapest_with_max_thickness := k_cheapest_with_max_thickness (P := P) (w := w) (base := base) T F.d_cheapest_with_max_thickness c_cheapest_answer
  have c_balanced_effort := k_balanced_effort (P := P) (w := w) (base := base) T F.d_balanced_effort m_day_count c_balanced
  have c_answer_first := k_answer_first (P := P) (w := w) (base := base) T F.d_answer_first c_add_day c_remove_last_day c_set_growth c_set_trip_cost c_set_max_thickness c_list_growth c_thickness_between c_add_break c_remove_break
  have c_answer_second := k_answer_second (P := P) (w := w) (base := base) T F.d_answer_second c_list_breaks c_thickness_per_break c_is_valid_schedule c_schedule_cost c_total_growth c_optimal_breaks c_use_optimal_breaks c_excess_effort c_saving_of_break
  have c_answer_third := k_answer_third (P := P) (w := w) (base := base) T F.d_answer_third c_min_break_count c_cheapest_break_count c_use_cheapest_breaks c_cheapest_with_growth c_cheapest_with_max_thickness c_balanced_effort c_thickness_at c_summary
  have c_answer_of := k_answer_of (P := P) (w := w) (base := base) T F.d_answer_of c_answer_first c_answer_second c_answer_third
  have c_split_calls := k_split_calls (P := P) (w := w) (base := base) T F.d_split_calls 
  obtain ⟨f, fd, ps, hcl, hme, hok, hbi⟩ := m_init.ex
  have c_make : Ma P w K mg base 1 "Season" C (sp_init C) := by
    have e := hme.at_.symm.trans a1
    injection e with e
    injection e with e
    injection e with e
    subst e
    exact ⟨f, fd, ps, ⟨mk, a1, i1, kc⟩, hok, gC, hbi⟩
  exact k_answers T FA c_split_calls c_make c_answer_of
theorem fin_mk {P : Program} {w : World} {K : PySem.W.Frag} {h : Heap} {mg : Str → Option Value} {fa C SZ fI f : Addr} {oc kV dc pm cd ct : Value} {od an : Option Addr} {sl : Array (Option Value)} (X : K.In h) (G : h.Ns mainGlobals mg) (hfa : mg "answers" = some (.ref fa))
    (aC : PySem.W.nsIn K mainGlobals "Season" = some (some (.ref C))) (a1 : PySem.W.findIn K (.ref C) "__init__" = some (some (.ref fI))) (i1 : PySem.W.isFn K (.ref fI) = true) (kc : PySem.W.keepIn K (.ref C) = true) (mk : PySem.W.makesIn K C = true)
    (a : PySem.W.nsIn K mainGlobals "answers" = some (some (.ref f))) (l : K.lookup f = some ⟨oc, od, .func (PySem.W.fnOf "answers" "answers" (defArgs s_answers) (defBody s_answers) (defScope s_answers) .none kV dc pm an cd ct), sl⟩) (c : PySem.W.codeIn K cd "answers" = true) (k : PySem.W.keepIn K (.ref f) = true)
    (T : Txt K mg C SZ) (D : Defs K mg C) :
    ∃ fd : FuncData, (∀ (s : Shared) (us : List Value), us.length = (["calls"] : List Str).length → BindsTo s fd ⟨us, []⟩ ((["calls"] : List Str).zip us)) ∧ ∀ base : Heap, K.In base → base.Ns mainGlobals mg → FnOk P w K mg base CX0 12 fa fd ["calls"] (sp_answers K) := by
  have e := hfa.symm.trans (PySem.W.mg_of X G a)
  cases e
  exact ⟨PySem.W.fnOf "answers" "answers" (defArgs s_answers) (defBody s_answers) (defScope s_answers) .none kV dc pm an cd ct, fun s us hu => match us, hu with | [_], _ => .of_eq rfl, fun base _ _ => all_ok T D mk a1 i1 kc (PySem.W.mg_of X G aC) (fun_mk (st := s_answers) l c k)⟩
end Ib
open PySem PySem.W PyProof.Rows
set_option maxRecDepth 100000 in
set_option maxHeartbeats 0 in
theorem PySem.Challenge.cw_icebreaks_s01_answers_holds : PySem.Challenge.rw_icebreaks_s01_answers.Holds := by
  w_on; k_headS; (case hw => exact ⟨[.list [.int 0]], by decide +kernel, by decide +kernel⟩)
  k_fillS
  refine L2.walk_specK (r := PySem.Challenge.rw_icebreaks_s01_answers) (k := 12) (CX := L2.CX0) (ps := ["calls"]) (sp := Ib.sp_answers) (by decide +kernel) rfl rfl ⟨rfl, by decide, by decide⟩ (fun w h Y => PySem.W.kIn_of Y) ?F ?S (fun _ _ _ _ z => z)
  case F =>
    intro w mg fa h Y KX G hmg
    refine' Ib.fin_mk KX G hmg ?aC ?a1 ?i1 ?kc ?mk ?aa ?la ?ca ?ka ?T ?D
    (case aC => k_is); (case a1 => k_is); (case i1 => k_is); (case kc => k_is); (case mk => k_is); (case aa => k_is); (case la => k_is); (case ca => k_is); (case ka => k_is)
    case T =>
      refine' ⟨⟨?ib_pg, ?ib_hd, ?ib_po, ?ib_sa⟩, Ib.na_of ?ib_nG, Ib.na_of ?ib_nT, Ib.na_of ?ib_nM, Ib.na_of ?ib_nB, PySem.W.mg_none_of KX G ?ibb1, PySem.W.mg_none_of KX G ?ibb2, PySem.W.mg_none_of KX G ?ibb3, PySem.W.mg_none_of KX G ?ibb4, PySem.W.mg_none_of KX G ?ibb5, PySem.W.mg_none_of KX G ?ibb6, PySem.W.mg_none_of KX G ?ibb7, PySem.W.mg_none_of KX G ?ibb8,
        Ib.gc_of KX G ?ibg0, Ib.gc_of KX G ?ibg1, Ib.gc_of KX G ?ibg2, Ib.gc_of KX G ?ibg3, Ib.gc_of KX G ?ibg4, Ib.gc_of KX G ?ibg5, Ib.gc_of KX G ?ibg6, Ib.gc_of KX G ?ibg7, Ib.gc_of KX G ?ibg8, Ib.gc_of KX G ?ibg9, Ib.gc_of KX G ?ibg10, Ib.gc_of KX G ?ibg11, Ib.gc_of KX G ?ibg12, ⟨_, PySem.W.mg_of KX G ?ib_gS, rfl⟩, Ib.sz_of ?ib_zl ?ib_zc ?ib_zd ?ib_zs ?ib_zv⟩
      (case ib_pg => k_is); (case ib_hd => k_is); (case ib_po => k_is); (case ib_sa => k_is); (case ib_nG => k_is); (case ib_nT => k_is); (case ib_nM => k_is); (case ib_nB => k_is)
      (case ibb1 => k_is); (case ibb2 => k_is); (case ibb3 => k_is); (case ibb4 => k_is); (case ibb5 => k_is); (case ibb6 => k_is); (case ibb7 => k_is); (case ibb8 => k_is)
      (case ibg0 => k_is); (case ibg1 => k_is); (case ibg2 => k_is); (case ibg3 => k_is); (case ibg4 => k_is); (case ibg5 => k_is); (case ibg6 => k_is); (case ibg7 => k_is); (case ibg8 => k_is); (case ibg9 => k_is); (case ibg10 => k_is); (case ibg11 => k_is); (case ibg12 => k_is)
      (case ib_gS => k_is); (case ib_zl => k_is); (case ib_zc => rfl); (case ib_zd => rfl); (case ib_zs => decide)
      case ib_zv => repeat (first | exact Paired.nil | refine Paired.cons ⟨_, rfl⟩ ?_)
    case D =>
      refine' ⟨?m_init, ?m_day_count, ?m_has_day, ?m_last_break_before, ?m_add_break, ?m_remove_break, ?m_growth_with, ?d_thickness, ?d_effort, ?d_thicknesses, ?d_effort_of, ?d_is_valid, ?d_row_without_breaks, ?d_effort_with, ?d_least_from, ?d_row_with_one_more, ?d_effort_rows, ?d_least_effort, ?d_first_break, ?d_least_breaks, ?d_least_number, ?d_cheapest, ?d_balanced, ?d_thickness_on, ?d_add_break, ?d_remove_break, ?d_list_breaks, ?d_thickness_per_break, ?d_is_valid_schedule, ?d_schedule_cost, ?d_excess_effort, ?d_thickness_at, ?d_add_day, ?d_remove_last_day, ?d_set_growth, ?d_set_trip_cost, ?d_set_max_thickness, ?d_list_growth, ?d_thickness_between, ?d_total_growth, ?d_summary, ?d_refusal_of, ?d_optimal_breaks, ?d_use_optimal_breaks, ?d_saving_of_break, ?d_min_break_count, ?d_cheapest_answer, ?d_cheapest_break_count, ?d_use_cheapest_breaks, ?d_cheapest_with_growth, ?d_cheapest_with_max_thickness, ?d_balanced_effort, ?d_answer_first, ?d_answer_second, ?d_answer_third, ?d_answer_of, ?d_split_calls⟩
      (case m_init => refine' Ib.dm_of ?a ?i ?l ?c ?k (fun _ _ _ _ _ _ us hl => match us, hl with | [_], _ => rfl); (case a => k_is); (case i => k_is); (case l => k_is); (case c => k_is); (case k => k_is))
      (case m_day_count => refine' Ib.dm_of ?a ?i ?l ?c ?k (fun _ _ _ _ _ _ us hl => match us, hl with | [_], _ => rfl); (case a => k_is); (case i => k_is); (case l => k_is); (case c => k_is); (case k => k_is))
      (case m_has_day => refine' Ib.dm_of ?a ?i ?l ?c ?k (fun _ _ _ _ _ _ us hl => match us, hl with | [_, _], _ => rfl); (case a => k_is); (case i => k_is); (case l => k_is); (case c => k_is); (case k => k_is))
      (case m_last_break_before => refine' Ib.dm_of ?a ?i ?l ?c ?k (fun _ _ _ _ _ _ us hl => match us, hl with | [_, _], _ => rfl); (case a => k_is); (case i => k_is); (case l => k_is); (case c => k_is); (case k => k_is))
      (case m_add_break => refine' Ib.dm_of ?a ?i ?l ?c ?k (fun _ _ _ _ _ _ us hl => match us, hl with | [_, _], _ => rfl); (case a => k_is); (case i => k_is); (case l => k_is); (case c => k_is); (case k => k_is))
      (case m_remove_break => refine' Ib.dm_of ?a ?i ?l ?c ?k (fun _ _ _ _ _ _ us hl => match us, hl with | [_, _], _ => rfl); (case a => k_is); (case i => k_is); (case l => k_is); (case c => k_is); (case k => k_is))
      (case m_growth_with => refine' Ib.dm_of ?a ?i ?l ?c ?k (fun _ _ _ _ _ _ us hl => match us, hl with | [_, _, _], _ => rfl); (case a => k_is); (case i => k_is); (case l => k_is); (case c => k_is); (case k => k_is))
      (case d_thickness => refine' Ib.df_of KX G ?a ?l ?c ?k (fun _ _ _ _ _ _ us hl => match us, hl with | [_, _, _], _ => rfl); (case a => k_is); (case l => k_is); (case c => k_is); (case k => k_is))
      (case d_effort => refine' Ib.df_of KX G ?a ?l ?c ?k (fun _ _ _ _ _ _ us hl => match us, hl with | [_, _, _], _ => rfl); (case a => k_is); (case l => k_is); (case c => k_is); (case k => k_is))
      (case d_thicknesses => refine' Ib.df_of KX G ?a ?l ?c ?k (fun _ _ _ _ _ _ us hl => match us, hl with | [_, _], _ => rfl); (case a => k_is); (case l => k_is); (case c => k_is); (case k => k_is))
      (case d_effort_of => refine' Ib.df_of KX G ?a ?l ?c ?k (fun _ _ _ _ _ _ us hl => match us, hl with | [_, _], _ => rfl); (case a => k_is); (case l => k_is); (case c => k_is); (case k => k_is))
      (case d_is_valid => refine' Ib.df_of KX G ?a ?l ?c ?k (fun _ _ _ _ _ _ us hl => match us, hl with | [_, _, _], _ => rfl); (case a => k_is); (case l => k_is); (case c => k_is); (case k => k_is))
      (case d_row_without_breaks => refine' Ib.df_of KX G ?a ?l ?c ?k (fun _ _ _ _ _ _ us hl => match us, hl with | [_], _ => rfl); (case a => k_is); (case l => k_is); (case c => k_is); (case k => k_is))
      (case d_effort_with => refine' Ib.df_of KX G ?a ?l ?c ?k (fun _ _ _ _ _ _ us hl => match us, hl with | [_, _, _, _, _], _ => rfl); (case a => k_is); (case l => k_is); (case c => k_is); (case k => k_is))
      (case d_least_from => refine' Ib.df_of KX G ?a ?l ?c ?k (fun _ _ _ _ _ _ us hl => match us, hl with | [_, _, _, _], _ => rfl); (case a => k_is); (case l => k_is); (case c => k_is); (case k => k_is))
      (case d_row_with_one_more => refine' Ib.df_of KX G ?a ?l ?c ?k (fun _ _ _ _ _ _ us hl => match us, hl with | [_, _, _], _ => rfl); (case a => k_is); (case l => k_is); (case c => k_is); (case k => k_is))
      (case d_effort_rows => refine' Ib.df_of KX G ?a ?l ?c ?k (fun _ _ _ _ _ _ us hl => match us, hl with | [_, _, _], _ => rfl); (case a => k_is); (case l => k_is); (case c => k_is); (case k => k_is))
      (case d_least_effort => refine' Ib.df_of KX G ?a ?l ?c ?k (fun _ _ _ _ _ _ us hl => match us, hl with | [_, _, _], _ => rfl); (case a => k_is); (case l => k_is); (case c => k_is); (case k => k_is))
      (case d_first_break => refine' Ib.df_of KX G ?a ?l ?c ?k (fun _ _ _ _ _ _ us hl => match us, hl with | [_, _, _, _, _], _ => rfl); (case a => k_is); (case l => k_is); (case c => k_is); (case k => k_is))
      (case d_least_breaks => refine' Ib.df_of KX G ?a ?l ?c ?k (fun _ _ _ _ _ _ us hl => match us, hl with | [_, _, _], _ => rfl); (case a => k_is); (case l => k_is); (case c => k_is); (case k => k_is))
      (case d_least_number => refine' Ib.df_of KX G ?a ?l ?c ?k (fun _ _ _ _ _ _ us hl => match us, hl with | [_, _], _ => rfl); (case a => k_is); (case l => k_is); (case c => k_is); (case k => k_is))
      (case d_cheapest => refine' Ib.df_of KX G ?a ?l ?c ?k (fun _ _ _ _ _ _ us hl => match us, hl with | [_, _, _], _ => rfl); (case a => k_is); (case l => k_is); (case c => k_is); (case k => k_is))
      (case d_balanced => refine' Ib.df_of KX G ?a ?l ?c ?k (fun _ _ _ _ _ _ us hl => match us, hl with | [_, _], _ => rfl); (case a => k_is); (case l => k_is); (case c => k_is); (case k => k_is))
      (case d_thickness_on => refine' Ib.df_of KX G ?a ?l ?c ?k (fun _ _ _ _ _ _ us hl => match us, hl with | [_, _], _ => rfl); (case a => k_is); (case l => k_is); (case c => k_is); (case k => k_is))
      (case d_add_break => refine' Ib.df_of KX G ?a ?l ?c ?k (fun _ _ _ _ _ _ us hl => match us, hl with | [_, _], _ => rfl); (case a => k_is); (case l => k_is); (case c => k_is); (case k => k_is))
      (case d_remove_break => refine' Ib.df_of KX G ?a ?l ?c ?k (fun _ _ _ _ _ _ us hl => match us, hl with | [_, _], _ => rfl); (case a => k_is); (case l => k_is); (case c => k_is); (case k => k_is))
      (case d_list_breaks => refine' Ib.df_of KX G ?a ?l ?c ?k (fun _ _ _ _ _ _ us hl => match us, hl with | [_, _], _ => rfl); (case a => k_is); (case l => k_is); (case c => k_is); (case k => k_is))
      (case d_thickness_per_break => refine' Ib.df_of KX G ?a ?l ?c ?k (fun _ _ _ _ _ _ us hl => match us, hl with | [_, _], _ => rfl); (case a => k_is); (case l => k_is); (case c => k_is); (case k => k_is))
      (case d_is_valid_schedule => refine' Ib.df_of KX G ?a ?l ?c ?k (fun _ _ _ _ _ _ us hl => match us, hl with | [_, _], _ => rfl); (case a => k_is); (case l => k_is); (case c => k_is); (case k => k_is))
      (case d_schedule_cost => refine' Ib.df_of KX G ?a ?l ?c ?k (fun _ _ _ _ _ _ us hl => match us, hl with | [_, _], _ => rfl); (case a => k_is); (case l => k_is); (case c => k_is); (case k => k_is))
      (case d_excess_effort => refine' Ib.df_of KX G ?a ?l ?c ?k (fun _ _ _ _ _ _ us hl => match us, hl with | [_, _], _ => rfl); (case a => k_is); (case l => k_is); (case c => k_is); (case k => k_is))
      (case d_thickness_at => refine' Ib.df_of KX G ?a ?l ?c ?k (fun _ _ _ _ _ _ us hl => match us, hl with | [_, _], _ => rfl); (case a => k_is); (case l => k_is); (case c => k_is); (case k => k_is))
      (case d_add_day => refine' Ib.df_of KX G ?a ?l ?c ?k (fun _ _ _ _ _ _ us hl => match us, hl with | [_, _], _ => rfl); (case a => k_is); (case l => k_is); (case c => k_is); (case k => k_is))
      (case d_remove_last_day => refine' Ib.df_of KX G ?a ?l ?c ?k (fun _ _ _ _ _ _ us hl => match us, hl with | [_, _], _ => rfl); (case a => k_is); (case l => k_is); (case c => k_is); (case k => k_is))
      (case d_set_growth => refine' Ib.df_of KX G ?a ?l ?c ?k (fun _ _ _ _ _ _ us hl => match us, hl with | [_, _], _ => rfl); (case a => k_is); (case l => k_is); (case c => k_is); (case k => k_is))
      (case d_set_trip_cost => refine' Ib.df_of KX G ?a ?l ?c ?k (fun _ _ _ _ _ _ us hl => match us, hl with | [_, _], _ => rfl); (case a => k_is); (case l => k_is); (case c => k_is); (case k => k_is))
      (case d_set_max_thickness => refine' Ib.df_of KX G ?a ?l ?c ?k (fun _ _ _ _ _ _ us hl => match us, hl with | [_, _], _ => rfl); (case a => k_is); (case l => k_is); (case c => k_is); (case k => k_is))
      (case d_list_growth => refine' Ib.df_of KX G ?a ?l ?c ?k (fun _ _ _ _ _ _ us hl => match us, hl with | [_, _], _ => rfl); (case a => k_is); (case l => k_is); (case c => k_is); (case k => k_is))
      (case d_thickness_between => refine' Ib.df_of KX G ?a ?l ?c ?k (fun _ _ _ _ _ _ us hl => match us, hl with | [_, _], _ => rfl); (case a => k_is); (case l => k_is); (case c => k_is); (case k => k_is))
      (case d_total_growth => refine' Ib.df_of KX G ?a ?l ?c ?k (fun _ _ _ _ _ _ us hl => match us, hl with | [_, _], _ => rfl); (case a => k_is); (case l => k_is); (case c => k_is); (case k => k_is))
      (case d_summary => refine' Ib.df_of KX G ?a ?l ?c ?k (fun _ _ _ _ _ _ us hl => match us, hl with | [_, _], _ => rfl); (case a => k_is); (case l => k_is); (case c => k_is); (case k => k_is))
      (case d_refusal_of => refine' Ib.df_of KX G ?a ?l ?c ?k (fun _ _ _ _ _ _ us hl => match us, hl with | [_, _], _ => rfl); (case a => k_is); (case l => k_is); (case c => k_is); (case k => k_is))
      (case d_optimal_breaks => refine' Ib.df_of KX G ?a ?l ?c ?k (fun _ _ _ _ _ _ us hl => match us, hl with | [_, _], _ => rfl); (case a => k_is); (case l => k_is); (case c => k_is); (case k => k_is))
      (case d_use_optimal_breaks => refine' Ib.df_of KX G ?a ?l ?c ?k (fun _ _ _ _ _ _ us hl => match us, hl with | [_, _], _ => rfl); (case a => k_is); (case l => k_is); (case c => k_is); (case k => k_is))
      (case d_saving_of_break => refine' Ib.df_of KX G ?a ?l ?c ?k (fun _ _ _ _ _ _ us hl => match us, hl with | [_, _], _ => rfl); (case a => k_is); (case l => k_is); (case c => k_is); (case k => k_is))
      (case d_min_break_count => refine' Ib.df_of KX G ?a ?l ?c ?k (fun _ _ _ _ _ _ us hl => match us, hl with | [_, _], _ => rfl); (case a => k_is); (case l => k_is); (case c => k_is); (case k => k_is))
      (case d_cheapest_answer => refine' Ib.df_of KX G ?a ?l ?c ?k (fun _ _ _ _ _ _ us hl => match us, hl with | [_, _, _], _ => rfl); (case a => k_is); (case l => k_is); (case c => k_is); (case k => k_is))
      (case d_cheapest_break_count => refine' Ib.df_of KX G ?a ?l ?c ?k (fun _ _ _ _ _ _ us hl => match us, hl with | [_, _], _ => rfl); (case a => k_is); (case l => k_is); (case c => k_is); (case k => k_is))
      (case d_use_cheapest_breaks => refine' Ib.df_of KX G ?a ?l ?c ?k (fun _ _ _ _ _ _ us hl => match us, hl with | [_, _], _ => rfl); (case a => k_is); (case l => k_is); (case c => k_is); (case k => k_is))
      (case d_cheapest_with_growth => refine' Ib.df_of KX G ?a ?l ?c ?k (fun _ _ _ _ _ _ us hl => match us, hl with | [_, _], _ => rfl); (case a => k_is); (case l => k_is); (case c => k_is); (case k => k_is))
      (case d_cheapest_with_max_thickness => refine' Ib.df_of KX G ?a ?l ?c ?k (fun _ _ _ _ _ _ us hl => match us, hl with | [_, _], _ => rfl); (case a => k_is); (case l => k_is); (case c => k_is); (case k => k_is))
      (case d_balanced_effort => refine' Ib.df_of KX G ?a ?l ?c ?k (fun _ _ _ _ _ _ us hl => match us, hl with | [_, _], _ => rfl); (case a => k_is); (case l => k_is); (case c => k_is); (case k => k_is))
      (case d_answer_first => refine' Ib.df_of KX G ?a ?l ?c ?k (fun _ _ _ _ _ _ us hl => match us, hl with | [_, _, _], _ => rfl); (case a => k_is); (case l => k_is); (case c => k_is); (case k => k_is))
      (case d_answer_second => refine' Ib.df_of KX G ?a ?l ?c ?k (fun _ _ _ _ _ _ us hl => match us, hl with | [_, _, _], _ => rfl); (case a => k_is); (case l => k_is); (case c => k_is); (case k => k_is))
      (case d_answer_third => refine' Ib.df_of KX G ?a ?l ?c ?k (fun _ _ _ _ _ _ us hl => match us, hl with | [_, _, _], _ => rfl); (case a => k_is); (case l => k_is); (case c => k_is); (case k => k_is))
      (case d_answer_of => refine' Ib.df_of KX G ?a ?l ?c ?k (fun _ _ _ _ _ _ us hl => match us, hl with | [_, _, _], _ => rfl); (case a => k_is); (case l => k_is); (case c => k_is); (case k => k_is))
      (case d_split_calls => refine' Ib.df_of KX G ?a ?l ?c ?k (fun _ _ _ _ _ _ us hl => match us, hl with | [_], _ => rfl); (case a => k_is); (case l => k_is); (case c => k_is); (case k => k_is))
  case S =>
    intro K H xs a hO hwi hask hx
    cases hx with
    | cons h1 h2 =>
      cases h2
      cases h1 with
      | lst hs ha =>
        have e := L2.ints_dw a.1 _ ha
        subst e
        have q : ((Codec.inLen 0 150 a.1 && a.1.all (Codec.inInt 0 4294967295)) && true) = true := hwi
        rw [Bool.and_eq_true, Bool.and_eq_true] at q
        obtain ⟨cs, c1, c2, c3⟩ := Ib.due (l := a.1) hask
        have hlen : a.1.length ≤ 150 := (Codec.inNat_iff.mp q.1.1).2
        have hnn : ∀ x ∈ a.1, 0 ≤ x := fun x hx => (Codec.inInt_iff.mp (List.all_eq_true.mp q.1.2 x hx)).1
        refine ⟨_, cs, rfl, by rw [← c1]; exact hs, by rw [← c1]; exact hlen, c2, by rw [← c1]; exact hnn, fun H' p hp => ?_⟩
        rw [← c3] at hp
        exact .lst (L2.SqL.of hp) (L2.dw_ints _)
#print axioms PySem.Challenge.cw_icebreaks_s01_answers_holds
