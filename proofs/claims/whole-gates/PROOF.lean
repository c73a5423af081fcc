import PyProof.Rows.All
import Wide.All
import OpenK.AllK
import Wide.FinOn
import KE.KStateDown
import Lean
import HandS.ForMost
import HandS.WordsExc
import HandS.Defaults
import HandS.Deep
import HandS.TupAny
import HandS.Conv
import HandS.TupSets
import HandS.Zip
import HandS.IsInst
import HandS.Style
import HandS.RaiseMore
import HandS.TupLen
import HandS.Evl
import HandS.Head0
import HandS.Head1
import HandS.Head2
import HandS.HeadEnd
import HandS.HeadHook1
import HandS.HeadHook2
import PySem.Challenge.RW_signrounds_k67_whole_gates_and_gate_rows
import KE.GoesZip
import KE.GoesMore
import KE.GoesEnum
import PyProof.EqAt
import PyProof.ReprRoads
import PyProof.ReprLen
set_option Elab.async false
set_option linter.all false
set_option maxRecDepth 100000
/-! webs, ties, choices, rows: the plain mathematics; no program in sight -/
namespace Sg

abbrev Web := List (List Int)
/-- the sign of two places -/
def sg (W : Web) (x y : Nat) : Int := (W.getD x []).getD y 0
structure WebOk (W : Web) : Prop where
  pos : 1 ≤ W.length
  le : W.length ≤ 10
  rows : ∀ r ∈ W, r.length = W.length
  ent : ∀ x y, sg W x y = -1 ∨ sg W x y = 0 ∨ sg W x y = 1
  sym : ∀ x y, sg W x y = sg W y x
  diag : ∀ x, sg W x x = 0
/-- the ties that begin at a place, ascending -/
def tiesAt (W : Web) (x : Nat) : List (Nat × Nat) :=
  ((List.range (W.length - (x + 1))).filter fun j => sg W x (x + 1 + j) != 0).map fun j => (x, x + 1 + j)
def ties (W : Web) : List (Nat × Nat) := (List.range W.length).flatMap (tiesAt W)
theorem mem_tiesAt {W : Web} {x : Nat} {t : Nat × Nat} : t ∈ tiesAt W x ↔ t.1 = x ∧ x < t.2 ∧ t.2 < W.length ∧ sg W x t.2 ≠ 0 := by
  unfold tiesAt
  simp only [List.mem_map, List.mem_filter, List.mem_range, bne_iff_ne]
  constructor
  · rintro ⟨j, ⟨h1, h2⟩, rfl⟩
    exact ⟨rfl, by simp only; omega, by simp only; omega, h2⟩
  · rintro ⟨h1, h2, h3, h4⟩
    refine ⟨t.2 - (x + 1), ⟨by omega, ?_⟩, ?_⟩
    · rw [show x + 1 + (t.2 - (x + 1)) = t.2 by omega]
      exact h4
    · obtain ⟨a, b⟩ := t
      simp only at h1 h2 ⊢
      rw [h1, show x + 1 + (b - (x + 1)) = b by omega]
theorem mem_ties {W : Web} {t : Nat × Nat} : t ∈ ties W ↔ t.1 < t.2 ∧ t.2 < W.length ∧ sg W t.1 t.2 ≠ 0 := by
  unfold ties
  rw [List.mem_flatMap]
  constructor
  · rintro ⟨x, hx, ht⟩
    obtain ⟨h1, h2, h3, h4⟩ := mem_tiesAt.mp ht
    subst h1
    exact ⟨h2, h3, h4⟩
  · rintro ⟨h1, h2, h3⟩
    exact ⟨t.1, List.mem_range.mpr (by omega), mem_tiesAt.mpr ⟨rfl, h1, h2, h3⟩⟩
/-- lexicographically ahead -/
def LexLt (s t : Nat × Nat) : Prop := s.1 < t.1 ∨ (s.1 = t.1 ∧ s.2 < t.2)
theorem LexLt.ne {s t : Nat × Nat} (h : LexLt s t) : s ≠ t := by
  rintro rfl
  rcases h with h | h <;> omega
theorem tiesAt_asc (W : Web) (x : Nat) : (tiesAt W x).Pairwise LexLt := by
  unfold tiesAt
  rw [List.pairwise_map]
  refine List.Pairwise.filter _ ?_
  refine List.Pairwise.imp ?_ List.pairwise_lt_range
  intro a b h
  exact .inr ⟨rfl, by simp only; omega⟩
theorem ties_asc (W : Web) : (ties W).Pairwise LexLt := by
  unfold ties
  generalize W.length = n
  induction n with
  | zero => exact List.Pairwise.nil
  | succ n ih =>
    rw [List.range_succ, List.flatMap_append, List.pairwise_append]
    refine ⟨ih, ?_, ?_⟩
    · simp only [List.flatMap_cons, List.flatMap_nil, List.append_nil]
      exact tiesAt_asc W n
    · intro s hs t ht
      obtain ⟨x, hx, h1⟩ := List.mem_flatMap.mp hs
      simp only [List.flatMap_cons, List.flatMap_nil, List.append_nil] at ht
      have e1 := (mem_tiesAt.mp h1).1
      have e2 := (mem_tiesAt.mp ht).1
      have := List.mem_range.mp hx
      exact .inl (by omega)
theorem ties_nodup (W : Web) : (ties W).Nodup := (ties_asc W).imp fun h => h.ne
theorem tiesAt_len (W : Web) (x : Nat) : (tiesAt W x).length ≤ W.length - (x + 1) := by
  unfold tiesAt
  rw [List.length_map]
  exact Nat.le_trans (List.length_filter_le _ _) (by rw [List.length_range]; exact Nat.le_refl _)
theorem flat_len (W : Web) : ∀ m, ((List.range m).flatMap (tiesAt W)).length ≤ m * W.length
  | 0 => by simp
  | m + 1 => by
    rw [List.range_succ, List.flatMap_append, List.length_append]
    have := flat_len W m
    have := tiesAt_len W m
    simp only [List.flatMap_cons, List.flatMap_nil, List.append_nil]
    rw [Nat.succ_mul]
    omega
theorem ties_len {W : Web} (ok : WebOk W) : (ties W).length ≤ 45 := by
  have key : ∀ m, m ≤ W.length → 2 * ((List.range m).flatMap (tiesAt W)).length + m * (m + 1) ≤ 2 * (m * W.length) := by
    intro m
    induction m with
    | zero => intro _; simp
    | succ m ih =>
      intro hm
      have h1 := ih (by omega)
      have h2 := tiesAt_len W m
      rw [List.range_succ, List.flatMap_append, List.length_append]
      simp only [List.flatMap_cons, List.flatMap_nil, List.append_nil]
      rw [Nat.succ_mul m W.length]
      have h3 : (m + 1) * (m + 1 + 1) = m * (m + 1) + 2 * (m + 1) := by
        rw [Nat.mul_add, Nat.add_mul m 1 (m + 1), Nat.mul_one]
        omega
      omega
  have h := key W.length (Nat.le_refl _)
  unfold ties
  have h1 := ok.le
  have h2 := ok.pos
  revert h h1 h2
  generalize W.length = n
  generalize ((List.range n).flatMap (tiesAt W)).length = l
  intro h h1 h2
  have hn : n = 1 ∨ n = 2 ∨ n = 3 ∨ n = 4 ∨ n = 5 ∨ n = 6 ∨ n = 7 ∨ n = 8 ∨ n = 9 ∨ n = 10 := by omega
  rcases hn with rfl | rfl | rfl | rfl | rfl | rfl | rfl | rfl | rfl | rfl <;> omega

/-- how far a row is from the two ends being even -/
def dif (W : Web) (h : Nat → Int) (t : Nat × Nat) : Int := h t.1 - sg W t.1 t.2 * h t.2
def way (W : Web) (h : Nat → Int) (t : Nat × Nat) : Int := if 0 < dif W h t then 1 else -1
/-- the choice that a row keeps -/
def kept (W : Web) (h : Nat → Int) : List Int := (ties W).map (way W h)
def ChOk (W : Web) (C : List Int) : Prop := C.length = (ties W).length ∧ ∀ w ∈ C, w = 1 ∨ w = -1
def Keeps (W : Web) (h : Nat → Int) (C : List Int) : Prop :=
  C = kept W h ∧ ∀ t ∈ ties W, dif W h t ≠ 0
def Stands (W : Web) (C : List Int) : Prop := ∃ h : Nat → Int, Keeps W h C
noncomputable def standsB (W : Web) (C : List Int) : Bool := @decide (Stands W C) (Classical.propDecidable _)
theorem standsB_iff {W : Web} {C : List Int} : standsB W C = true ↔ Stands W C := by
  unfold standsB
  exact @decide_eq_true_iff _ (Classical.propDecidable _)
theorem way_or (W : Web) (h : Nat → Int) (t : Nat × Nat) : way W h t = 1 ∨ way W h t = -1 := by
  unfold way
  split
  · exact .inl rfl
  · exact .inr rfl
theorem kept_ok (W : Web) (h : Nat → Int) : ChOk W (kept W h) := by
  refine ⟨by unfold kept; rw [List.length_map], fun w hw => ?_⟩
  obtain ⟨t, _, rfl⟩ := List.mem_map.mp hw
  exact way_or W h t
theorem Stands.ok {W : Web} {C : List Int} (s : Stands W C) : ChOk W C := by
  obtain ⟨h, rfl, _⟩ := s
  exact kept_ok W h
/-- the other way at one place -/
def flip (C : List Int) (k : Nat) : List Int := C.set k (-(C.getD k 0))
theorem flip_len (C : List Int) (k : Nat) : (flip C k).length = C.length := by
  unfold flip
  rw [List.length_set]
theorem flip_ok {W : Web} {C : List Int} (ok : ChOk W C) (k : Nat) : ChOk W (flip C k) := by
  refine ⟨by rw [flip_len]; exact ok.1, fun w hw => ?_⟩
  unfold flip at hw
  rcases List.mem_or_eq_of_mem_set hw with h | h
  · exact ok.2 w h
  · by_cases hk : k < C.length
    · have hm : C.getD k 0 ∈ C := by
        rw [List.getD_eq_getElem?_getD, List.getElem?_eq_getElem hk]
        exact List.getElem_mem hk
      rcases ok.2 _ hm with e | e
      · right; rw [h, e]
      · left; rw [h, e]; rfl
    · rw [List.set_eq_of_length_le (by omega)] at hw
      exact ok.2 w hw

/-! ### the walk of rows -/
/-- of unlike sizes, none 0 -/
structure Gen (n : Nat) (h : Nat → Int) : Prop where
  nz : ∀ x, x < n → h x ≠ 0
  ne : ∀ x y, x < n → y < n → x ≠ y → h x ≠ h y ∧ h x ≠ - h y
def az (v : Int) : Int := if 0 < v then v else -v
def side (v w : Int) : Int := if 0 < v then w else -w
def upd1 (h : Nat → Int) (x : Nat) (v : Int) : Nat → Int := fun y => if y = x then v else h y
def dot : Nat → (Nat → Int) → (Nat → Int) → Int
  | 0, _, _ => 0
  | n + 1, h, g => dot n h g + h n * g n
theorem dot_out {n : Nat} {h g : Nat → Int} {x : Nat} {v : Int} (hx : n ≤ x) : dot n (upd1 h x v) g = dot n h g := by
  induction n with
  | zero => rfl
  | succ n ih =>
    unfold dot
    rw [ih (by omega)]
    have : upd1 h x v n = h n := by
      unfold upd1
      rw [if_neg (by omega)]
    rw [this]
theorem dot_upd {n : Nat} {h g : Nat → Int} {x : Nat} {v : Int} (hx : x < n) : dot n (upd1 h x v) g = dot n h g + (v - h x) * g x := by
  induction n with
  | zero => omega
  | succ n ih =>
    unfold dot
    by_cases e : x = n
    · subst e
      rw [dot_out (Nat.le_refl _)]
      have : upd1 h x v x = v := by
        unfold upd1
        rw [if_pos rfl]
      rw [this, Int.sub_mul]
      omega
    · rw [ih (by omega)]
      have : upd1 h x v n = h n := by
        unfold upd1
        rw [if_neg (by omega)]
      rw [this]
      omega
def most : Nat → Int → (Nat → Int) → Int
  | 0, _, _ => 0
  | n + 1, M, g => most n M g + M * az (g n)
theorem mul_le_az {a b M : Int} (h1 : a ≤ M) (h2 : -M ≤ a) : a * b ≤ M * az b := by
  unfold az
  split
  · rename_i hb
    exact Int.mul_le_mul_of_nonneg_right h1 (by omega)
  · rename_i hb
    have h3 : (-a) * (-b) ≤ M * (-b) := Int.mul_le_mul_of_nonneg_right (by omega) (by omega)
    rw [Int.neg_mul_neg] at h3
    exact h3
theorem dot_le {n : Nat} {h g : Nat → Int} {M : Int} (hM : ∀ x, x < n → az (h x) ≤ M) : dot n h g ≤ most n M g := by
  induction n with
  | zero => exact Int.le_refl _
  | succ n ih =>
    unfold dot most
    have h1 := ih fun x hx => hM x (by omega)
    have h2 := hM n (by omega)
    have h3 : h n * g n ≤ M * az (g n) := by
      refine mul_le_az ?_ ?_
      · unfold az at h2
        split at h2 <;> omega
      · unfold az at h2
        split at h2 <;> omega
    omega
/-- sizes of two places exchanged -/
def swapSz (h : Nat → Int) (x y : Nat) : Nat → Int := upd1 (upd1 h x (side (h x) (az (h y)))) y (side (h y) (az (h x)))
theorem swapSz_x {h : Nat → Int} {x y : Nat} (ne : x ≠ y) : swapSz h x y x = side (h x) (az (h y)) := by
  unfold swapSz upd1
  rw [if_neg ne, if_pos rfl]
theorem swapSz_y {h : Nat → Int} {x y : Nat} : swapSz h x y y = side (h y) (az (h x)) := by
  unfold swapSz upd1
  rw [if_pos rfl]
theorem swapSz_z {h : Nat → Int} {x y z : Nat} (nx : z ≠ x) (ny : z ≠ y) : swapSz h x y z = h z := by
  unfold swapSz upd1
  rw [if_neg ny, if_neg nx]
theorem swapSz_dot {n : Nat} {h g : Nat → Int} {x y : Nat} (hx : x < n) (hy : y < n) (ne : x ≠ y) :
    dot n (swapSz h x y) g = dot n h g + (az (h y) - az (h x)) * (side (h x) (g x) - side (h y) (g y)) := by
  unfold swapSz
  rw [dot_upd hy, dot_upd hx]
  have e : upd1 h x (side (h x) (az (h y))) y = h y := by
    unfold upd1
    rw [if_neg (Ne.symm ne)]
  rw [e]
  have e1 : (side (h x) (az (h y)) - h x) * g x = (az (h y) - az (h x)) * side (h x) (g x) := by
    unfold side az
    split
    · rfl
    · rw [Int.mul_neg, ← Int.neg_mul]
      congr 1
      split <;> omega
  have e2 : (side (h y) (az (h x)) - h y) * g y = - ((az (h y) - az (h x)) * side (h y) (g y)) := by
    unfold side az
    split
    · rw [← Int.neg_mul]
      congr 1
      omega
    · rw [Int.mul_neg, Int.neg_neg]
      congr 1
      split <;> omega
  rw [e1, e2, Int.mul_sub]
  omega
theorem az_pos {v : Int} (h : v ≠ 0) : 0 < az v := by
  unfold az
  split <;> omega
theorem gen_az {n : Nat} {h : Nat → Int} (G : Gen n h) {x y : Nat} (hx : x < n) (hy : y < n) (ne : x ≠ y) : az (h x) ≠ az (h y) := by
  have := G.ne x y hx hy ne
  unfold az
  split <;> split <;> omega
theorem az_side {v w : Int} : az (side v w) = az w := by
  unfold az side
  split <;> split <;> (try split) <;> omega
theorem side_nz {v w : Int} (h : w ≠ 0) : side v w ≠ 0 := by
  unfold side
  split <;> omega
theorem gen_of_az {n : Nat} {h : Nat → Int} (nz : ∀ x, x < n → h x ≠ 0) (ne : ∀ x y, x < n → y < n → x ≠ y → az (h x) ≠ az (h y)) : Gen n h := by
  refine ⟨nz, fun x y hx hy e => ?_⟩
  have := ne x y hx hy e
  constructor
  · intro q
    rw [q] at this
    exact this rfl
  · intro q
    rw [q] at this
    apply this
    have := nz y hy
    unfold az
    split <;> split <;> omega
theorem swapSz_gen {n : Nat} {h : Nat → Int} (G : Gen n h) {x y : Nat} (hx : x < n) (hy : y < n) (ne : x ≠ y) : Gen n (swapSz h x y) := by
  have zx : az (swapSz h x y x) = az (h y) := by
    rw [swapSz_x ne, az_side]
    have := az_pos (G.nz y hy)
    generalize az (h y) = a at *
    unfold az
    split <;> omega
  have zy : az (swapSz h x y y) = az (h x) := by
    rw [swapSz_y, az_side]
    have := az_pos (G.nz x hx)
    generalize az (h x) = a at *
    unfold az
    split <;> omega
  refine gen_of_az (fun z hz => ?_) (fun a b ha hb e => ?_)
  · by_cases e1 : z = y
    · subst e1
      rw [swapSz_y]
      exact side_nz (Int.ne_of_gt (az_pos (G.nz x hx)))
    · by_cases e2 : z = x
      · subst e2
        rw [swapSz_x ne]
        exact side_nz (Int.ne_of_gt (az_pos (G.nz y hy)))
      · rw [swapSz_z e2 e1]
        exact G.nz z hz
  · by_cases a1 : a = x
    · by_cases b1 : b = y
      · rw [a1, b1, zx, zy]
        exact gen_az G hy hx (Ne.symm ne)
      · have b2 : b ≠ x := fun q => e (a1.trans q.symm)
        rw [a1, zx, swapSz_z b2 b1]
        exact gen_az G hy hb (Ne.symm b1)
    · by_cases a2 : a = y
      · by_cases b1 : b = x
        · rw [a2, b1, zx, zy]
          exact gen_az G hx hy ne
        · have b2 : b ≠ y := fun q => e (a2.trans q.symm)
          rw [a2, zy, swapSz_z b1 b2]
          exact gen_az G hx hb (Ne.symm b1)
      · by_cases b1 : b = x
        · rw [b1, zx, swapSz_z a1 a2]
          exact gen_az G ha hy a2
        · by_cases b2 : b = y
          · rw [b2, zy, swapSz_z a1 a2]
            exact gen_az G ha hx a1
          · rw [swapSz_z a1 a2, swapSz_z b1 b2]
            exact gen_az G ha hb e
/-! ### signs of differences -/
theorem same_sign {s a b a2 b2 : Int} (hs : s = 1 ∨ s = -1) (ha : 0 < a ↔ 0 < a2) (hb : 0 < b ↔ 0 < b2) (na : a ≠ 0) (nb : b ≠ 0) (na2 : a2 ≠ 0) (nb2 : b2 ≠ 0)
    (e : az a < az b ↔ az a2 < az b2) (n1 : az a ≠ az b) (n2 : az a2 ≠ az b2) : 0 < a - s * b ↔ 0 < a2 - s * b2 := by
  unfold az at *
  rcases hs with rfl | rfl
  · split at e <;> split at e <;> split at e <;> split at e <;> omega
  · split at e <;> split at e <;> split at e <;> split at e <;> omega
theorem way_eq {W : Web} {h h2 : Nat → Int} {t : Nat × Nat} (e : 0 < dif W h t ↔ 0 < dif W h2 t) : way W h t = way W h2 t := by
  unfold way
  by_cases q : 0 < dif W h t
  · rw [if_pos q, if_pos (e.mp q)]
  · rw [if_neg q, if_neg fun z => q (e.mpr z)]
theorem tie_sg {W : Web} (ok : WebOk W) {t : Nat × Nat} (ht : t ∈ ties W) : sg W t.1 t.2 = 1 ∨ sg W t.1 t.2 = -1 := by
  have h := (mem_ties.mp ht).2.2
  rcases ok.ent t.1 t.2 with e | e | e
  · exact .inr e
  · exact absurd e h
  · exact .inl e
theorem gen_dif {W : Web} (ok : WebOk W) {h : Nat → Int} (G : Gen W.length h) {t : Nat × Nat} (ht : t ∈ ties W) : dif W h t ≠ 0 := by
  obtain ⟨h1, h2, _⟩ := mem_ties.mp ht
  have := G.ne t.1 t.2 (by omega) h2 (by omega)
  unfold dif
  rcases tie_sg ok ht with e | e <;> rw [e] <;> omega
theorem side_pos {v w : Int} (h : 0 < w) : 0 < side v w ↔ 0 < v := by
  unfold side
  split <;> omega
section
variable {W : Web} {h : Nat → Int} {x y : Nat}
theorem swapSz_sign (G : Gen W.length h) (hx : x < W.length) (hy : y < W.length) (ne : x ≠ y) (z : Nat) : 0 < swapSz h x y z ↔ 0 < h z := by
  by_cases e1 : z = y
  · subst e1
    rw [swapSz_y]
    exact side_pos (az_pos (G.nz x hx))
  · by_cases e2 : z = x
    · subst e2
      rw [swapSz_x ne]
      exact side_pos (az_pos (G.nz y hy))
    · rw [swapSz_z e2 e1]
theorem swapSz_az_x (G : Gen W.length h) (hy : y < W.length) (ne : x ≠ y) : az (swapSz h x y x) = az (h y) := by
  rw [swapSz_x ne, az_side]
  have := az_pos (G.nz y hy)
  generalize az (h y) = a at *
  unfold az
  split <;> omega
theorem swapSz_az_y (G : Gen W.length h) (hx : x < W.length) : az (swapSz h x y y) = az (h x) := by
  rw [swapSz_y, az_side]
  have := az_pos (G.nz x hx)
  generalize az (h x) = a at *
  unfold az
  split <;> omega
/-- but for a tie of the two nothing changes -/
theorem swapSz_way (ok : WebOk W) (G : Gen W.length h) (hx : x < W.length) (hy : y < W.length) (lt : az (h x) < az (h y)) (cons : ∀ z, z < W.length → ¬ (az (h x) < az (h z) ∧ az (h z) < az (h y)))
    {t : Nat × Nat} (ht : t ∈ ties W) (n1 : ¬ (t.1 = x ∧ t.2 = y)) (n2 : ¬ (t.1 = y ∧ t.2 = x)) : way W (swapSz h x y) t = way W h t := by
  have ne : x ≠ y := by
    rintro rfl
    omega
  obtain ⟨h1, h2, _⟩ := mem_ties.mp ht
  obtain ⟨a, b⟩ := t
  simp only at h1 h2 n1 n2
  have ha : a < W.length := by omega
  have G2 := swapSz_gen G hx hy ne
  refine (way_eq ?_).symm
  unfold dif
  simp only
  refine same_sign (tie_sg ok ht) (swapSz_sign G hx hy ne a).symm (swapSz_sign G hx hy ne b).symm (G.nz a ha) (G.nz b h2) (G2.nz a ha) (G2.nz b h2) ?_ (gen_az G ha h2 (by omega)) (gen_az G2 ha h2 (by omega))
  by_cases a1 : a = x
  · subst a1
    have b1 : b ≠ y := fun q => n1 ⟨rfl, q⟩
    have b2 : b ≠ a := by omega
    rw [swapSz_az_x G hy ne, swapSz_z b2 b1]
    have c := cons b h2
    have q := gen_az G h2 hy b1
    have q2 := gen_az G h2 hx b2
    omega
  · by_cases a2 : a = y
    · subst a2
      have b1 : b ≠ x := fun q => n2 ⟨rfl, q⟩
      have b2 : b ≠ a := by omega
      rw [swapSz_az_y G hx, swapSz_z b1 b2]
      have c := cons b h2
      have q := gen_az G h2 hx b1
      have q2 := gen_az G h2 hy b2
      omega
    · rw [swapSz_z a1 a2]
      by_cases b1 : b = x
      · subst b1
        rw [swapSz_az_x G hy ne]
        have c := cons a ha
        have q := gen_az G ha hy a2
        have q2 := gen_az G ha hx a1
        omega
      · by_cases b2 : b = y
        · subst b2
          rw [swapSz_az_y G hx]
          have c := cons a ha
          have q := gen_az G ha hx a1
          have q2 := gen_az G ha hy a2
          omega
        · rw [swapSz_z b1 b2]
/-- at a tie of the two: as it was, or as the goal has it -/
theorem swapSz_goal (ok : WebOk W) (G : Gen W.length h) {g : Nat → Int} (hx : x < W.length) (hy : y < W.length) (lt : az (h x) < az (h y)) (bad : side (h y) (g y) < side (h x) (g x))
    {t : Nat × Nat} (ht : t ∈ ties W) (e : (t.1 = x ∧ t.2 = y) ∨ (t.1 = y ∧ t.2 = x)) : way W (swapSz h x y) t = way W h t ∨ way W (swapSz h x y) t = way W g t := by
  have ne : x ≠ y := by
    rintro rfl
    omega
  have hs := tie_sg ok ht
  have key : ∀ (s a b u v : Int), (s = 1 ∨ s = -1) → a ≠ 0 → b ≠ 0 → az a < az b → side b v < side a u →
      ((0 < side a (az b) - s * side b (az a) ↔ 0 < a - s * b) ∨ (0 < side a (az b) - s * side b (az a) ↔ 0 < u - s * v)) ∧
      ((0 < side b (az a) - s * side a (az b) ↔ 0 < b - s * a) ∨ (0 < side b (az a) - s * side a (az b) ↔ 0 < v - s * u)) := by
    intro s a b u v hs na nb hl hb
    unfold side az at *
    rcases hs with rfl | rfl
    · by_cases pa : 0 < a <;> by_cases pb : 0 < b <;> simp only [if_pos, if_neg, pa, pb, if_true, if_false] at hl hb ⊢ <;> omega
    · by_cases pa : 0 < a <;> by_cases pb : 0 < b <;> simp only [if_pos, if_neg, pa, pb, if_true, if_false] at hl hb ⊢ <;> omega
  obtain ⟨k1, k2⟩ := key (sg W t.1 t.2) (h x) (h y) (g x) (g y) hs (G.nz x hx) (G.nz y hy) lt bad
  obtain ⟨a, b⟩ := t
  simp only at e
  rcases e with ⟨rfl, rfl⟩ | ⟨rfl, rfl⟩
  · rcases k1 with q | q
    · refine .inl (way_eq ?_)
      unfold dif
      simp only
      rw [swapSz_x ne, swapSz_y]
      exact q
    · refine .inr (way_eq ?_)
      unfold dif
      simp only
      rw [swapSz_x ne, swapSz_y]
      exact q
  · rcases k2 with q | q
    · refine .inl (way_eq ?_)
      unfold dif
      simp only
      rw [swapSz_x ne, swapSz_y]
      exact q
    · refine .inr (way_eq ?_)
      unfold dif
      simp only
      rw [swapSz_x ne, swapSz_y]
      exact q
end
/-- the place of the least size turned: nothing changes -/
def turn1 (h : Nat → Int) (z : Nat) : Nat → Int := upd1 h z (- h z)
theorem turn1_z {h : Nat → Int} {z : Nat} : turn1 h z z = - h z := by
  unfold turn1 upd1
  rw [if_pos rfl]
theorem turn1_ne {h : Nat → Int} {z x : Nat} (e : x ≠ z) : turn1 h z x = h x := by
  unfold turn1 upd1
  rw [if_neg e]
theorem az_neg (v : Int) : az (-v) = az v := by
  unfold az
  split <;> split <;> omega
theorem turn1_az {h : Nat → Int} {z : Nat} (x : Nat) : az (turn1 h z x) = az (h x) := by
  by_cases e : x = z
  · subst e
    rw [turn1_z, az_neg]
  · rw [turn1_ne e]
theorem turn1_gen {n : Nat} {h : Nat → Int} (G : Gen n h) (z : Nat) : Gen n (turn1 h z) := by
  refine gen_of_az (fun x hx => ?_) (fun a b ha hb e => ?_)
  · have := az_pos (G.nz x hx)
    rw [← turn1_az (z := z)] at this
    intro q
    rw [q] at this
    exact absurd this (by decide)
  · rw [turn1_az, turn1_az]
    exact gen_az G ha hb e
theorem turn1_dot {n : Nat} {h g : Nat → Int} {z : Nat} (hz : z < n) (nz : h z ≠ 0) (b : side (h z) (g z) < 0) : dot n h g < dot n (turn1 h z) g := by
  unfold turn1
  rw [dot_upd hz]
  have e : (- h z - h z) * g z = 2 * (az (h z) * (- side (h z) (g z))) := by
    unfold az side
    split
    · rw [Int.mul_neg, Int.sub_mul, Int.neg_mul]
      omega
    · rw [Int.neg_neg, Int.sub_mul, Int.neg_mul]
      omega
  have p : 0 < az (h z) := az_pos nz
  rw [e]
  have := Int.mul_pos p (show 0 < - side (h z) (g z) by omega)
  omega
theorem turn1_way {W : Web} {h : Nat → Int} {z : Nat} (ok : WebOk W) (G : Gen W.length h) (least : ∀ x, x < W.length → az (h z) ≤ az (h x)) {t : Nat × Nat} (ht : t ∈ ties W) : way W (turn1 h z) t = way W h t := by
  obtain ⟨h1, h2, _⟩ := mem_ties.mp ht
  have hs := tie_sg ok ht
  obtain ⟨a, b⟩ := t
  simp only at h1 h2 hs
  have ha : a < W.length := by omega
  have q := gen_az G ha h2 (by omega)
  have qa := G.nz a ha
  have qb := G.nz b h2
  refine (way_eq ?_).symm
  unfold dif
  simp only
  by_cases e1 : a = z
  · subst e1
    rw [turn1_z, turn1_ne (by omega)]
    have l := least b h2
    generalize sg W a b = s at *
    unfold az at *
    rcases hs with rfl | rfl
    · split at l <;> split at l <;> omega
    · split at l <;> split at l <;> omega
  · rw [turn1_ne e1]
    by_cases e2 : b = z
    · subst e2
      rw [turn1_z]
      have l := least a ha
      generalize sg W a b = s at *
      unfold az at *
      rcases hs with rfl | rfl
      · split at l <;> split at l <;> omega
      · split at l <;> split at l <;> omega
    · rw [turn1_ne e2]

/-- two rows that differ at one tie keep choices that differ there alone -/
theorem kept_flip {W : Web} {h h2 : Nat → Int} {k : Nat} {t : Nat × Nat} (hk : (ties W)[k]? = some t) (d : way W h2 t ≠ way W h t) (same : ∀ u ∈ ties W, u ≠ t → way W h2 u = way W h u) : kept W h2 = flip (kept W h) k := by
  have hlt := (List.getElem?_eq_some_iff.mp hk).1
  apply List.ext_getElem?
  intro i
  unfold kept flip
  rw [List.getElem?_set, List.getElem?_map, List.getElem?_map]
  by_cases e : k = i
  · subst e
    rw [if_pos rfl, hk]
    simp only [Option.map_some]
    rw [if_pos (by rw [List.length_map]; exact hlt), List.getD_eq_getElem?_getD, List.getElem?_map, hk]
    simp only [Option.map_some, Option.getD_some]
    rcases way_or W h t with q | q <;> rcases way_or W h2 t with q2 | q2 <;> rw [q, q2] at d <;> rw [q, q2] <;> first | rfl | exact absurd rfl d
  · rw [if_neg e]
    cases hi : (ties W)[i]? with
    | none => rfl
    | some u =>
      simp only [Option.map_some]
      have hu : u ∈ ties W := List.mem_of_getElem? hi
      have ne : u ≠ t := by
        rintro rfl
        have hi2 := (List.getElem?_eq_some_iff.mp hi).1
        obtain ⟨_, e1⟩ := List.getElem?_eq_some_iff.mp hi
        obtain ⟨_, e2⟩ := List.getElem?_eq_some_iff.mp hk
        exact e ((List.getElem_inj (ties_nodup W)).mp (e2.trans e1.symm))
      rw [same u hu ne]

def Bad (n : Nat) (h g : Nat → Int) (x y : Nat) : Prop := x < n ∧ y < n ∧ az (h x) < az (h y) ∧ side (h y) (g y) < side (h x) (g x)
theorem bad_least {n : Nat} {h g : Nat → Int} : ∀ (d : Nat) (x y : Nat), Bad n h g x y → (az (h y) - az (h x)).toNat ≤ d → ∃ x y, Bad n h g x y ∧ ∀ z, z < n → ¬ (az (h x) < az (h z) ∧ az (h z) < az (h y)) := by
  intro d
  induction d with
  | zero =>
    intro x y b hd
    obtain ⟨_, _, h3, _⟩ := b
    omega
  | succ d ih =>
    intro x y b hd
    by_cases hz : ∃ z, z < n ∧ az (h x) < az (h z) ∧ az (h z) < az (h y)
    · obtain ⟨z, z1, z2, z3⟩ := hz
      obtain ⟨h1, h2, h3, h4⟩ := b
      by_cases q : side (h z) (g z) < side (h x) (g x)
      · exact ih x z ⟨h1, z1, z2, q⟩ (by omega)
      · exact ih z y ⟨z1, h2, z3, by omega⟩ (by omega)
    · exact ⟨x, y, b, fun z z1 z2 => hz ⟨z, z1, z2⟩⟩
theorem least_at {n : Nat} (h : Nat → Int) (hn : 0 < n) : ∃ z, z < n ∧ ∀ x, x < n → az (h z) ≤ az (h x) := by
  induction n with
  | zero => omega
  | succ n ih =>
    by_cases e : n = 0
    · subst e
      exact ⟨0, by omega, fun x hx => by
        have : x = 0 := by omega
        subst this
        exact Int.le_refl _⟩
    · obtain ⟨z, z1, z2⟩ := ih (by omega)
      by_cases q : az (h z) ≤ az (h n)
      · refine ⟨z, by omega, fun x hx => ?_⟩
        by_cases e2 : x = n
        · subst e2
          exact q
        · exact z2 x (by omega)
      · refine ⟨n, by omega, fun x hx => ?_⟩
        by_cases e2 : x = n
        · subst e2
          exact Int.le_refl _
        · have := z2 x (by omega)
          omega
/-- sorted: the same choice -/
theorem sorted_same {W : Web} {h g : Nat → Int} (ok : WebOk W) (G : Gen W.length h) (nb : ∀ x y, ¬ Bad W.length h g x y) (np : ∀ x, x < W.length → 0 ≤ side (h x) (g x)) (hd : ∀ t ∈ ties W, dif W g t ≠ 0) : kept W h = kept W g := by
  unfold kept
  refine List.map_congr_left fun t ht => way_eq ?_
  obtain ⟨h1, h2, _⟩ := mem_ties.mp ht
  have hs := tie_sg ok ht
  have hd1 := hd t ht
  obtain ⟨a, b⟩ := t
  unfold dif at hd1 ⊢
  simp only at h1 h2 hs hd1 ⊢
  have ha : a < W.length := by omega
  have q := gen_az G ha h2 (by omega)
  have pa := np a ha
  have pb := np b h2
  have na := G.nz a ha
  have nb' := G.nz b h2
  generalize sg W a b = s at *
  by_cases lt : az (h a) < az (h b)
  · have l : side (h a) (g a) ≤ side (h b) (g b) := Int.not_lt.mp fun z => nb a b ⟨ha, h2, lt, z⟩
    generalize h a = u at *
    generalize h b = v at *
    generalize g a = u2 at *
    generalize g b = v2 at *
    unfold side az at *
    rcases hs with rfl | rfl <;> split at l <;> split at l <;> (try split at lt) <;> (try split at lt) <;> (try split at pa) <;> (try split at pb) <;> omega
  · have l : side (h b) (g b) ≤ side (h a) (g a) := Int.not_lt.mp fun z => nb b a ⟨h2, ha, by omega, z⟩
    generalize h a = u at *
    generalize h b = v at *
    generalize g a = u2 at *
    generalize g b = v2 at *
    unfold side az at *
    rcases hs with rfl | rfl <;> split at l <;> split at l <;> (try split at lt) <;> (try split at lt) <;> (try split at pa) <;> (try split at pb) <;> omega
theorem row_walk {W : Web} {g : Nat → Int} (ok : WebOk W) (hd : ∀ t ∈ ties W, dif W g t ≠ 0) (M : Int) : ∀ (N : Nat) (h : Nat → Int), Gen W.length h → (∀ x, x < W.length → az (h x) ≤ M) →
    (most W.length M g - dot W.length h g).toNat < N → kept W h = kept W g ∨ ∃ k t, (ties W)[k]? = some t ∧ way W h t ≠ way W g t ∧ Stands W (flip (kept W h) k) := by
  intro N
  induction N with
  | zero => intro h _ _ q; omega
  | succ N ih =>
    intro h G hM hN
    have bd := dot_le (g := g) hM
    -- from a row that keeps the same choice
    have go : ∀ h2 : Nat → Int, Gen W.length h2 → (∀ x, x < W.length → az (h2 x) ≤ M) → dot W.length h g < dot W.length h2 g → kept W h2 = kept W h →
        kept W h = kept W g ∨ ∃ k t, (ties W)[k]? = some t ∧ way W h t ≠ way W g t ∧ Stands W (flip (kept W h) k) := by
      intro h2 G2 hM2 hl same
      have bd2 := dot_le (g := g) hM2
      rcases ih h2 G2 hM2 (by omega) with r | ⟨k, t, r1, r2, r3⟩
      · exact .inl (same.symm.trans r)
      · refine .inr ⟨k, t, r1, ?_, same ▸ r3⟩
        have e := congrArg (fun l => l[k]?) same
        unfold kept at e
        simp only [List.getElem?_map, r1, Option.map_some] at e
        rw [← Option.some.inj e]
        exact r2
    by_cases hb : ∃ x y, Bad W.length h g x y
    · obtain ⟨x0, y0, b0⟩ := hb
      obtain ⟨x, y, b, cons⟩ := bad_least _ x0 y0 b0 (Nat.le_refl _)
      obtain ⟨hx, hy, lt, bad⟩ := b
      have ne : x ≠ y := by
        rintro rfl
        omega
      have G2 := swapSz_gen G hx hy ne
      have hM2 : ∀ z, z < W.length → az (swapSz h x y z) ≤ M := fun z hz => by
        by_cases e1 : z = x
        · subst e1
          rw [swapSz_az_x G hy ne]
          exact hM y hy
        · by_cases e2 : z = y
          · subst e2
            rw [swapSz_az_y G hx]
            exact hM x hx
          · rw [swapSz_z e1 e2]
            exact hM z hz
      have hl : dot W.length h g < dot W.length (swapSz h x y) g := by
        rw [swapSz_dot hx hy ne]
        have := Int.mul_pos (show 0 < az (h y) - az (h x) by omega) (show 0 < side (h x) (g x) - side (h y) (g y) by omega)
        omega
      by_cases same : kept W (swapSz h x y) = kept W h
      · exact go _ G2 hM2 hl same
      · -- one tie changes
        have ex : ∃ t ∈ ties W, way W (swapSz h x y) t ≠ way W h t := by
          refine Classical.byContradiction fun q => same ?_
          unfold kept
          refine List.map_congr_left fun t ht => Classical.byContradiction fun z => q ⟨t, ht, z⟩
        obtain ⟨t, ht, hd2⟩ := ex
        have is : ∀ u ∈ ties W, way W (swapSz h x y) u ≠ way W h u → (u.1 = x ∧ u.2 = y) ∨ (u.1 = y ∧ u.2 = x) := fun u hu q =>
          Classical.byContradiction fun z => q (swapSz_way ok G hx hy lt cons hu (fun q1 => z (.inl q1)) fun q2 => z (.inr q2))
        obtain ⟨k, hklt, hk⟩ := List.getElem_of_mem ht
        have hk' : (ties W)[k]? = some t := by rw [List.getElem?_eq_getElem hklt, hk]
        refine .inr ⟨k, t, hk', ?_, ?_⟩
        · rcases swapSz_goal ok G (g := g) hx hy lt bad ht (is t ht hd2) with q | q
          · exact absurd q hd2
          · rw [← q]
            exact Ne.symm hd2
        · rw [← kept_flip hk' hd2 fun u hu ne2 => Classical.byContradiction fun z => ?_]
          · exact ⟨_, rfl, fun u hu => gen_dif ok G2 hu⟩
          · refine ne2 ?_
            have l1 := (mem_ties.mp hu).1
            have l2 := (mem_ties.mp ht).1
            have i1 := is u hu z
            have i2 := is t ht hd2
            obtain ⟨u1, u2⟩ := u
            obtain ⟨t1, t2⟩ := t
            simp only at l1 l2 i1 i2
            have e1 : u1 = t1 := by omega
            have e2 : u2 = t2 := by omega
            rw [e1, e2]
    · by_cases hp : ∃ x, x < W.length ∧ side (h x) (g x) < 0
      · obtain ⟨x, hx, hx2⟩ := hp
        obtain ⟨z, hz, least⟩ := least_at h (n := W.length) (by omega)
        have bz : side (h z) (g z) < 0 := by
          by_cases e : z = x
          · rw [e]
            exact hx2
          · have l := least x hx
            have q := gen_az G hz hx e
            refine Int.lt_of_le_of_lt (Int.not_lt.mp fun q2 => hb ⟨z, x, hz, hx, by omega, q2⟩) hx2
        refine go _ (turn1_gen G z) (fun y hy => by rw [turn1_az]; exact hM y hy) (turn1_dot hz (G.nz z hz) bz) ?_
        unfold kept
        exact List.map_congr_left fun t ht => turn1_way ok G least ht
      · exact .inl (sorted_same ok G (fun x y q => hb ⟨x, y, q⟩) (fun x hx => Int.not_lt.mp fun q => hp ⟨x, hx, q⟩) hd)
/-! ### any row made one of unlike sizes -/
def spread (n : Nat) (h : Nat → Int) : Nat → Int := fun x => (2 * (n : Int) + 3) * h x + ((x : Int) + 1)
theorem mul_far {M a : Int} (hM : 0 < M) (ha : a ≠ 0) : M ≤ M * a ∨ M * a ≤ -M := by
  rcases Int.lt_or_gt_of_ne ha with q | q
  · right
    have := Int.mul_le_mul_of_nonneg_left (show a ≤ -1 by omega) (Int.le_of_lt hM)
    rw [Int.mul_neg, Int.mul_one] at this
    exact this
  · left
    have := Int.mul_le_mul_of_nonneg_left (show 1 ≤ a by omega) (Int.le_of_lt hM)
    rw [Int.mul_one] at this
    exact this
theorem spread_gen (n : Nat) (h : Nat → Int) : Gen n (spread n h) := by
  refine ⟨fun x hx => ?_, fun x y hx hy e => ⟨fun q => ?_, fun q => ?_⟩⟩
  · intro q
    unfold spread at q
    by_cases z : h x = 0
    · rw [z, Int.mul_zero] at q
      omega
    · rcases mul_far (show 0 < 2 * (n : Int) + 3 by omega) z with r | r <;> omega
  · unfold spread at q
    have q2 : (2 * (n : Int) + 3) * (h x - h y) = (y : Int) - x := by
      rw [Int.mul_sub]
      omega
    by_cases z : h x - h y = 0
    · rw [z, Int.mul_zero] at q2
      omega
    · rcases mul_far (show 0 < 2 * (n : Int) + 3 by omega) z with r | r <;> omega
  · unfold spread at q
    have q2 : (2 * (n : Int) + 3) * (h x + h y) = - ((y : Int) + x + 2) := by
      rw [Int.mul_add]
      omega
    by_cases z : h x + h y = 0
    · rw [z, Int.mul_zero] at q2
      omega
    · rcases mul_far (show 0 < 2 * (n : Int) + 3 by omega) z with r | r <;> omega
theorem spread_way {W : Web} {h : Nat → Int} (ok : WebOk W) {t : Nat × Nat} (ht : t ∈ ties W) (hd : dif W h t ≠ 0) : way W (spread W.length h) t = way W h t := by
  obtain ⟨h1, h2, _⟩ := mem_ties.mp ht
  have hs := tie_sg ok ht
  refine (way_eq ?_).symm
  obtain ⟨a, b⟩ := t
  unfold dif spread at *
  simp only at *
  generalize sg W a b = s at *
  have e : (2 * (W.length : Int) + 3) * h a + ((a : Int) + 1) - s * ((2 * (W.length : Int) + 3) * h b + ((b : Int) + 1)) = (2 * (W.length : Int) + 3) * (h a - s * h b) + (((a : Int) + 1) - s * ((b : Int) + 1)) := by
    rcases hs with rfl | rfl
    · rw [Int.one_mul, Int.one_mul, Int.one_mul, Int.mul_sub]
      omega
    · rw [Int.neg_mul, Int.one_mul, Int.neg_mul, Int.one_mul, Int.neg_mul, Int.one_mul, Int.sub_neg, Int.sub_neg, Int.mul_add]
      omega
  rw [e]
  have sm : - (2 * (W.length : Int) + 3) < ((a : Int) + 1) - s * ((b : Int) + 1) ∧ ((a : Int) + 1) - s * ((b : Int) + 1) < 2 * (W.length : Int) + 3 := by
    rcases hs with rfl | rfl <;> omega
  rcases Int.lt_or_gt_of_ne hd with q | q
  · have := Int.mul_le_mul_of_nonneg_left (show h a - s * h b ≤ -1 by omega) (show 0 ≤ 2 * (W.length : Int) + 3 by omega)
    rw [Int.mul_neg, Int.mul_one] at this
    omega
  · have := Int.mul_le_mul_of_nonneg_left (show 1 ≤ h a - s * h b by omega) (show 0 ≤ 2 * (W.length : Int) + 3 by omega)
    rw [Int.mul_one] at this
    omega
theorem spread_keeps {W : Web} {h : Nat → Int} (ok : WebOk W) (hd : ∀ t ∈ ties W, dif W h t ≠ 0) : kept W (spread W.length h) = kept W h := by
  unfold kept
  exact List.map_congr_left fun t ht => spread_way ok ht (hd t ht)
theorem bound_of (n : Nat) (h : Nat → Int) : ∃ M : Int, ∀ x, x < n → az (h x) ≤ M := by
  induction n with
  | zero => exact ⟨0, fun x hx => by omega⟩
  | succ n ih =>
    obtain ⟨M, hM⟩ := ih
    refine ⟨if az (h n) ≤ M then M else az (h n), fun x hx => ?_⟩
    by_cases e : x = n
    · subst e
      split <;> omega
    · have := hM x (by omega)
      split <;> omega
/-- THE GATE: of two unlike standing choices, one tie at which they differ is a gate of the first -/
theorem gate_exists {W : Web} (ok : WebOk W) {C C' : List Int} (s : Stands W C) (s' : Stands W C') (ne : C ≠ C') :
    ∃ k t, (ties W)[k]? = some t ∧ C.getD k 0 ≠ C'.getD k 0 ∧ Stands W (flip C k) := by
  obtain ⟨h, rfl, hd⟩ := s
  obtain ⟨g, rfl, gd⟩ := s'
  obtain ⟨M, hM⟩ := bound_of W.length (spread W.length h)
  have e := spread_keeps ok hd
  rcases row_walk ok gd M _ (spread W.length h) (spread_gen _ _) hM (Nat.lt_succ_self _) with r | ⟨k, t, r1, r2, r3⟩
  · exact absurd (e.symm.trans r) ne
  · refine ⟨k, t, r1, ?_, e ▸ r3⟩
    have ht := List.mem_of_getElem? r1
    rw [spread_way ok ht (hd t ht)] at r2
    unfold kept
    rw [List.getD_eq_getElem?_getD, List.getD_eq_getElem?_getD, List.getElem?_map, List.getElem?_map, r1]
    exact r2

/-! ### how many gates -/
def Sol (W : Web) (x : Nat → Int) (t : Nat × Nat) : Prop := dif W x t = 0
/-- a row of no standing that all gates find even, all ties find even -/
theorem even_all {W : Web} (ok : WebOk W) {C : List Int} (s : Stands W C) {x : Nat → Int} (hx : ∀ k t, (ties W)[k]? = some t → Stands W (flip C k) → dif W x t = 0) : ∀ t ∈ ties W, dif W x t = 0 := by
  obtain ⟨h, rfl, hd⟩ := s
  -- a bound of the differences
  obtain ⟨K, hK0, hK⟩ : ∃ K : Int, 0 < K ∧ ∀ t ∈ ties W, - K < dif W h t ∧ dif W h t < K := by
    generalize ties W = l
    induction l with
    | nil => exact ⟨1, by decide, fun t ht => by cases ht⟩
    | cons u l ih =>
      obtain ⟨K, k0, k1⟩ := ih
      refine ⟨K + az (dif W h u) + 1, ?_, fun t ht => ?_⟩
      · unfold az
        split <;> omega
      · rcases List.mem_cons.mp ht with e | e
        · subst e
          unfold az
          split <;> omega
        · have := k1 t e
          unfold az
          split <;> omega
  -- x added in either way: the same choice
  have key : ∀ c : Int, (c = 1 ∨ c = -1) → ∀ t ∈ ties W, way W (fun v => c * K * x v + h v) t = way W h t := by
    intro c hc
    have lin : ∀ t, dif W (fun v => c * K * x v + h v) t = c * K * dif W x t + dif W h t := fun t => by
      unfold dif
      simp only
      rw [Int.mul_sub, Int.mul_add, ← Int.mul_assoc, Int.mul_comm (sg W t.1 t.2) (c * K), Int.mul_assoc (c * K)]
      omega
    have nz : ∀ t ∈ ties W, dif W (fun v => c * K * x v + h v) t ≠ 0 := fun t ht => by
      rw [lin]
      have b := hK t ht
      have d0 := hd t ht
      by_cases z : dif W x t = 0
      · rw [z, Int.mul_zero]
        omega
      · rw [Int.mul_assoc]
        rcases mul_far hK0 z with r | r <;> rcases hc with rfl | rfl <;> omega
    have same : kept W h = kept W (fun v => c * K * x v + h v) := by
      refine Classical.byContradiction fun q => ?_
      obtain ⟨k, t, r1, r2, r3⟩ := gate_exists ok ⟨h, rfl, hd⟩ ⟨_, rfl, nz⟩ q
      have z := hx k t r1 r3
      unfold kept at r2
      rw [List.getD_eq_getElem?_getD, List.getD_eq_getElem?_getD, List.getElem?_map, List.getElem?_map, r1] at r2
      refine r2 ?_
      simp only [Option.map_some, Option.getD_some]
      refine way_eq ?_
      rw [lin, z, Int.mul_zero, Int.zero_add]
    intro t ht
    obtain ⟨k, hk, e⟩ := List.getElem_of_mem ht
    have e2 := congrArg (fun l => l[k]?) same
    unfold kept at e2
    simp only [List.getElem?_map] at e2
    rw [List.getElem?_eq_getElem hk, e] at e2
    exact (Option.some.inj e2).symm
  intro t ht
  refine Classical.byContradiction fun z => ?_
  have k1 := key 1 (.inl rfl) t ht
  have k2 := key (-1) (.inr rfl) t ht
  have e := k1.trans k2.symm
  have lin : ∀ c : Int, dif W (fun v => c * K * x v + h v) t = c * (K * dif W x t) + dif W h t := fun c => by
    unfold dif
    simp only
    rw [← Int.mul_assoc, Int.mul_sub, Int.mul_add, ← Int.mul_assoc, Int.mul_comm (sg W t.1 t.2) (c * K), Int.mul_assoc (c * K)]
    omega
  have b := hK t ht
  have d0 := hd t ht
  unfold way at e
  rw [lin, lin] at e
  rcases mul_far hK0 z with r | r <;> split at e <;> split at e <;> first | omega | exact absurd e (by decide)
theorem nodup_le {α : Type} [DecidableEq α] : ∀ {l m : List α}, l.Nodup → (∀ x ∈ l, x ∈ m) → l.length ≤ m.length
  | [], _, _, _ => Nat.zero_le _
  | x :: l, m, nd, sub => by
    have h1 : x ∈ m := sub x List.mem_cons_self
    have nd' := List.nodup_cons.mp nd
    have ih := nodup_le (l := l) (m := m.erase x) nd'.2 fun y hy => by
      refine (List.mem_erase_of_ne ?_).mpr (sub y (List.mem_cons_of_mem _ hy))
      rintro rfl
      exact nd'.1 hy
    rw [List.length_erase_of_mem h1] at ih
    have := List.length_pos_of_mem h1
    rw [List.length_cons]
    omega
/-- rows of unlike supports, each even at some ties -/
structure Fam (W : Web) (E : List (Nat × Nat)) (J : List Nat) (lab : Nat → Nat) (eps : Nat → Int) : Prop where
  unit : ∀ v, eps v = 0 ∨ eps v = 1 ∨ eps v = -1
  even : ∀ t ∈ E, (eps t.1 = 0 ∧ eps t.2 = 0) ∨ (lab t.1 = lab t.2 ∧ eps t.1 = sg W t.1 t.2 * eps t.2)
  nd : J.Nodup
  live : ∀ j ∈ J, ∃ v, v < W.length ∧ lab v = j ∧ eps v ≠ 0
def dropE (lab : Nat → Nat) (eps : Nat → Int) (j : Nat) : Nat → Int := fun v => if lab v = j then 0 else eps v
theorem Fam.drop {W : Web} {E J lab eps} (F : Fam W E J lab eps) (j : Nat) : Fam W E (J.erase j) lab (dropE lab eps j) := by
  refine ⟨fun v => ?_, fun t ht => ?_, F.nd.erase _, fun i hi => ?_⟩
  · unfold dropE
    split
    · exact .inl rfl
    · exact F.unit v
  · unfold dropE
    rcases F.even t ht with ⟨e1, e2⟩ | ⟨e1, e2⟩
    · left
      constructor
      · split
        · rfl
        · exact e1
      · split
        · rfl
        · exact e2
    · rw [e1]
      by_cases q : lab t.2 = j
      · rw [if_pos q, if_pos q]
        exact .inl ⟨rfl, rfl⟩
      · rw [if_neg q, if_neg q]
        exact .inr ⟨rfl, e2⟩
  · have hi2 := List.mem_of_mem_erase hi
    obtain ⟨v, h1, h2, h3⟩ := F.live i hi2
    have ne : i ≠ j := by
      rintro rfl
      exact (List.Nodup.not_mem_erase F.nd) hi
    refine ⟨v, h1, h2, ?_⟩
    unfold dropE
    rw [if_neg (by rw [h2]; exact ne)]
    exact h3
theorem Fam.merge {W : Web} {E J lab eps} (F : Fam W E J lab eps) (i j : Nat) (ij : i ≠ j) (c : Int) (hc : c = 1 ∨ c = -1) :
    Fam W E (J.erase j) (fun v => if lab v = j then i else lab v) (fun v => if lab v = j then c * eps v else eps v) := by
  refine ⟨fun v => ?_, fun t ht => ?_, F.nd.erase _, fun k hk => ?_⟩
  · have := F.unit v
    split
    · rcases hc with rfl | rfl <;> omega
    · exact this
  · rcases F.even t ht with ⟨e1, e2⟩ | ⟨e1, e2⟩
    · left
      rw [e1, e2]
      constructor <;> split <;> simp
    · right
      rw [e1]
      by_cases q : lab t.2 = j
      · rw [if_pos q, if_pos q, if_pos q, e2]
        refine ⟨rfl, ?_⟩
        rw [← Int.mul_assoc, ← Int.mul_assoc, Int.mul_comm c]
      · rw [if_neg q, if_neg q, if_neg q]
        exact ⟨rfl, e2⟩
  · have hk2 := List.mem_of_mem_erase hk
    obtain ⟨v, h1, h2, h3⟩ := F.live k hk2
    have ne : k ≠ j := by
      rintro rfl
      exact (List.Nodup.not_mem_erase F.nd) hk
    refine ⟨v, h1, ?_, ?_⟩
    · rw [if_neg (by rw [h2]; exact ne)]
      exact h2
    · rw [if_neg (by rw [h2]; exact ne)]
      exact h3
theorem Fam.cons {W : Web} {E J lab eps} {t : Nat × Nat} (F : Fam W E J lab eps) (h : (eps t.1 = 0 ∧ eps t.2 = 0) ∨ (lab t.1 = lab t.2 ∧ eps t.1 = sg W t.1 t.2 * eps t.2)) : Fam W (t :: E) J lab eps :=
  ⟨F.unit, fun u hu => by
    rcases List.mem_cons.mp hu with e | e
    · rw [e]
      exact h
    · exact F.even u e, F.nd, F.live⟩
theorem erase_len (J : List Nat) (j : Nat) : J.length ≤ (J.erase j).length + 1 := by
  rw [List.length_erase]
  split <;> omega
theorem fam_all {W : Web} : ∀ E : List (Nat × Nat), (∀ t ∈ E, sg W t.1 t.2 = 1 ∨ sg W t.1 t.2 = -1) → ∃ J lab eps, Fam W E J lab eps ∧ W.length ≤ J.length + E.length
  | [], _ => ⟨List.range W.length, id, fun _ => 1, ⟨fun _ => .inr (.inl rfl), (fun t ht => by cases ht), List.nodup_range, fun j hj => ⟨j, List.mem_range.mp hj, rfl, by decide⟩⟩, by simp⟩
  | t :: E, hs => by
    obtain ⟨J, lab, eps, F, hl⟩ := fam_all E fun u hu => hs u (List.mem_cons_of_mem _ hu)
    have s := hs t List.mem_cons_self
    have u1 := F.unit t.1
    have u2 := F.unit t.2
    have dropped : ∀ j, lab t.1 = j ∨ eps t.1 = 0 → lab t.2 = j ∨ eps t.2 = 0 → ∃ J lab eps, Fam W (t :: E) J lab eps ∧ W.length ≤ J.length + (t :: E).length := fun j a b => by
      refine ⟨_, _, _, (F.drop j).cons (.inl ⟨?_, ?_⟩), ?_⟩
      · unfold dropE
        rcases a with a | a
        · rw [if_pos a]
        · split
          · rfl
          · exact a
      · unfold dropE
        rcases b with b | b
        · rw [if_pos b]
        · split
          · rfl
          · exact b
      · have := erase_len J j
        rw [List.length_cons]
        omega
    by_cases z1 : eps t.1 = 0
    · exact dropped (lab t.2) (.inr z1) (.inl rfl)
    · by_cases z2 : eps t.2 = 0
      · exact dropped (lab t.1) (.inl rfl) (.inr z2)
      · by_cases same : lab t.1 = lab t.2
        · by_cases ok : eps t.1 = sg W t.1 t.2 * eps t.2
          · exact ⟨J, lab, eps, F.cons (.inr ⟨same, ok⟩), by rw [List.length_cons]; omega⟩
          · exact dropped (lab t.1) (.inl rfl) (.inl same.symm)
        · have hc : ∃ c : Int, (c = 1 ∨ c = -1) ∧ eps t.1 = sg W t.1 t.2 * (c * eps t.2) := by
            generalize eps t.1 = a at *
            generalize eps t.2 = b at *
            generalize sg W t.1 t.2 = q at *
            rcases u1 with rfl | rfl | rfl
            · exact absurd rfl z1
            · rcases u2 with rfl | rfl | rfl
              · exact absurd rfl z2
              · rcases s with rfl | rfl
                · exact ⟨1, .inl rfl, by decide⟩
                · exact ⟨-1, .inr rfl, by decide⟩
              · rcases s with rfl | rfl
                · exact ⟨-1, .inr rfl, by decide⟩
                · exact ⟨1, .inl rfl, by decide⟩
            · rcases u2 with rfl | rfl | rfl
              · exact absurd rfl z2
              · rcases s with rfl | rfl
                · exact ⟨-1, .inr rfl, by decide⟩
                · exact ⟨1, .inl rfl, by decide⟩
              · rcases s with rfl | rfl
                · exact ⟨1, .inl rfl, by decide⟩
                · exact ⟨-1, .inr rfl, by decide⟩
          obtain ⟨c, c1, c2⟩ := hc
          refine ⟨_, _, _, (F.merge (lab t.1) (lab t.2) same c c1).cons (.inr ⟨?_, ?_⟩), ?_⟩
          · show (if lab t.1 = lab t.2 then lab t.1 else lab t.1) = (if lab t.2 = lab t.2 then lab t.1 else lab t.2)
            rw [if_neg same, if_pos rfl]
          · show (if lab t.1 = lab t.2 then c * eps t.1 else eps t.1) = sg W t.1 t.2 * (if lab t.2 = lab t.2 then c * eps t.2 else eps t.2)
            rw [if_neg same, if_pos rfl]
            exact c2
          · have := erase_len J (lab t.2)
            rw [List.length_cons]
            omega
/-- what the law's count of balanced pieces is worth -/
def PiecesB (W : Web) (b : Nat) : Prop := ∃ R : List Nat, R.length = b ∧ ∀ x : Nat → Int, (∀ t ∈ ties W, dif W x t = 0) → ∀ v, v < W.length → x v ≠ 0 → ∃ r ∈ R, x r ≠ 0
noncomputable def gateIx (W : Web) (C : List Int) : List Nat := (List.range (ties W).length).filter fun k => standsB W (flip C k)
/-- THE COUNT: at least n less the balanced pieces gates -/
theorem gates_many {W : Web} (ok : WebOk W) {C : List Int} (s : Stands W C) {b : Nat} (hb : PiecesB W b) : W.length ≤ (gateIx W C).length + b := by
  obtain ⟨R, hR, hx⟩ := hb
  let E := (gateIx W C).map fun k => (ties W).getD k (0, 0)
  have memE : ∀ k t, (ties W)[k]? = some t → Stands W (flip C k) → t ∈ E := fun k t h1 h2 => by
    refine List.mem_map.mpr ⟨k, List.mem_filter.mpr ⟨List.mem_range.mpr (List.getElem?_eq_some_iff.mp h1).1, standsB_iff.mpr h2⟩, ?_⟩
    rw [List.getD_eq_getElem?_getD, h1]
    rfl
  have tieE : ∀ t ∈ E, t ∈ ties W := fun t ht => by
    obtain ⟨k, hk, rfl⟩ := List.mem_map.mp ht
    have := List.mem_range.mp (List.mem_filter.mp hk).1
    rw [List.getD_eq_getElem?_getD, List.getElem?_eq_getElem this]
    exact List.getElem_mem this
  obtain ⟨J, lab, eps, F, hl⟩ := fam_all (W := W) E fun t ht => tie_sg ok (tieE t ht)
  have le : J.length ≤ (R.map lab).length := nodup_le F.nd fun j hj => by
    obtain ⟨v, h1, h2, h3⟩ := F.live j hj
    have sol : ∀ t ∈ ties W, dif W (fun v => if lab v = j then eps v else 0) t = 0 := by
      refine even_all ok s fun k t e1 e2 => ?_
      unfold dif
      simp only
      rcases F.even t (memE k t e1 e2) with ⟨q1, q2⟩ | ⟨q1, q2⟩
      · rw [q1, q2]
        split <;> split <;> simp
      · rw [q1]
        split
        · omega
        · simp
    obtain ⟨r, r1, r2⟩ := hx _ sol v h1 (by rw [if_pos h2]; exact h3)
    refine List.mem_map.mpr ⟨r, r1, ?_⟩
    exact Classical.byContradiction fun q => r2 (if_neg q)
  rw [List.length_map, hR] at le
  have e : E.length = (gateIx W C).length := List.length_map ..
  omega
end Sg

/-! places put one below the other; arrows of a choice; gate rows -/
namespace Sg

/-! ### places taken from above downward -/
def stepK (st : List Int × List Nat) (s : Nat) : List Int × List Nat :=
  (st.1.set s (st.1.getD s 0 - 1), if st.1.getD s 0 - 1 = 0 then st.2 ++ [s] else st.2)
def procK (B : List (List Nat)) (st : List Int × List Nat) (v : Nat) : List Int × List Nat := (B.getD v []).foldl stepK st
def turnK (B : List (List Nat)) (st : List Int × List Nat) (i : Nat) : List Int × List Nat := if i < st.2.length then procK B st (st.2.getD i 0) else st
/-- how many stand above each -/
def aheadK (B : List (List Nat)) : List Int := (List.range B.length).map fun b => ((B.flatten.count b : Nat) : Int)
def initK (B : List (List Nat)) : List Int × List Nat := (aheadK B, (List.range B.length).filter fun b => decide ((aheadK B).getD b 0 = 0))
def runK (B : List (List Nat)) (t : Nat) : List Int × List Nat := (List.range t).foldl (turnK B) (initK B)
def orderK (B : List (List Nat)) : List Nat := (runK B B.length).2
theorem runK_succ (B : List (List Nat)) (t : Nat) : runK B (t + 1) = turnK B (runK B t) t := by
  unfold runK
  rw [List.range_succ, List.foldl_append]
  rfl
/-- the entries are places -/
def InB (B : List (List Nat)) : Prop := ∀ a b, b ∈ B.getD a [] → b < B.length
structure KInv (B : List (List Nat)) (st : List Int × List Nat) (P U pend : List Nat) : Prop where
  perm : (P ++ U).Perm (List.range B.length)
  len : st.1.length = B.length
  cnt : ∀ b, b < B.length → st.1.getD b 0 = ((pend ++ U.flatMap fun a => B.getD a []).count b : Nat)
  nd : st.2.Nodup
  lt : ∀ b ∈ st.2, b < B.length
  mem : ∀ b, b < B.length → (b ∈ st.2 ↔ st.1.getD b 0 = 0)
  pre : P <+: st.2
  src : ∀ j b, st.2[j]? = some b → ∀ a, b ∈ B.getD a [] → a ∈ st.2.take j
theorem stepK_inv {B : List (List Nat)} {st : List Int × List Nat} {P U pend : List Nat} {s : Nat} (hs : s < B.length) (I : KInv B st P U (s :: pend))
    (hp : ∀ a, s ∈ B.getD a [] → a ∉ U → a ∈ P) : KInv B (stepK st s) P U pend := by
  have c0 := I.cnt s hs
  rw [List.cons_append, List.count_cons_self] at c0
  have cn : (stepK st s).1.getD s 0 = ((pend ++ U.flatMap fun a => B.getD a []).count s : Nat) := by
    unfold stepK
    simp only
    rw [List.getD_eq_getElem?_getD, List.getElem?_set_self (by rw [I.len]; exact hs)]
    simp only [Option.getD_some]
    omega
  have co : ∀ b, b ≠ s → (stepK st s).1.getD b 0 = st.1.getD b 0 := fun b hb => by
    unfold stepK
    simp only
    rw [List.getD_eq_getElem?_getD, List.getElem?_set_ne (Ne.symm hb), ← List.getD_eq_getElem?_getD]
  have nin : s ∉ st.2 := fun q => by
    have := (I.mem s hs).mp q
    omega
  have e2 : (stepK st s).2 = if (stepK st s).1.getD s 0 = 0 then st.2 ++ [s] else st.2 := by
    rw [cn]
    unfold stepK
    simp only
    have : st.1.getD s 0 - 1 = ((pend ++ U.flatMap fun a => B.getD a []).count s : Nat) := by omega
    rw [this]
  refine ⟨I.perm, ?_, fun b hb => ?_, ?_, fun b hb => ?_, fun b hb => ?_, ?_, fun j b hj a ha => ?_⟩
  · unfold stepK
    simp only [List.length_set]
    exact I.len
  · by_cases e : b = s
    · subst e
      exact cn
    · rw [co b e, I.cnt b hb, List.cons_append, List.count_cons_of_ne (Ne.symm e)]
  · rw [e2]
    split
    · rw [List.nodup_append]
      refine ⟨I.nd, by simp, fun x hx y hy => ?_⟩
      rw [List.mem_singleton] at hy
      subst hy
      rintro rfl
      exact nin hx
    · exact I.nd
  · rw [e2] at hb
    split at hb
    · rcases List.mem_append.mp hb with q | q
      · exact I.lt b q
      · rw [List.mem_singleton] at q
        rw [q]
        exact hs
    · exact I.lt b hb
  · rw [e2]
    by_cases e : b = s
    · subst e
      split
      · rename_i q
        exact ⟨fun _ => q, fun _ => List.mem_append.mpr (.inr (List.mem_singleton.mpr rfl))⟩
      · rename_i q
        exact ⟨fun z => absurd z nin, fun z => absurd z q⟩
    · rw [co b e]
      split
      · rw [List.mem_append, List.mem_singleton]
        exact ⟨fun z => z.elim (I.mem b hb).mp fun z => absurd z e, fun z => .inl ((I.mem b hb).mpr z)⟩
      · exact I.mem b hb
  · rw [e2]
    split
    · exact I.pre.trans (List.prefix_append _ _)
    · exact I.pre
  · rw [e2] at hj ⊢
    split at hj
    · rename_i q
      rw [if_pos q]
      by_cases lt : j < st.2.length
      · rw [List.getElem?_append_left lt] at hj
        rw [List.take_append_of_le_length (by omega)]
        exact I.src j b hj a ha
      · rw [List.getElem?_append_right (by omega)] at hj
        have hj0 : j - st.2.length = 0 := by
          have := (List.getElem?_eq_some_iff.mp hj).1
          rw [List.length_singleton] at this
          omega
        rw [hj0] at hj
        have : b = s := (Option.some.inj hj).symm
        subst this
        have hjl : j = st.2.length := by omega
        rw [hjl, List.take_append_of_le_length (Nat.le_refl _), List.take_length]
        refine I.pre.subset (hp a ha fun hu => ?_)
        rw [cn] at q
        have : 0 < (pend ++ U.flatMap fun a => B.getD a []).count b := List.count_pos_iff.mpr (List.mem_append.mpr (.inr (List.mem_flatMap.mpr ⟨a, hu, ha⟩)))
        omega
    · rename_i q
      rw [if_neg q]
      exact I.src j b hj a ha
theorem foldK_inv {B : List (List Nat)} {P U : List Nat} : ∀ (l : List Nat) (st : List Int × List Nat), (∀ s ∈ l, s < B.length) → (∀ s ∈ l, ∀ a, s ∈ B.getD a [] → a ∉ U → a ∈ P) → KInv B st P U l → KInv B (l.foldl stepK st) P U []
  | [], st, _, _, I => I
  | s :: l, st, h1, h2, I => foldK_inv l (stepK st s) (fun x hx => h1 x (List.mem_cons_of_mem _ hx)) (fun x hx => h2 x (List.mem_cons_of_mem _ hx)) (stepK_inv (h1 s List.mem_cons_self) I (h2 s List.mem_cons_self))
theorem count_flat_range (B : List (List Nat)) (b : Nat) : B.flatten.count b = ((List.range B.length).flatMap fun a => B.getD a []).count b := by
  congr 1
  rw [List.flatMap_def]
  congr 1
  apply List.ext_getElem?
  intro i
  rw [List.getElem?_map]
  by_cases h : i < B.length
  · rw [List.getElem?_range h, List.getElem?_eq_getElem h]
    simp [List.getElem?_eq_getElem h]
  · rw [List.getElem?_eq_none (by omega), List.getElem?_eq_none (by rw [List.length_range]; omega)]
    rfl
theorem initK_inv {B : List (List Nat)} (hB : InB B) : KInv B (initK B) [] (List.range B.length) [] := by
  have ga : ∀ b, b < B.length → (aheadK B).getD b 0 = ((B.flatten.count b : Nat) : Int) := fun b hb => by
    unfold aheadK
    rw [List.getD_eq_getElem?_getD, List.getElem?_map, List.getElem?_range hb]
    rfl
  refine ⟨by simp, ?_, fun b hb => ?_, ?_, fun b hb => ?_, fun b hb => ?_, List.nil_prefix, fun j b hj a ha => ?_⟩
  · unfold initK aheadK
    simp
  · unfold initK
    simp only
    rw [ga b hb, count_flat_range]
    simp
  · exact List.nodup_range.sublist List.filter_sublist
  · exact List.mem_range.mp (List.mem_filter.mp hb).1
  · unfold initK
    simp only [List.mem_filter, List.mem_range, decide_eq_true_eq]
    exact ⟨fun z => z.2, fun z => ⟨hb, z⟩⟩
  · have hb := List.mem_filter.mp (List.mem_of_getElem? hj)
    have hl := List.mem_range.mp hb.1
    have z := of_decide_eq_true hb.2
    rw [ga b hl, count_flat_range] at z
    have hal : a < B.length := by
      refine Classical.byContradiction fun q => ?_
      rw [List.getD_eq_getElem?_getD, List.getElem?_eq_none (by omega)] at ha
      cases ha
    have : 0 < ((List.range B.length).flatMap fun a => B.getD a []).count b := List.count_pos_iff.mpr (List.mem_flatMap.mpr ⟨a, List.mem_range.mpr hal, ha⟩)
    omega
/-- behind t turns: so many of the order are done, or all -/
theorem runK_inv {B : List (List Nat)} (hB : InB B) : ∀ t, ∃ U, KInv B (runK B t) ((runK B t).2.take t) U []
  | 0 => ⟨_, by rw [List.take_zero]; exact initK_inv hB⟩
  | t + 1 => by
    obtain ⟨U, I⟩ := runK_inv hB t
    rw [runK_succ]
    unfold turnK
    by_cases h : t < (runK B t).2.length
    · rw [if_pos h]
      have hv : (runK B t).2[t]? = some ((runK B t).2.getD t 0) := by
        rw [List.getD_eq_getElem?_getD, List.getElem?_eq_getElem h]
        rfl
      generalize (runK B t).2.getD t 0 = v at hv
      have hvm := List.mem_of_getElem? hv
      have hvl := I.lt v hvm
      have tk : (runK B t).2.take (t + 1) = (runK B t).2.take t ++ [v] := by
        rw [List.take_add_one, hv]
        rfl
      have nv : v ∉ (runK B t).2.take t := fun q => by
        have nd := I.nd
        have sub : ((runK B t).2.take t ++ [v]).Nodup := by
          rw [← tk]
          exact nd.sublist (List.take_sublist _ _)
        rw [List.nodup_append] at sub
        exact sub.2.2 v q v (List.mem_singleton.mpr rfl) rfl
      have hvU : v ∈ U := by
        have := I.perm.mem_iff.mpr (List.mem_range.mpr hvl)
        rcases List.mem_append.mp this with q | q
        · exact absurd q nv
        · exact q
      have pU := List.perm_cons_erase hvU
      have I2 : KInv B (runK B t) ((runK B t).2.take t ++ [v]) (U.erase v) (B.getD v []) := by
        refine ⟨?_, I.len, fun b hb => ?_, I.nd, I.lt, I.mem, ?_, I.src⟩
        · refine List.Perm.trans ?_ I.perm
          rw [List.append_assoc]
          exact (pU.symm.append_left _)
        · rw [I.cnt b hb]
          congr 1
          have := (pU.flatMap_right (fun a => B.getD a [])).count_eq b
          rw [List.nil_append, this, List.flatMap_cons]
        · rw [← tk]
          exact List.take_prefix _ _
      have I3 := foldK_inv (B.getD v []) (runK B t) (fun s hs => hB v s hs) (fun s hs a ha hn => by
        have hal : a < B.length := by
          refine Classical.byContradiction fun q => ?_
          rw [List.getD_eq_getElem?_getD, List.getElem?_eq_none (by omega)] at ha
          cases ha
        have := I2.perm.mem_iff.mpr (List.mem_range.mpr hal)
        rcases List.mem_append.mp this with q | q
        · exact q
        · exact absurd q hn) I2
      refine ⟨U.erase v, ?_⟩
      have e : (procK B (runK B t) v).2.take (t + 1) = (runK B t).2.take t ++ [v] := by
        have p := I3.pre
        have l : ((runK B t).2.take t ++ [v]).length = t + 1 := by
          rw [List.length_append, List.length_take]
          simp
          omega
        rw [← l]
        exact (List.prefix_iff_eq_take.mp p).symm
      rw [e]
      exact I3
    · rw [if_neg h]
      refine ⟨U, ?_⟩
      rw [List.take_of_length_le (by omega)]
      rw [List.take_of_length_le (by omega)] at I
      exact I
/-- past the order's end nothing happens -/
theorem runK_stay {B : List (List Nat)} {t : Nat} (h : (runK B t).2.length ≤ t) : ∀ j, runK B (t + j) = runK B t
  | 0 => rfl
  | j + 1 => by
    rw [← Nat.add_assoc, runK_succ, runK_stay h j]
    unfold turnK
    rw [if_neg (by omega)]
theorem orderK_le {B : List (List Nat)} (hB : InB B) (t : Nat) : (runK B t).2.length ≤ B.length := by
  obtain ⟨U, I⟩ := runK_inv hB t
  have := nodup_le I.nd (m := List.range B.length) fun b hb => List.mem_range.mpr (I.lt b hb)
  rw [List.length_range] at this
  exact this
/-- the loop that ends where the order ends -/
theorem orderK_at {B : List (List Nat)} (hB : InB B) {t : Nat} (h : (runK B t).2.length ≤ t) (ht : t ≤ B.length) : orderK B = (runK B t).2 := by
  unfold orderK
  obtain ⟨j, hj⟩ := Nat.le.dest ht
  rw [← hj, runK_stay h j]
def Hgt (B : List (List Nat)) : Prop := ∃ f : Nat → Int, ∀ a b, b ∈ B.getD a [] → f b < f a
theorem orderK_inv {B : List (List Nat)} (hB : InB B) : ∃ U, KInv B (runK B B.length) (orderK B) U [] := by
  obtain ⟨U, I⟩ := runK_inv hB B.length
  rw [List.take_of_length_le (orderK_le hB _)] at I
  exact ⟨U, I⟩
theorem max_at {f : Nat → Int} : ∀ {l : List Nat}, l ≠ [] → ∃ b ∈ l, ∀ a ∈ l, f a ≤ f b
  | [], h => absurd rfl h
  | [b], _ => ⟨b, List.mem_singleton.mpr rfl, fun a ha => by rw [List.mem_singleton.mp ha]; exact Int.le_refl _⟩
  | c :: d :: l, _ => by
    obtain ⟨b, h1, h2⟩ := max_at (f := f) (l := d :: l) (by simp)
    by_cases q : f c ≤ f b
    · refine ⟨b, List.mem_cons_of_mem _ h1, fun a ha => ?_⟩
      rcases List.mem_cons.mp ha with e | e
      · rw [e]
        exact q
      · exact h2 a e
    · refine ⟨c, List.mem_cons_self, fun a ha => ?_⟩
      rcases List.mem_cons.mp ha with e | e
      · rw [e]
        exact Int.le_refl _
      · have := h2 a e
        omega
/-- nothing is left exactly if there are heights -/
theorem left_nil {B : List (List Nat)} (hB : InB B) : (List.range B.length).filter (fun b => decide (b ∉ orderK B)) = [] ↔ Hgt B := by
  obtain ⟨U, I⟩ := orderK_inv hB
  constructor
  · intro h
    have all : ∀ b, b < B.length → b ∈ orderK B := fun b hb => by
      have := (List.filter_eq_nil_iff.mp h) b (List.mem_range.mpr hb)
      simpa using this
    refine ⟨fun b => - ((orderK B).idxOf b : Int), fun a b hb => ?_⟩
    have hbl := hB a b hb
    have hbm := all b hbl
    have hj : (orderK B)[(orderK B).idxOf b]? = some b := by
      rw [List.getElem?_eq_getElem (List.idxOf_lt_length_of_mem hbm)]
      rw [List.getElem_idxOf]
    have ha : a ∈ (orderK B).take ((orderK B).idxOf b) := I.src _ b hj a hb
    have lt : (orderK B).idxOf a < (orderK B).idxOf b := by
      obtain ⟨i, hi, e⟩ := List.getElem_of_mem ha
      rw [List.length_take] at hi
      rw [List.getElem_take] at e
      have nd : (orderK B).Nodup := I.nd
      have hi2 : i < (orderK B).length := by omega
      have : (orderK B).idxOf a = i := by
        rw [← e]
        exact List.Nodup.idxOf_getElem nd i hi2
      omega
    show - ((orderK B).idxOf b : Int) < - ((orderK B).idxOf a : Int)
    omega
  · rintro ⟨f, hf⟩
    refine Classical.byContradiction fun h => ?_
    obtain ⟨b, hb, hmax⟩ := max_at (f := f) h
    have hb2 := List.mem_filter.mp hb
    have hbl := List.mem_range.mp hb2.1
    have hbn : b ∉ orderK B := of_decide_eq_true hb2.2
    have c := I.cnt b hbl
    have nz : (runK B B.length).1.getD b 0 ≠ 0 := fun q => hbn ((I.mem b hbl).mpr q)
    rw [List.nil_append] at c
    have pos : 0 < (U.flatMap fun a => B.getD a []).count b := by omega
    obtain ⟨a, ha, hab⟩ := List.mem_flatMap.mp (List.count_pos_iff.mp pos)
    have hal : a < B.length := by
      refine Classical.byContradiction fun q => ?_
      rw [List.getD_eq_getElem?_getD, List.getElem?_eq_none (by omega)] at hab
      cases hab
    have nd : (orderK B ++ U).Nodup := I.perm.nodup_iff.mpr List.nodup_range
    have han : a ∉ orderK B := fun q => by
      rw [List.nodup_append] at nd
      exact nd.2.2 a q a ha rfl
    have l1 := hmax a (List.mem_filter.mpr ⟨List.mem_range.mpr hal, decide_eq_true han⟩)
    have l2 := hf a b hab
    omega
theorem order_full {B : List (List Nat)} (hB : InB B) : (orderK B).length = B.length ↔ Hgt B := by
  rw [← left_nil hB]
  obtain ⟨U, I⟩ := orderK_inv hB
  have nd : (orderK B).Nodup := I.nd
  constructor
  · intro h
    rw [List.filter_eq_nil_iff]
    intro b hb
    have : b ∈ orderK B := by
      refine Classical.byContradiction fun q => ?_
      have := nodup_le (l := b :: orderK B) (m := List.range B.length) (List.nodup_cons.mpr ⟨q, nd⟩) fun x hx => by
        rcases List.mem_cons.mp hx with e | e
        · rw [e]
          exact hb
        · exact List.mem_range.mpr (I.lt x e)
      rw [List.length_cons, List.length_range] at this
      omega
    simpa using this
  · intro h
    have h1 := nodup_le (l := List.range B.length) (m := orderK B) List.nodup_range fun b hb => by
      have := (List.filter_eq_nil_iff.mp h) b hb
      simpa using this
    have h2 := orderK_le hB B.length
    rw [List.length_range] at h1
    unfold orderK at *
    omega
end Sg

/-! arrows of a choice; gate rows -/
namespace Sg

def farOf (W : Web) (t : Nat × Nat) : Nat := if sg W t.1 t.2 = 1 then t.2 else t.2 + W.length
def nearOf (W : Web) (t : Nat × Nat) : Nat := if sg W t.1 t.2 = 1 then t.2 + W.length else t.2
def arr1 (W : Web) (t : Nat × Nat) (w : Int) : List (Nat × Nat) :=
  if w = 1 then [(t.1, farOf W t), (nearOf W t, t.1 + W.length)] else [(farOf W t, t.1), (t.1 + W.length, nearOf W t)]
def arrs (W : Web) (C : List Int) : List (Nat × Nat) := ((ties W).zip C).flatMap fun p => arr1 W p.1 p.2
def belowOf (m : Nat) (A : List (Nat × Nat)) : List (List Nat) := (List.range m).map fun a => (A.filter fun p => decide (p.1 = a)).map (·.2)
theorem belowOf_len (m : Nat) (A : List (Nat × Nat)) : (belowOf m A).length = m := by
  unfold belowOf
  rw [List.length_map, List.length_range]
theorem belowOf_get {m : Nat} {A : List (Nat × Nat)} {a : Nat} (h : a < m) : (belowOf m A)[a]? = some ((A.filter fun p => decide (p.1 = a)).map (·.2)) := by
  unfold belowOf
  rw [List.getElem?_map, List.getElem?_range h]
  rfl
theorem belowOf_getD {m : Nat} {A : List (Nat × Nat)} {a : Nat} (h : a < m) : (belowOf m A).getD a [] = (A.filter fun p => decide (p.1 = a)).map (·.2) := by
  rw [List.getD_eq_getElem?_getD, belowOf_get h]
  rfl
theorem mem_belowOf {m : Nat} {A : List (Nat × Nat)} {a b : Nat} : b ∈ (belowOf m A).getD a [] ↔ a < m ∧ (a, b) ∈ A := by
  by_cases h : a < m
  · rw [belowOf_getD h, List.mem_map]
    constructor
    · rintro ⟨p, hp, rfl⟩
      obtain ⟨h1, h2⟩ := List.mem_filter.mp hp
      have e : p.1 = a := of_decide_eq_true h2
      subst e
      exact ⟨h, h1⟩
    · rintro ⟨_, hm⟩
      exact ⟨(a, b), List.mem_filter.mpr ⟨hm, decide_eq_true rfl⟩, rfl⟩
  · rw [List.getD_eq_getElem?_getD, List.getElem?_eq_none (by rw [belowOf_len]; omega)]
    constructor
    · intro q
      cases q
    · rintro ⟨q, _⟩
      exact absurd q h
theorem belowOf_snoc {m : Nat} {A : List (Nat × Nat)} {a b : Nat} (h : a < m) : belowOf m (A ++ [(a, b)]) = (belowOf m A).set a ((belowOf m A).getD a [] ++ [b]) := by
  apply List.ext_getElem?
  intro i
  rw [List.getElem?_set]
  by_cases hi : i < m
  · rw [belowOf_get hi, belowOf_get hi, belowOf_getD h, belowOf_len, List.filter_append, List.map_append]
    by_cases e : a = i
    · subst e
      rw [if_pos rfl, if_pos h]
      simp
    · rw [if_neg e, List.filter_cons_of_neg (by simpa using e)]
      simp
  · rw [List.getElem?_eq_none (by rw [belowOf_len]; omega), List.getElem?_eq_none (by rw [belowOf_len]; omega), if_neg (by omega)]
theorem belowOf_nil (m : Nat) : belowOf m [] = List.replicate m [] := by
  unfold belowOf
  simp only [List.filter_nil, List.map_nil]
  rw [List.map_const', List.length_range]
/-- how often each place stands in a list -/
def cntL (m : Nat) (L : List Nat) : List Int := (List.range m).map fun b => ((L.count b : Nat) : Int)
theorem cntL_len (m : Nat) (L : List Nat) : (cntL m L).length = m := by
  unfold cntL
  rw [List.length_map, List.length_range]
theorem cntL_get {m : Nat} {L : List Nat} {b : Nat} (h : b < m) : (cntL m L)[b]? = some ((L.count b : Nat) : Int) := by
  unfold cntL
  rw [List.getElem?_map, List.getElem?_range h]
  rfl
theorem cntL_nil (m : Nat) : cntL m [] = List.replicate m 0 := by
  unfold cntL
  simp only [List.count_nil]
  rw [List.map_const', List.length_range]
  rfl
theorem cntL_snoc {m : Nat} {L : List Nat} {c : Nat} (h : c < m) : cntL m (L ++ [c]) = (cntL m L).set c (((L.count c : Nat) : Int) + 1) := by
  apply List.ext_getElem?
  intro i
  rw [List.getElem?_set]
  by_cases hi : i < m
  · rw [cntL_get hi, cntL_get hi, cntL_len, List.count_append]
    by_cases e : c = i
    · subst e
      rw [if_pos rfl, if_pos h, List.count_singleton_self]
      rfl
    · rw [if_neg e, List.count_singleton, if_neg (by simpa using e)]
      simp
  · rw [List.getElem?_eq_none (by rw [cntL_len]; omega), List.getElem?_eq_none (by rw [cntL_len]; omega), if_neg (by omega)]
theorem aheadK_cnt (B : List (List Nat)) : aheadK B = cntL B.length B.flatten := rfl
theorem count_set {b c : Nat} : ∀ (l : List (List Nat)) (a : Nat), a < l.length → (l.set a (l.getD a [] ++ [c])).flatten.count b = (l.flatten ++ [c]).count b
  | [], _, h => absurd h (Nat.not_lt_zero _)
  | x :: l, 0, _ => by
    simp only [List.set_cons_zero, List.flatten_cons, List.count_append]
    simp
    omega
  | x :: l, a + 1, h => by
    have ih := count_set (b := b) (c := c) l a (by simpa using h)
    simp only [List.set_cons_succ, List.flatten_cons, List.count_append] at ih ⊢
    simp at ih ⊢
    omega
/-- counted along with the arrows: the same -/
theorem ahead_below (m : Nat) : ∀ (A : List (Nat × Nat)), (∀ p ∈ A, p.1 < m) → aheadK (belowOf m A) = cntL m (A.map (·.2)) := by
  intro A h
  unfold aheadK
  rw [belowOf_len]
  unfold cntL
  refine List.map_congr_left fun b _ => ?_
  congr 1
  -- from the end
  have key : ∀ R : List (Nat × Nat), (∀ p ∈ R, p.1 < m) → (belowOf m R.reverse).flatten.count b = (R.reverse.map (·.2)).count b := by
    intro R
    induction R with
    | nil =>
      intro _
      rw [List.reverse_nil, belowOf_nil]
      simp
    | cons p R ih =>
      intro hR
      have h1 := hR p List.mem_cons_self
      rw [List.reverse_cons, show [p] = [(p.1, p.2)] from rfl, belowOf_snoc h1, count_set _ _ (by rw [belowOf_len]; exact h1), List.count_append, ih fun q hq => hR q (List.mem_cons_of_mem _ hq), List.map_append, List.count_append]
      rfl
  have := key A.reverse fun p hp => h p (List.mem_reverse.mp hp)
  rw [List.reverse_reverse] at this
  exact this
section
variable {W : Web} {C : List Int}
theorem arr1_lt (ok : WebOk W) {t : Nat × Nat} (ht : t ∈ ties W) (w : Int) : ∀ p ∈ arr1 W t w, p.1 < 2 * W.length ∧ p.2 < 2 * W.length := by
  obtain ⟨h1, h2, _⟩ := mem_ties.mp ht
  intro p hp
  have f : farOf W t < 2 * W.length := by
    unfold farOf
    split <;> omega
  have g : nearOf W t < 2 * W.length := by
    unfold nearOf
    split <;> omega
  unfold arr1 at hp
  split at hp
  · rcases List.mem_cons.mp hp with e | e
    · rw [e]
      exact ⟨by simp only; omega, f⟩
    · rw [List.mem_singleton.mp e]
      exact ⟨g, by simp only; omega⟩
  · rcases List.mem_cons.mp hp with e | e
    · rw [e]
      exact ⟨f, by simp only; omega⟩
    · rw [List.mem_singleton.mp e]
      exact ⟨by simp only; omega, g⟩
theorem arrs_lt (ok : WebOk W) : ∀ p ∈ arrs W C, p.1 < 2 * W.length ∧ p.2 < 2 * W.length := by
  intro p hp
  obtain ⟨q, hq, h⟩ := List.mem_flatMap.mp hp
  exact arr1_lt ok (List.of_mem_zip hq).1 _ p h
def belowW (W : Web) (C : List Int) : List (List Nat) := belowOf (2 * W.length) (arrs W C)
theorem belowW_len : (belowW W C).length = 2 * W.length := belowOf_len _ _
theorem belowW_in (ok : WebOk W) : InB (belowW W C) := by
  intro a b h
  rw [belowW_len]
  exact (arrs_lt ok _ (mem_belowOf.mp h).2).2
theorem hgt_stands (ok : WebOk W) (hC : ChOk W C) : Hgt (belowW W C) ↔ Stands W C := by
  have mem : ∀ a b, b ∈ (belowW W C).getD a [] ↔ ∃ (k : Nat) (t : Nat × Nat) (w : Int), (ties W)[k]? = some t ∧ C[k]? = some w ∧ (a, b) ∈ arr1 W t w := by
    intro a b
    unfold belowW
    rw [mem_belowOf]
    constructor
    · rintro ⟨_, h⟩
      obtain ⟨q, hq, h2⟩ := List.mem_flatMap.mp h
      obtain ⟨k, hk⟩ := List.mem_iff_getElem?.mp hq
      rw [List.getElem?_zip_eq_some] at hk
      exact ⟨k, q.1, q.2, hk.1, hk.2, h2⟩
    · rintro ⟨k, t, w, h1, h2, h3⟩
      have hz : (a, b) ∈ arrs W C := List.mem_flatMap.mpr ⟨(t, w), List.mem_iff_getElem?.mpr ⟨k, List.getElem?_zip_eq_some.mpr ⟨h1, h2⟩⟩, h3⟩
      exact ⟨(arrs_lt ok _ hz).1, hz⟩
  constructor
  · rintro ⟨f, hf⟩
    -- from heights a row
    have ha : ∀ (k : Nat) (t : Nat × Nat) (w : Int), (ties W)[k]? = some t → C[k]? = some w → ∀ a b, (a, b) ∈ arr1 W t w → f b < f a := fun k t w h1 h2 a b h => hf a b ((mem a b).mpr ⟨k, t, w, h1, h2, h⟩)
    have dv : ∀ (k : Nat) (t : Nat × Nat) (w : Int), (ties W)[k]? = some t → C[k]? = some w → (w = 1 ∧ 0 < dif W (fun x => f x - f (x + W.length)) t) ∨ (w = -1 ∧ dif W (fun x => f x - f (x + W.length)) t < 0) := by
      intro k t w h1 h2
      have ht := List.mem_of_getElem? h1
      have hs := tie_sg ok ht
      have hw := hC.2 w (List.mem_of_getElem? h2)
      have q := ha k t w h1 h2
      unfold dif
      simp only
      unfold arr1 at q
      rcases hw with rfl | rfl
      · left
        refine ⟨rfl, ?_⟩
        rw [if_pos rfl] at q
        have q1 := q t.1 (farOf W t) (by simp)
        have q2 := q (nearOf W t) (t.1 + W.length) (by simp)
        unfold farOf at q1
        unfold nearOf at q2
        rcases hs with e | e
        · rw [if_pos e] at q1 q2
          rw [e]
          omega
        · rw [if_neg (by rw [e]; decide)] at q1 q2
          rw [e]
          omega
      · right
        refine ⟨rfl, ?_⟩
        rw [if_neg (by decide)] at q
        have q1 := q (farOf W t) t.1 (by simp)
        have q2 := q (t.1 + W.length) (nearOf W t) (by simp)
        unfold farOf at q1
        unfold nearOf at q2
        rcases hs with e | e
        · rw [if_pos e] at q1 q2
          rw [e]
          omega
        · rw [if_neg (by rw [e]; decide)] at q1 q2
          rw [e]
          omega
    refine ⟨fun x => f x - f (x + W.length), ?_, fun t ht => ?_⟩
    · apply List.ext_getElem?
      intro k
      unfold kept
      rw [List.getElem?_map]
      by_cases hk : k < (ties W).length
      · have h1 : (ties W)[k]? = some (ties W)[k] := List.getElem?_eq_getElem hk
        have h2 : C[k]? = some (C[k]'(by rw [hC.1]; exact hk)) := List.getElem?_eq_getElem _
        rw [h1, h2, Option.map_some]
        congr 1
        unfold way
        rcases dv k _ _ h1 h2 with ⟨e, q⟩ | ⟨e, q⟩
        · rw [if_pos q, e]
        · rw [if_neg (by omega), e]
      · rw [List.getElem?_eq_none (show (ties W).length ≤ k by omega), List.getElem?_eq_none (show C.length ≤ k by rw [hC.1]; omega)]
        rfl
    · obtain ⟨k, hk, e⟩ := List.getElem_of_mem ht
      have h1 : (ties W)[k]? = some t := by rw [List.getElem?_eq_getElem hk, e]
      have h2 : C[k]? = some (C[k]'(by rw [hC.1]; exact hk)) := List.getElem?_eq_getElem _
      rcases dv k _ _ h1 h2 with ⟨_, q⟩ | ⟨_, q⟩ <;> omega
  · rintro ⟨h, rfl, hd⟩
    refine ⟨fun v => if v < W.length then h v else - h (v - W.length), fun a b hb => ?_⟩
    obtain ⟨k, t, w, h1, h2, h3⟩ := (mem a b).mp hb
    have ht := List.mem_of_getElem? h1
    obtain ⟨l1, l2, _⟩ := mem_ties.mp ht
    have hs := tie_sg ok ht
    have hd1 := hd t ht
    unfold kept at h2
    rw [List.getElem?_map, h1, Option.map_some] at h2
    have hw : w = way W h t := (Option.some.inj h2).symm
    unfold way at hw
    unfold dif at hw hd1
    have fx : (if t.1 < W.length then h t.1 else - h (t.1 - W.length)) = h t.1 := if_pos (by omega)
    have fxn : (if t.1 + W.length < W.length then h (t.1 + W.length) else - h (t.1 + W.length - W.length)) = - h t.1 := by
      rw [if_neg (by omega), Nat.add_sub_cancel]
    have fy : (if t.2 < W.length then h t.2 else - h (t.2 - W.length)) = h t.2 := if_pos l2
    have fyn : (if t.2 + W.length < W.length then h (t.2 + W.length) else - h (t.2 + W.length - W.length)) = - h t.2 := by
      rw [if_neg (by omega), Nat.add_sub_cancel]
    unfold arr1 farOf nearOf at h3
    simp only
    rcases hs with e | e
    · simp only [if_pos e] at h3
      rw [e] at hw hd1
      split at h3
      · rename_i w1
        rw [w1] at hw
        have pos : 0 < h t.1 - 1 * h t.2 := by
          refine Classical.byContradiction fun q => ?_
          rw [if_neg q] at hw
          cases hw
        rcases List.mem_cons.mp h3 with q | q
        · obtain ⟨rfl, rfl⟩ := Prod.mk.inj q
          rw [fx, fy]
          omega
        · obtain ⟨rfl, rfl⟩ := Prod.mk.inj (List.mem_singleton.mp q)
          rw [fxn, fyn]
          omega
      · rename_i w1
        have neg : ¬ 0 < h t.1 - 1 * h t.2 := fun q => by
          rw [if_pos q] at hw
          exact w1 hw
        rcases List.mem_cons.mp h3 with q | q
        · obtain ⟨rfl, rfl⟩ := Prod.mk.inj q
          rw [fx, fy]
          omega
        · obtain ⟨rfl, rfl⟩ := Prod.mk.inj (List.mem_singleton.mp q)
          rw [fxn, fyn]
          omega
    · have hne : ¬ sg W t.1 t.2 = 1 := by
        rw [e]
        decide
      simp only [if_neg hne] at h3
      rw [e] at hw hd1
      split at h3
      · rename_i w1
        rw [w1] at hw
        have pos : 0 < h t.1 - -1 * h t.2 := by
          refine Classical.byContradiction fun q => ?_
          rw [if_neg q] at hw
          cases hw
        rcases List.mem_cons.mp h3 with q | q
        · obtain ⟨rfl, rfl⟩ := Prod.mk.inj q
          rw [fx, fyn]
          omega
        · obtain ⟨rfl, rfl⟩ := Prod.mk.inj (List.mem_singleton.mp q)
          rw [fxn, fy]
          omega
      · rename_i w1
        have neg : ¬ 0 < h t.1 - -1 * h t.2 := fun q => by
          rw [if_pos q] at hw
          exact w1 hw
        rcases List.mem_cons.mp h3 with q | q
        · obtain ⟨rfl, rfl⟩ := Prod.mk.inj q
          rw [fx, fyn]
          omega
        · obtain ⟨rfl, rfl⟩ := Prod.mk.inj (List.mem_singleton.mp q)
          rw [fxn, fy]
          omega
/-- what is left by the arrows of a choice -/
def leftW (W : Web) (C : List Int) : List Nat := (List.range (2 * W.length)).filter fun b => decide (b ∉ orderK (belowW W C))
theorem leftW_nil (ok : WebOk W) (hC : ChOk W C) : leftW W C = [] ↔ Stands W C := by
  rw [← hgt_stands ok hC, ← left_nil (belowW_in ok), belowW_len]
  exact Iff.rfl
theorem orderW_full (ok : WebOk W) (hC : ChOk W C) : (orderK (belowW W C)).length = 2 * W.length ↔ Stands W C := by
  rw [← hgt_stands ok hC, ← order_full (belowW_in ok), belowW_len]
end
end Sg

/-! gate rows -/
namespace Sg

/-- the places at which two choices differ -/
def unlike (C C' : List Int) : List Nat := (List.range C.length).filter fun k => decide (C.getD k 0 ≠ C'.getD k 0)
noncomputable def nextK (W : Web) (C C' : List Int) : Nat := ((unlike C C').filter fun k => standsB W (flip C k)).getD 0 0
noncomputable def rowFrom (W : Web) (C' : List Int) : Nat → List Int → List (Nat × Nat)
  | 0, _ => []
  | N + 1, C => (ties W).getD (nextK W C C') (0, 0) :: rowFrom W C' N (flip C (nextK W C C'))
noncomputable def gateRow (W : Web) (C C' : List Int) : List (Nat × Nat) := rowFrom W C' (unlike C C').length C
def unlikeTies (W : Web) (C C' : List Int) : List (Nat × Nat) := (unlike C C').map fun k => (ties W).getD k (0, 0)
/-- stands all along the way, and comes there -/
def Path (W : Web) (C' : List Int) : List Int → List (Nat × Nat) → Prop
  | C, [] => Stands W C ∧ C = C'
  | C, t :: ts => Stands W C ∧ Path W C' (flip C ((ties W).idxOf t)) ts
def Leads (W : Web) (C C' : List Int) (ts : List (Nat × Nat)) : Prop := (∀ t ∈ ts, t ∈ ties W) ∧ ts.Nodup ∧ Path W C' C ts

theorem getD_flip {C : List Int} {k j : Nat} (hk : k < C.length) : (flip C k).getD j 0 = if j = k then - C.getD k 0 else C.getD j 0 := by
  unfold flip
  rw [List.getD_eq_getElem?_getD, List.getElem?_set]
  by_cases e : j = k
  · subst e
    rw [if_pos rfl, if_pos hk, if_pos rfl]
    rfl
  · rw [if_neg (Ne.symm e), if_neg e, ← List.getD_eq_getElem?_getD]
theorem ch_getD {W : Web} {C : List Int} (ok : ChOk W C) {k : Nat} (hk : k < C.length) : C.getD k 0 = 1 ∨ C.getD k 0 = -1 := by
  rw [List.getD_eq_getElem?_getD, List.getElem?_eq_getElem hk]
  exact ok.2 _ (List.getElem_mem hk)
theorem mem_unlike {C C' : List Int} {k : Nat} : k ∈ unlike C C' ↔ k < C.length ∧ C.getD k 0 ≠ C'.getD k 0 := by
  unfold unlike
  rw [List.mem_filter, List.mem_range, decide_eq_true_iff]
theorem unlike_asc (C C' : List Int) : (unlike C C').Pairwise (· < ·) := List.Pairwise.filter _ List.pairwise_lt_range
theorem unlike_nil {W : Web} {C C' : List Int} (ok : ChOk W C) (ok' : ChOk W C') : unlike C C' = [] ↔ C = C' := by
  constructor
  · intro h
    have hl : C.length = C'.length := ok.1.trans ok'.1.symm
    apply List.ext_getElem hl
    intro k h1 h2
    refine Classical.byContradiction fun q => ?_
    have : k ∈ unlike C C' := mem_unlike.mpr ⟨h1, by
      rw [List.getD_eq_getElem?_getD, List.getD_eq_getElem?_getD, List.getElem?_eq_getElem h1, List.getElem?_eq_getElem h2]
      exact q⟩
    rw [h] at this
    cases this
  · rintro rfl
    unfold unlike
    rw [List.filter_eq_nil_iff]
    intro k _
    simp
/-- flipped at one of them: one less -/
theorem unlike_flip {W : Web} {C C' : List Int} (ok : ChOk W C) (ok' : ChOk W C') {k : Nat} (hk : k ∈ unlike C C') : unlike (flip C k) C' = (unlike C C').filter fun j => decide (j ≠ k) := by
  obtain ⟨h1, h2⟩ := mem_unlike.mp hk
  unfold unlike
  rw [flip_len, List.filter_filter]
  refine List.filter_congr fun j hj => ?_
  rw [getD_flip h1]
  have hj1 := List.mem_range.mp hj
  by_cases e : j = k
  · subst e
    rw [if_pos rfl]
    have a := ch_getD ok h1
    have b := ch_getD (W := W) (C := C') ok' (k := j) (by rw [ok'.1, ← ok.1]; exact h1)
    have : - C.getD j 0 = C'.getD j 0 := by omega
    rw [this]
    simp
  · rw [if_neg e]
    simp [e]
theorem unlike_flip_len {W : Web} {C C' : List Int} (ok : ChOk W C) (ok' : ChOk W C') {k : Nat} (hk : k ∈ unlike C C') : (unlike (flip C k) C').length + 1 = (unlike C C').length := by
  rw [unlike_flip ok ok' hk]
  have nd : (unlike C C').Nodup := (unlike_asc C C').imp fun h => Nat.ne_of_lt h
  generalize unlike C C' = l at *
  induction l with
  | nil => cases hk
  | cons x l ih =>
    obtain ⟨n1, n2⟩ := List.nodup_cons.mp nd
    by_cases e : x = k
    · subst e
      rw [List.filter_cons_of_neg (by simp), List.filter_eq_self.mpr fun j hj => ?_, List.length_cons]
      simp
      rintro rfl
      exact n1 hj
    · rw [List.filter_cons_of_pos (by simpa using e), List.length_cons, List.length_cons]
      rcases List.mem_cons.mp hk with q | q
      · exact absurd q.symm e
      · rw [ih q n2]
/-- the next gate of two unlike standing choices -/
theorem nextK_ok {W : Web} (ok : WebOk W) {C C' : List Int} (s : Stands W C) (s' : Stands W C') (ne : C ≠ C') :
    ((unlike C C').filter fun k => standsB W (flip C k))[0]? = some (nextK W C C') ∧ nextK W C C' ∈ unlike C C' ∧ Stands W (flip C (nextK W C C')) := by
  obtain ⟨k, t, r1, r2, r3⟩ := gate_exists ok s s' ne
  have hk : k ∈ (unlike C C').filter fun k => standsB W (flip C k) := List.mem_filter.mpr ⟨mem_unlike.mpr ⟨by rw [s.ok.1]; exact (List.getElem?_eq_some_iff.mp r1).1, r2⟩, standsB_iff.mpr r3⟩
  have e : ((unlike C C').filter fun k => standsB W (flip C k))[0]? = some (nextK W C C') := by
    unfold nextK
    rw [List.getD_eq_getElem?_getD, List.getElem?_eq_getElem (List.length_pos_of_mem hk)]
    rfl
  have m := List.mem_filter.mp (List.mem_of_getElem? e)
  exact ⟨e, m.1, standsB_iff.mp m.2⟩
theorem idx_tie {W : Web} {k : Nat} (hk : k < (ties W).length) : (ties W).idxOf ((ties W).getD k (0, 0)) = k := by
  rw [List.getD_eq_getElem?_getD, List.getElem?_eq_getElem hk]
  exact List.Nodup.idxOf_getElem (ties_nodup W) k hk
theorem tie_mem {W : Web} {k : Nat} (hk : k < (ties W).length) : (ties W).getD k (0, 0) ∈ ties W := by
  rw [List.getD_eq_getElem?_getD, List.getElem?_eq_getElem hk]
  exact List.getElem_mem hk
/-- the row of gates leads there, over just the ties that differ -/
theorem rowFrom_ok {W : Web} (ok : WebOk W) {C' : List Int} (s' : Stands W C') : ∀ (N : Nat) (C : List Int), Stands W C → (unlike C C').length = N →
    Path W C' C (rowFrom W C' N C) ∧ (rowFrom W C' N C).Nodup ∧ ∀ t, t ∈ rowFrom W C' N C ↔ t ∈ unlikeTies W C C'
  | 0, C, s, hN => by
    have e := List.eq_nil_of_length_eq_zero hN
    refine ⟨⟨s, (unlike_nil s.ok s'.ok).mp e⟩, List.nodup_nil, fun t => ?_⟩
    unfold unlikeTies
    rw [e]
    exact Iff.rfl
  | N + 1, C, s, hN => by
    have ne : C ≠ C' := fun q => by
      rw [(unlike_nil s.ok s'.ok).mpr q] at hN
      cases hN
    obtain ⟨_, m, st⟩ := nextK_ok ok s s' ne
    have hk : nextK W C C' < (ties W).length := by
      rw [← s.ok.1]
      exact (mem_unlike.mp m).1
    have hl := unlike_flip_len s.ok s'.ok m
    obtain ⟨i1, i2, i3⟩ := rowFrom_ok ok s' N (flip C (nextK W C C')) st (by omega)
    have uf := unlike_flip s.ok s'.ok m
    have nin : (ties W).getD (nextK W C C') (0, 0) ∉ unlikeTies W (flip C (nextK W C C')) C' := fun q => by
      obtain ⟨j, hj, e⟩ := List.mem_map.mp q
      rw [uf] at hj
      obtain ⟨j1, j2⟩ := List.mem_filter.mp hj
      have hj3 : j < (ties W).length := by
        rw [← s.ok.1]
        exact (mem_unlike.mp j1).1
      have : (ties W).idxOf ((ties W).getD j (0, 0)) = (ties W).idxOf ((ties W).getD (nextK W C C') (0, 0)) := congrArg (fun t => (ties W).idxOf t) e
      rw [idx_tie hj3, idx_tie hk] at this
      simp at j2
      exact j2 this
    refine ⟨⟨s, ?_⟩, List.nodup_cons.mpr ⟨fun q => nin ((i3 _).mp q), i2⟩, fun t => ?_⟩
    · rw [idx_tie hk]
      exact i1
    · show t ∈ (ties W).getD (nextK W C C') (0, 0) :: rowFrom W C' N (flip C (nextK W C C')) ↔ _
      rw [List.mem_cons, i3]
      unfold unlikeTies
      rw [uf, List.mem_map, List.mem_map]
      constructor
      · rintro (h | ⟨j, hj, rfl⟩)
        · exact ⟨_, m, h.symm⟩
        · exact ⟨j, (List.mem_filter.mp hj).1, rfl⟩
      · rintro ⟨j, hj, rfl⟩
        by_cases e : j = nextK W C C'
        · left
          rw [e]
        · right
          exact ⟨j, List.mem_filter.mpr ⟨hj, by simpa using e⟩, rfl⟩
theorem gateRow_leads {W : Web} (ok : WebOk W) {C C' : List Int} (s : Stands W C) (s' : Stands W C') : Leads W C C' (gateRow W C C') := by
  obtain ⟨h1, h2, h3⟩ := rowFrom_ok ok s' _ C s rfl
  refine ⟨fun t ht => ?_, h2, h1⟩
  obtain ⟨k, hk, rfl⟩ := List.mem_map.mp ((h3 t).mp ht)
  exact tie_mem (by rw [← s.ok.1]; exact (mem_unlike.mp hk).1)
theorem unlikeTies_asc {W : Web} {C C' : List Int} (ok : ChOk W C) : (unlikeTies W C C').Pairwise LexLt := by
  unfold unlikeTies
  rw [List.pairwise_map]
  refine List.Pairwise.imp_of_mem ?_ (unlike_asc C C')
  intro a b ha hb hab
  have h1 : a < (ties W).length := by rw [← ok.1]; exact (mem_unlike.mp ha).1
  have h2 : b < (ties W).length := by rw [← ok.1]; exact (mem_unlike.mp hb).1
  have := List.pairwise_iff_getElem.mp (ties_asc W) a b h1 h2 hab
  rw [List.getD_eq_getElem?_getD, List.getD_eq_getElem?_getD, List.getElem?_eq_getElem h1, List.getElem?_eq_getElem h2]
  exact this
/-- any ascending list of the same ties is that list -/
theorem asc_unique : ∀ {l m : List (Nat × Nat)}, l.Pairwise LexLt → m.Pairwise LexLt → (∀ t, t ∈ l ↔ t ∈ m) → l = m
  | [], [], _, _, _ => rfl
  | [], t :: m, _, _, h => by
    have := (h t).mpr List.mem_cons_self
    cases this
  | t :: l, [], _, _, h => by
    have := (h t).mp List.mem_cons_self
    cases this
  | a :: l, b :: m, h1, h2, h => by
    obtain ⟨a1, a2⟩ := List.pairwise_cons.mp h1
    obtain ⟨b1, b2⟩ := List.pairwise_cons.mp h2
    have asym : ∀ s t : Nat × Nat, LexLt s t → LexLt t s → False := fun s t p q => by
      unfold LexLt at p q
      omega
    have e : a = b := by
      rcases List.mem_cons.mp ((h a).mp List.mem_cons_self) with q | q
      · exact q
      · rcases List.mem_cons.mp ((h b).mpr List.mem_cons_self) with q2 | q2
        · exact q2.symm
        · exact (asym _ _ (b1 a q) (a1 b q2)).elim
    subst e
    congr 1
    refine asc_unique a2 b2 fun t => ?_
    constructor
    · intro ht
      rcases List.mem_cons.mp ((h t).mp (List.mem_cons_of_mem _ ht)) with q | q
      · subst q
        exact absurd rfl (a1 _ ht).ne
      · exact q
    · intro ht
      rcases List.mem_cons.mp ((h t).mpr (List.mem_cons_of_mem _ ht)) with q | q
      · subst q
        exact absurd rfl (b1 _ ht).ne
      · exact q
theorem gateRow_mem {W : Web} (ok : WebOk W) {C C' : List Int} (s : Stands W C) (s' : Stands W C') : (gateRow W C C').Nodup ∧ ∀ t, t ∈ gateRow W C C' ↔ t ∈ unlikeTies W C C' := (rowFrom_ok ok s' _ C s rfl).2
/-- one turn of the loop -/
theorem rowFrom_step {W : Web} (ok : WebOk W) {C C' : List Int} (s : Stands W C) (s' : Stands W C') (ne : C ≠ C') :
    rowFrom W C' (unlike C C').length C = (ties W).getD (nextK W C C') (0, 0) :: rowFrom W C' (unlike (flip C (nextK W C C')) C').length (flip C (nextK W C C')) := by
  have h := unlike_flip_len s.ok s'.ok (nextK_ok ok s s' ne).2.1
  rw [← h]
  rfl
theorem gateRow_len {W : Web} (ok : WebOk W) {C C' : List Int} (s : Stands W C) (s' : Stands W C') : (gateRow W C C').length ≤ (ties W).length :=
  nodup_le (gateRow_mem ok s s').1 (gateRow_leads ok s s').1
end Sg

/-! the layer of this proof: a known part of the heap, data at values, what an expression comes to -/
namespace Sg
open PySem PySem.Spec PyProof.Rows L2
open Evl (Ex)

/-! ### data -/
mutual
/-- in the heap G the value v is the data d -/
inductive Dx (G : Hp) : V → PyData → Prop
  | non : Dx G .non .none
  | bl (b : Bool) : Dx G (.bl b) (.bool b)
  | int (i : Int) : Dx G (.int i) (.int i)
  | str (x : Str) : Dx G (.str x) (.str x)
  | lst {a : Addr} {xs : List V} {ds : List PyData} : G a = some (.lst xs) → DxA G xs ds → Dx G (.ref a) (.list ds)
  | tup {a : Addr} {xs : List V} {ds : List PyData} : G a = some (.tup xs) → DxA G xs ds → Dx G (.ref a) (.tuple ds)
inductive DxA (G : Hp) : List V → List PyData → Prop
  | nil : DxA G [] []
  | cons {v : V} {vs : List V} {d : PyData} {ds : List PyData} : Dx G v d → DxA G vs ds → DxA G (v :: vs) (d :: ds)
end
section
variable {G G' : Hp}
mutual
theorem Dx.up (e : Ex G G') : ∀ {v : V} {d : PyData}, Dx G v d → Dx G' v d
  | _, _, .non => .non
  | _, _, .bl b => .bl b
  | _, _, .int i => .int i
  | _, _, .str x => .str x
  | _, _, .lst h hs => .lst (e _ _ h) (DxA.up e hs)
  | _, _, .tup h hs => .tup (e _ _ h) (DxA.up e hs)
theorem DxA.up (e : Ex G G') : ∀ {vs : List V} {ds : List PyData}, DxA G vs ds → DxA G' vs ds
  | _, _, .nil => .nil
  | _, _, .cons h hs => .cons (Dx.up e h) (DxA.up e hs)
end
mutual
theorem Dx.dp {K : PySem.W.Frag} : ∀ {v : V} {d : PyData}, Dx G v d → Dp K G v d
  | _, _, .non => .non
  | _, _, .bl b => .bl b
  | _, _, .int i => .int i
  | _, _, .str x => .str x
  | _, _, .lst h hs => .lst (SqL.of h) (DxA.dp hs)
  | _, _, .tup h hs => .tup (SqT.of h) (DxA.dp hs)
theorem DxA.dp {K : PySem.W.Frag} : ∀ {vs : List V} {ds : List PyData}, DxA G vs ds → DpAll K G vs ds
  | _, _, .nil => .nil
  | _, _, .cons h hs => .cons (Dx.dp h) (DxA.dp hs)
end
theorem DxA.length : ∀ {vs : List V} {ds : List PyData}, DxA G vs ds → vs.length = ds.length
  | _, _, .nil => rfl
  | _, _, .cons _ hs => by rw [List.length_cons, List.length_cons, DxA.length hs]
theorem DxA.get : ∀ {vs : List V} {ds : List PyData} {i : Nat} {d : PyData}, DxA G vs ds → ds[i]? = some d → ∃ v, vs[i]? = some v ∧ Dx G v d
  | _, _, 0, _, .cons h _, e => by
    cases e
    exact ⟨_, rfl, h⟩
  | _, _, i + 1, _, .cons _ hs, e => DxA.get (i := i) hs e
theorem DxA.getV : ∀ {vs : List V} {ds : List PyData} {i : Nat} {v : V}, DxA G vs ds → vs[i]? = some v → ∃ d, ds[i]? = some d ∧ Dx G v d
  | _, _, 0, _, .cons h _, e => by
    cases e
    exact ⟨_, rfl, h⟩
  | _, _, i + 1, _, .cons _ hs, e => DxA.getV (i := i) hs e
theorem DxA.append : ∀ {vs ws : List V} {ds es : List PyData}, DxA G vs ds → DxA G ws es → DxA G (vs ++ ws) (ds ++ es)
  | _, _, _, _, .nil, h => h
  | _, _, _, _, .cons a b, h => .cons a (DxA.append b h)
theorem DxA.take : ∀ {vs : List V} {ds : List PyData} (n : Nat), DxA G vs ds → DxA G (vs.take n) (ds.take n)
  | _, _, 0, _ => by simpa using DxA.nil
  | _, _, _ + 1, .nil => .nil
  | _, _, n + 1, .cons a b => .cons a (DxA.take n b)
theorem DxA.drop : ∀ {vs : List V} {ds : List PyData} (n : Nat), DxA G vs ds → DxA G (vs.drop n) (ds.drop n)
  | _, _, 0, h => h
  | _, _, _ + 1, .nil => .nil
  | _, _, n + 1, .cons _ b => DxA.drop n b
theorem DxA.ints : ∀ (ns : List Int), DxA G (ns.map V.int) (ns.map PyData.int)
  | [] => .nil
  | n :: ns => .cons (.int n) (DxA.ints ns)
theorem DxA.ints_of : ∀ {ns : List Int} {vs : List V}, DxA G vs (ns.map PyData.int) → vs = ns.map V.int
  | [], _, .nil => rfl
  | n :: ns, _, .cons h hs => by
    cases h
    rw [List.map_cons, DxA.ints_of hs]
theorem DxA.bls_of : ∀ {bs : List Bool} {vs : List V}, DxA G vs (bs.map PyData.bool) → vs = bs.map V.bl
  | [], _, .nil => rfl
  | n :: ns, _, .cons h hs => by
    cases h
    rw [List.map_cons, DxA.bls_of hs]
theorem Dx.int_of {v : V} {i : Int} (h : Dx G v (.int i)) : v = .int i := by
  cases h
  rfl
theorem Dx.bl_of {v : V} {b : Bool} (h : Dx G v (.bool b)) : v = .bl b := by
  cases h
  rfl
theorem Dx.lst_of {v : V} {ds : List PyData} (h : Dx G v (.list ds)) : ∃ a xs, v = .ref a ∧ G a = some (.lst xs) ∧ DxA G xs ds := by
  cases h with
  | lst h hs => exact ⟨_, _, rfl, h, hs⟩
theorem Dx.tup_of {v : V} {ds : List PyData} (h : Dx G v (.tuple ds)) : ∃ a xs, v = .ref a ∧ G a = some (.tup xs) ∧ DxA G xs ds := by
  cases h with
  | tup h hs => exact ⟨_, _, rfl, h, hs⟩
end

/-! ### a step: known parts and heaps, before and behind -/
structure Stp (G H G' H' : Hp) : Prop where
  g : Ex G G'
  h : Ex H H'
  gh : Ex G' H'
  fr : ∀ a, H a ≠ none → G' a = G a
theorem Stp.refl {G H : Hp} (e : Ex G H) : Stp G H G H := ⟨Ex.refl _, Ex.refl _, e, fun _ _ => rfl⟩
theorem Ex.nz {H H' : Hp} (e : Ex H H') {a : Addr} (h : H a ≠ none) : H' a ≠ none := by
  cases q : H a with
  | none => exact absurd q h
  | some o =>
    rw [e a o q]
    exact fun z => nomatch z
theorem Stp.trans {G H G1 H1 G2 H2 : Hp} (s : Stp G H G1 H1) (t : Stp G1 H1 G2 H2) : Stp G H G2 H2 :=
  ⟨s.g.trans t.g, s.h.trans t.h, t.gh, fun a ha => (t.fr a (Ex.nz s.h ha)).trans (s.fr a ha)⟩
/-- an object that the first heap does not hold changes, unknown -/
theorem Stp.mut {G0 H0 G H : Hp} {p : Addr} {o : HO} (s : Stp G0 H0 G H) (h0 : H0 p = none) (hg : G p = none) : Stp G0 H0 G (upd H p o) :=
  ⟨s.g, s.h.mut h0, s.gh.mut hg, s.fr⟩
theorem fresh_of {H H' : Hp} {p : Addr} (e : Ex H H') (h : H' p = none) : H p = none := by
  cases q : H p with
  | none => rfl
  | some o =>
    rw [e p o q] at h
    cases h
theorem Stp.new {G0 H0 G H : Hp} {p : Addr} {o : HO} (s : Stp G0 H0 G H) (h : H p = none) : Stp G0 H0 G (upd H p o) := s.mut (fresh_of s.h h) (fresh_of s.gh h)
/-- it becomes known -/
theorem Stp.know {G0 H0 G H : Hp} {p : Addr} {o : HO} (s : Stp G0 H0 G H) (h0 : H0 p = none) (hg : G p = none) (hp : H p = some o) : Stp G0 H0 (upd G p o) H := by
  refine ⟨s.g.mut (fresh_of s.g hg), s.h, fun a u ha => ?_, fun a ha => ?_⟩
  · by_cases e : a = p
    · subst e
      rw [upd_same] at ha
      cases ha
      exact hp
    · rw [upd_ne e] at ha
      exact s.gh a u ha
  · have e : a ≠ p := by
      rintro rfl
      exact ha h0
    rw [upd_ne e]
    exact s.fr a ha
theorem Stp.newKnown {G0 H0 G H : Hp} {p : Addr} {o : HO} (s : Stp G0 H0 G H) (h : H p = none) : Stp G0 H0 (upd G p o) (upd H p o) :=
  (s.new h).know (fresh_of s.h h) (fresh_of s.gh h) upd_same
theorem ex_upd {G : Hp} {p : Addr} {o : HO} (h : G p = none) : Ex G (upd G p o) := Ex.new h
/-- the known part joined with another -/
def join (G1 G2 : Hp) : Hp := fun a => match G1 a with
  | some o => some o
  | none => G2 a
theorem join_l {G1 G2 : Hp} : Ex G1 (join G1 G2) := fun a o h => by
  unfold join
  rw [h]
theorem Stp.widen {G H G' H' G1 : Hp} (s : Stp G H G' H') (e : Ex G G1) (e1 : Ex G1 H) : Stp G1 H (join G1 G') H' ∧ Ex G' (join G1 G') := by
  have sub : Ex G' (join G1 G') := fun a o h => by
    unfold join
    cases q : G1 a with
    | none => exact h
    | some u =>
      have hz : H a ≠ none := by
        rw [e1 a u q]
        exact fun z => nomatch z
      have hg : G a = some o := (s.fr a hz).symm.trans h
      rw [e a o hg] at q
      cases q
      rfl
  refine ⟨⟨join_l, s.h, fun a o h => ?_, fun a ha => ?_⟩, sub⟩
  · unfold join at h
    cases q : G1 a with
    | none =>
      rw [q] at h
      exact s.gh a o h
    | some u =>
      rw [q] at h
      cases h
      exact s.h a o (e1 a o q)
  · unfold join
    cases q : G1 a with
    | none =>
      show G' a = none
      exact (s.fr a ha).trans (fresh_of e q)
    | some u => rfl

/-! ### what an expression comes to: M is read, G is where the known things stand -/
def Ret (G H : Hp) (d : PyData) (Q : VK) : Prop := ∀ v G' H', Stp G H G' H' → Dx G' v d → Q v H'
def Gd (te : TE) (σ : L2.St) (M G : Hp) (d : PyData) : Prop := ∀ H, Ex M H → Ex G H → ∀ Q : VK, Ret G H d Q → te σ H Q
def Gt (tt : TT) (σ : L2.St) (M G : Hp) (b : Bool) : Prop := ∀ H, Ex M H → Ex G H → ∀ Q : Bool → Hp → Prop, (∀ G' H', Stp G H G' H' → Q b H') → tt σ H Q
def Ga (ta : TA) (σ : L2.St) (M G : Hp) (ds : List PyData) : Prop := ∀ H, Ex M H → Ex G H → ∀ Q : List V → Hp → Prop, (∀ vs G' H', Stp G H G' H' → DxA G' vs ds → Q vs H') → ta σ H Q
def Go (to : TO) (σ : L2.St) (M G : Hp) (o : Option Int) : Prop := ∀ H, Ex M H → Ex G H → ∀ Q : Option Int → Hp → Prop, (∀ G' H', Stp G H G' H' → Q o H') → to σ H Q
/-- nothing but the known is read -/
def Z : Hp := fun _ => none
theorem exZ {H : Hp} : Ex Z H := fun _ _ h => nomatch h
section
variable {σ : L2.St} {M M' G G1 : Hp} {te ta tb tc : TE} {t u : TT} {d e : PyData} {ds es : List PyData}
theorem Gd.mono (h : Gd te σ M G d) (x : Ex G G1) : Gd te σ M G1 d := fun H hM hG Q q => h H hM (x.trans hG) Q fun v G' H' s hd => by
  obtain ⟨s2, e2⟩ := s.widen x hG
  exact q v _ H' s2 (hd.up e2)
theorem Gt.mono {b : Bool} (h : Gt t σ M G b) (x : Ex G G1) : Gt t σ M G1 b := fun H hM hG Q q => h H hM (x.trans hG) Q fun G' H' s => q _ H' (s.widen x hG).1
theorem Ga.mono {ta : TA} (h : Ga ta σ M G ds) (x : Ex G G1) : Ga ta σ M G1 ds := fun H hM hG Q q => h H hM (x.trans hG) Q fun v G' H' s hd => by
  obtain ⟨s2, e2⟩ := s.widen x hG
  exact q v _ H' s2 (hd.up e2)
theorem Gd.monoM (h : Gd te σ M G d) (x : Ex M M') : Gd te σ M' G d := fun H hM hG Q q => h H (x.trans hM) hG Q q
theorem Gt.monoM {b : Bool} (h : Gt t σ M G b) (x : Ex M M') : Gt t σ M' G b := fun H hM hG Q q => h H (x.trans hM) hG Q q
theorem Gd.is (h : Gd te σ M G d) (q : d = e) : Gd te σ M G e := q ▸ h
theorem Gt.is {a b : Bool} (h : Gt t σ M G a) (q : a = b) : Gt t σ M G b := q ▸ h

theorem gd_var {i : Nat} {v : V} (h : σ[i]? = some (some v)) (hd : Dx G v d) : Gd (tVar i) σ M G d := fun H _ hG Q q => ⟨v, h, q v G H (Stp.refl hG) hd⟩
theorem gd_int {i : Int} : Gd (tC (.int i)) σ M G (.int i) := fun H _ hG Q q => q _ G H (Stp.refl hG) (.int i)
theorem gd_bl {b : Bool} : Gd (tC (.bl b)) σ M G (.bool b) := fun H _ hG Q q => q _ G H (Stp.refl hG) (.bl b)
theorem gd_non : Gd (tC .non) σ M G .none := fun H _ hG Q q => q _ G H (Stp.refl hG) .non
theorem gd_str {x : Str} : Gd (tC (.str x)) σ M G (.str x) := fun H _ hG Q q => q _ G H (Stp.refl hG) (.str x)
/-- two operands, then a rule on values -/
theorem gd_op {r : R2} {z : PyData} (ha : Gd ta σ M G d) (hb : Gd tb σ M G e) (hr : ∀ v w G1 H, Ex M H → Ex G1 H → Dx G1 v d → Dx G1 w e → ∀ Q : VK, Ret G1 H z Q → r v w H Q) : Gd (tOp r ta tb) σ M G z := fun H hM hG Q q =>
  ha H hM hG _ fun v G1 H1 s1 d1 => (hb.mono s1.g) H1 (hM.trans s1.h) s1.gh _ fun w G2 H2 s2 d2 =>
    hr v w G2 H2 ((hM.trans s1.h).trans s2.h) s2.gh (d1.up s2.g) d2 Q fun z G3 H3 s3 d3 => q z G3 H3 ((s1.trans s2).trans s3) d3
theorem gd_un {r : V → Hp → VK → Prop} {z : PyData} (ha : Gd ta σ M G d) (hr : ∀ v G1 H, Ex M H → Ex G1 H → Dx G1 v d → ∀ Q : VK, Ret G1 H z Q → r v H Q) : Gd (tUn r ta) σ M G z := fun H hM hG Q q =>
  ha H hM hG _ fun v G1 H1 s1 d1 => hr v G1 H1 (hM.trans s1.h) s1.gh d1 Q fun z G3 H3 s3 d3 => q z G3 H3 (s1.trans s3) d3
theorem Ret.go {H : Hp} {Q : VK} (q : Ret G H d Q) (hG : Ex G H) {v : V} (hd : Dx G v d) : Q v H := q v G H (Stp.refl hG) hd
theorem gd_I0 {g : Int → Int → Int} {i j : Int} (ha : Gd ta σ M G (.int i)) (hb : Gd tb σ M G (.int j)) : Gd (tOp (rI0 fun i j => .int (g i j)) ta tb) σ M G (.int (g i j)) :=
  gd_op ha hb fun v w G1 H _ hG h1 h2 Q q => ⟨i, j, h1.int_of, h2.int_of, q.go hG (.int _)⟩
theorem gd_I {C : Int → Int → Prop} {g : Int → Int → Int} {i j : Int} (ha : Gd ta σ M G (.int i)) (hb : Gd tb σ M G (.int j)) (hc : C i j) : Gd (tOp (rI C fun i j => .int (g i j)) ta tb) σ M G (.int (g i j)) :=
  gd_op ha hb fun v w G1 H _ hG h1 h2 Q q => ⟨i, j, h1.int_of, h2.int_of, hc, q.go hG (.int _)⟩
theorem gd_B0 {g : Int → Int → Bool} {i j : Int} (ha : Gd ta σ M G (.int i)) (hb : Gd tb σ M G (.int j)) : Gd (tOp (rI0 fun i j => .bl (g i j)) ta tb) σ M G (.bool (g i j)) :=
  gd_op ha hb fun v w G1 H _ hG h1 h2 Q q => ⟨i, j, h1.int_of, h2.int_of, q.go hG (.bl _)⟩
theorem gd_neg {i : Int} (ha : Gd ta σ M G (.int i)) : Gd (tUn (rU fun i => .int (-i)) ta) σ M G (.int (-i)) :=
  gd_un ha fun v G1 H _ hG h1 Q q => ⟨i, h1.int_of, q.go hG (.int _)⟩
theorem gd_eq {K : PySem.W.Frag} (ha : Gd ta σ M G d) (hb : Gd tb σ M G e) (s1 : SeqAt.shaped d = true) (s2 : SeqAt.shaped e = true) : Gd (tOp (rEqD K) ta tb) σ M G (.bool (PyData.eqv d e)) :=
  gd_op ha hb fun v w G1 H _ hG h1 h2 Q q => ⟨d, e, (h1.up hG).dp, (h2.up hG).dp, s1, s2, q.go hG (.bl _)⟩
theorem gd_ne {K : PySem.W.Frag} (ha : Gd ta σ M G d) (hb : Gd tb σ M G e) (s1 : SeqAt.shaped d = true) (s2 : SeqAt.shaped e = true) : Gd (tOp (rNeD K) ta tb) σ M G (.bool (!PyData.eqv d e)) :=
  gd_op ha hb fun v w G1 H _ hG h1 h2 Q q => ⟨d, e, (h1.up hG).dp, (h2.up hG).dp, s1, s2, q.go hG (.bl _)⟩
theorem gd_inD {K : PySem.W.Frag} (ha : Gd ta σ M G d) (hb : Gd tb σ M G (.list ds)) (s1 : SeqAt.shaped d = true) (s2 : SeqAt.shaped (.list ds) = true) : Gd (tOp (rInD K) ta tb) σ M G (.bool (ds.any fun z => PyData.eqv z d)) :=
  gd_op ha hb fun v w G1 H _ hG h1 h2 Q q => ⟨d, ds, (h1.up hG).dp, (h2.up hG).dp, s1, s2, q.go hG (.bl _)⟩
theorem gd_isN (ha : Gd ta σ M G d) {b : Bool} (hd : ∀ v, Dx G v d → decide (v = .non) = b) (hd2 : ∀ G1 v, Dx G1 v d → decide (v = .non) = b) : Gd (tOp (fun x y H Q => y = .non ∧ Q (.bl (decide (x = .non))) H) ta (tC .non)) σ M G (.bool b) :=
  gd_op ha gd_non fun v w G1 H _ hG h1 h2 Q q => ⟨by cases h2; rfl, by rw [hd2 G1 v h1]; exact q.go hG (.bl _)⟩
/-- an index into a list or a tuple -/
theorem atI_dx {xs : List V} {i : Int} (hx : DxA G xs ds) (h : atI ds i = some d) : ∃ v, atI xs i = some v ∧ Dx G v d := by
  unfold atI at h ⊢
  rw [hx.length]
  cases q : ixN ds.length i with
  | none =>
    rw [q] at h
    cases h
  | some j =>
    rw [q] at h
    exact hx.get h
abbrev rIx2 (K : PySem.W.Frag) : R2 := fun x y H Q => rIxL K x y H Q ∨ rIxT K x y H Q
theorem gd_ixL {K : PySem.W.Frag} {i : Int} (ha : Gd ta σ M G (.list ds)) (hb : Gd tb σ M G (.int i)) (h : atI ds i = some d) : Gd (tOp (rIx2 K) ta tb) σ M G d :=
  gd_op ha hb fun v w G1 H _ hG h1 h2 Q q => by
    obtain ⟨a, xs, rfl, ga, hx⟩ := h1.lst_of
    obtain ⟨z, z1, z2⟩ := atI_dx hx h
    exact .inl ⟨a, xs, i, z, rfl, h2.int_of, SqL.of (hG _ _ ga), z1, q.go hG z2⟩
theorem gd_ixT {K : PySem.W.Frag} {i : Int} (ha : Gd ta σ M G (.tuple ds)) (hb : Gd tb σ M G (.int i)) (h : atI ds i = some d) : Gd (tOp (rIx2 K) ta tb) σ M G d :=
  gd_op ha hb fun v w G1 H _ hG h1 h2 Q q => by
    obtain ⟨a, xs, rfl, ga, hx⟩ := h1.tup_of
    obtain ⟨z, z1, z2⟩ := atI_dx hx h
    exact .inr ⟨a, xs, i, z, rfl, h2.int_of, SqT.of (hG _ _ ga), z1, q.go hG z2⟩
/-! and, or, not, if: as values, as tests -/
theorem gd_and {a b : Bool} (h1 : Gd ta σ M G (.bool a)) (h2 : a = true → Gd tb σ M G (.bool b)) : Gd (tAndV ta tb) σ M G (.bool (a && b)) := fun H hM hG Q q => h1 H hM hG _ fun v G1 H1 s1 d1 => ⟨a, d1.bl_of, by
  cases a with
  | true => exact (h2 rfl).mono s1.g H1 (hM.trans s1.h) s1.gh Q fun w G2 H2 s2 d2 => q w G2 H2 (s1.trans s2) d2
  | false => exact q _ G1 H1 s1 (.bl false)⟩
theorem gd_or {a b : Bool} (h1 : Gd ta σ M G (.bool a)) (h2 : a = false → Gd tb σ M G (.bool b)) : Gd (tOrV ta tb) σ M G (.bool (a || b)) := fun H hM hG Q q => h1 H hM hG _ fun v G1 H1 s1 d1 => ⟨a, d1.bl_of, by
  cases a with
  | true => exact q _ G1 H1 s1 (.bl true)
  | false => exact (h2 rfl).mono s1.g H1 (hM.trans s1.h) s1.gh Q fun w G2 H2 s2 d2 => q w G2 H2 (s1.trans s2) d2⟩
theorem gd_not {a : Bool} (h1 : Gd ta σ M G (.bool a)) : Gd (tNotV ta) σ M G (.bool (!a)) := fun H hM hG Q q => h1 H hM hG _ fun v G1 H1 s1 d1 => ⟨a, d1.bl_of, q _ G1 H1 s1 (.bl _)⟩
theorem gd_if {b : Bool} (h : Gt t σ M G b) (h1 : b = true → Gd ta σ M G d) (h2 : b = false → Gd tb σ M G d) : Gd (tIf t ta tb) σ M G d := fun H hM hG Q q => h H hM hG _ fun G1 H1 s1 => by
  cases b with
  | true => exact (h1 rfl).mono s1.g H1 (hM.trans s1.h) s1.gh Q fun w G2 H2 s2 d2 => q w G2 H2 (s1.trans s2) d2
  | false => exact (h2 rfl).mono s1.g H1 (hM.trans s1.h) s1.gh Q fun w G2 H2 s2 d2 => q w G2 H2 (s1.trans s2) d2
theorem gt_test {b : Bool} (h : Gd te σ M G (.bool b)) : Gt (tTest te) σ M G b := fun H hM hG Q q => h H hM hG _ fun v G1 H1 s1 d1 => ⟨b, d1.bl_of, q G1 H1 s1⟩
theorem gt_B {b : Bool} (h : Gd te σ M G (.bool b)) : Gt (tB te) σ M G b := fun H hM hG Q q => h H hM hG _ fun v G1 H1 s1 d1 => ⟨b, d1.bl_of, q G1 H1 s1⟩
theorem gt_and {a b : Bool} (h1 : Gt t σ M G a) (h2 : a = true → Gt u σ M G b) : Gt (tAnd t u) σ M G (a && b) := fun H hM hG Q q => h1 H hM hG _ fun G1 H1 s1 => by
  cases a with
  | true => exact (h2 rfl).mono s1.g H1 (hM.trans s1.h) s1.gh Q fun G2 H2 s2 => q G2 H2 (s1.trans s2)
  | false => exact q G1 H1 s1
theorem gt_or {a b : Bool} (h1 : Gt t σ M G a) (h2 : a = false → Gt u σ M G b) : Gt (tOr t u) σ M G (a || b) := fun H hM hG Q q => h1 H hM hG _ fun G1 H1 s1 => by
  cases a with
  | true => exact q G1 H1 s1
  | false => exact (h2 rfl).mono s1.g H1 (hM.trans s1.h) s1.gh Q fun G2 H2 s2 => q G2 H2 (s1.trans s2)
theorem gt_not {a : Bool} (h1 : Gt t σ M G a) : Gt (tNot t) σ M G (!a) := fun H hM hG Q q => h1 H hM hG _ fun G1 H1 s1 => q G1 H1 s1
/-- a < b < c over ints -/
theorem gd_chain {g h : Int → Int → Bool} {i j k : Int} (ha : Gd ta σ M G (.int i)) (hb : Gd tb σ M G (.int j)) (hc : Gd tc σ M G (.int k)) :
    Gd (tChain (rI0 fun i j => .bl (g i j)) (rI0 fun i j => .bl (h i j)) ta tb tc) σ M G (.bool (g i j && h j k)) := fun H hM hG Q q =>
  ha H hM hG _ fun v G1 H1 s1 d1 => (hb.mono s1.g) H1 (hM.trans s1.h) s1.gh _ fun w G2 H2 s2 d2 => ⟨i, j, d1.int_of, d2.int_of, g i j, rfl, by
    cases hg : g i j with
    | true =>
      rw [hg, Bool.true_and] at q
      refine iteT ((hc.mono (s1.g.trans s2.g)) H2 ((hM.trans s1.h).trans s2.h) s2.gh _ fun x G3 H3 s3 d3 => ⟨j, k, d2.int_of, d3.int_of, ?_⟩)
      exact q _ G3 H3 ((s1.trans s2).trans s3) (.bl _)
    | false =>
      rw [hg, Bool.false_and] at q
      exact iteF (q _ G2 H2 (s1.trans s2) (.bl _))⟩
/-! argument lists, displays -/
theorem ga_nil : Ga tNil σ M G [] := fun H _ hG Q q => q [] G H (Stp.refl hG) .nil
theorem ga_cons {tr : TA} (h : Gd te σ M G d) (hr : Ga tr σ M G ds) : Ga (tCons te tr) σ M G (d :: ds) := fun H hM hG Q q =>
  h H hM hG _ fun v G1 H1 s1 d1 => (hr.mono s1.g) H1 (hM.trans s1.h) s1.gh _ fun vs G2 H2 s2 d2 => q (v :: vs) G2 H2 (s1.trans s2) (.cons (d1.up s2.g) d2)
theorem sz {n : Nat} (h : n ≤ 100000) : n ≤ sizeLine := Nat.le_trans h (by decide)
theorem szl {n : Nat} (h : n < 100000) : n < sizeLine := Nat.lt_of_lt_of_le h (by decide)
theorem ret_tup {H : Hp} {Q : VK} {xs : List V} (hG : Ex G H) (hx : DxA G xs ds) (q : Ret G H (.tuple ds) Q) : ∀ p, H p = none → Q (.ref p) (upd H p (.tup xs)) := fun p hp =>
  q _ (upd G p (.tup xs)) _ ((Stp.refl hG).newKnown hp) (.tup upd_same (hx.up (ex_upd (fresh_of hG hp))))
theorem ret_lst {H : Hp} {Q : VK} {xs : List V} (hG : Ex G H) (hx : DxA G xs ds) (q : Ret G H (.list ds) Q) : ∀ p, H p = none → Q (.ref p) (upd H p (.lst xs)) := fun p hp =>
  q _ (upd G p (.lst xs)) _ ((Stp.refl hG).newKnown hp) (.lst upd_same (hx.up (ex_upd (fresh_of hG hp))))
theorem Ret.from {H H1 : Hp} {Q : VK} (q : Ret G H d Q) (s : Stp G H G1 H1) : Ret G1 H1 d Q := fun v G2 H2 s2 d2 => q v G2 H2 (s.trans s2) d2
theorem gd_tup {ta : TA} (h : Ga ta σ M G ds) (hl : ds.length ≤ 100000) : Gd (tTup ta) σ M G (.tuple ds) := fun H hM hG Q q =>
  h H hM hG _ fun vs G1 H1 s1 d1 => ⟨sz (by rw [d1.length]; exact hl), ret_tup s1.gh d1 (q.from s1)⟩
theorem gd_lst {ta : TA} (h : Ga ta σ M G ds) (hl : ds.length ≤ 100000) : Gd (tLst ta) σ M G (.list ds) := fun H hM hG Q q =>
  h H hM hG _ fun vs G1 H1 s1 d1 => ⟨sz (by rw [d1.length]; exact hl), ret_lst s1.gh d1 (q.from s1)⟩
/-! calls -/
theorem gd_cb {r : List V → Hp → VK → Prop} {ta : TA} {z : PyData} (h : Ga ta σ M G ds) (hr : ∀ vs G1 H, Ex M H → Ex G1 H → DxA G1 vs ds → ∀ Q : VK, Ret G1 H z Q → r vs H Q) : Gd (tCB r ta) σ M G z := fun H hM hG Q q =>
  h H hM hG _ fun vs G1 H1 s1 d1 => hr vs G1 H1 (hM.trans s1.h) s1.gh d1 Q (q.from s1)
/-- a promise over data: P tells which result belongs to which arguments -/
def Spd (P : List PyData → PyData → Prop) : Sp := fun vs H Q _ => ∃ G ds d, Ex G H ∧ DxA G vs ds ∧ P ds d ∧ Ret G H d Q
theorem Spd.len {P : List PyData → PyData → Prop} {n : Nat} (h : ∀ ds d, P ds d → ds.length = n) : ∀ vs H Q E, Spd P vs H Q E → vs.length = n := fun vs H Q E ⟨G, ds, d, _, hv, hp, _⟩ => hv.length.trans (h ds d hp)
theorem gd_call {P : List PyData → PyData → Prop} {E : XK} {ta : TA} (h : Ga ta σ M G ds) (hp : P ds d) : Gd (tCall (Spd P) [] E ta) σ M G d := fun H hM hG Q q =>
  h H hM hG _ fun vs G1 H1 s1 d1 => ⟨G1, ds, d, s1.gh, by rw [List.append_nil]; exact d1, hp, q.from s1⟩
end
theorem nd_any {X : Cx} {e : Expr} : PE X e (fun _ _ _ => False) := ⟨fun _ _ _ _ _ _ h => h.elim⟩
end Sg

/-! rules for this program's constructs over the layer -/
namespace Sg
open PySem PySem.Spec PyProof.Rows L2
open Evl (Ex)

/-! ### built-in names -/
theorem bb_len : bootBuiltins "len" = some (.builtin "len") := by decide +kernel
theorem bb_isinstance : bootBuiltins "isinstance" = some (.builtin "isinstance") := by decide +kernel
theorem bb_all : bootBuiltins "all" = some (.builtin "all") := by decide +kernel
theorem bb_repr : bootBuiltins "repr" = some (.builtin "repr") := by decide +kernel
theorem bb_min : bootBuiltins "min" = some (.builtin "min") := by decide +kernel
theorem bb_max : bootBuiltins "max" = some (.builtin "max") := by decide +kernel
theorem bb_sorted : bootBuiltins "sorted" = some (.builtin "sorted") := by decide +kernel
theorem bb_tuple : bootBuiltins "tuple" = some (.type "tuple") := by decide +kernel
theorem bb_list : bootBuiltins "list" = some (.type "list") := by decide +kernel
theorem bb_int : bootBuiltins "int" = some (.type "int") := by decide +kernel
theorem bb_bool : bootBuiltins "bool" = some (.type "bool") := by decide +kernel
theorem bb_range : bootBuiltins "range" = some (.type "range") := by decide +kernel
theorem bb_set : bootBuiltins "set" = some (.type "set") := by decide +kernel
/-- what the module leaves alone, and its one number -/
structure Bi (mg : Str → Option Value) : Prop where
  len : mg "len" = none
  isinstance : mg "isinstance" = none
  all : mg "all" = none
  range : mg "range" = none
  zip : mg "zip" = none
  enumerate : mg "enumerate" = none
  tuple : mg "tuple" = none
  list : mg "list" = none
  set : mg "set" = none
  sorted : mg "sorted" = none
  repr : mg "repr" = none
  min : mg "min" = none
  max : mg "max" = none
  int : mg "int" = none
  bool : mg "bool" = none
  most : ∃ t, mg "MOST_PLACES" = some (.int 10 t)

/-! ### defs by their names -/
/-- a def as the module has it -/
structure Df (K : PySem.W.Frag) (mg : Str → Option Value) (x : Str) (st : Stmt) (ps : List Str) (f : Addr) (fd : FuncData) : Prop where
  F : FunD K x x (defArgs st) (defBody st) (defScope st) [] [] f fd
  g : mg x = some (.ref f)
  b : Binds K fd ps []
/-- it keeps a promise -/
structure Has (P : Program) (w : World) (K : PySem.W.Frag) (mg : Str → Option Value) (base : Heap) (k : Nat) (x : Str) (sp : Sp) : Prop where
  ex : ∃ (f : Addr) (fd : FuncData) (ps : List Str), FnOk P w K mg base CX0 k f fd ps sp ∧ mg x = some (.ref f) ∧ PySem.W.keepIn K (.ref f) = true ∧ Binds K fd ps []
theorem Df.has {P : Program} {w : World} {K : PySem.W.Frag} {mg : Str → Option Value} {base : Heap} {x : Str} {st : Stmt} {ps : List Str} {f : Addr} {fd : FuncData} {k : Nat} {sp : Sp} (D : Df K mg x st ps f fd) (ok : FnOk P w K mg base CX0 k f fd ps sp) : Has P w K mg base k x sp :=
  ⟨f, fd, ps, ok, D.g, D.F.kp, D.b⟩
section
variable {X : Cx}
theorem pe_has {k j : Nat} {x : Str} {sp : Sp} {t : TA} {p pos : Pos} {e : Expr} {es : List Expr} (c : Has X.prog X.w X.K X.mg X.base k x sp) (hr : Room j X.A) (hk : k ≤ j) (hg : Gl X x) (ha : PA X (e :: es) t)
    (hdb : (x == ("__debug__" : Str)) = false := by decide) (he : starEach (e :: es) X.env = (false, eval e X.env) :: starEach es X.env := by rfl) (hpl : (backTo pos (starEach es X.env)).any (·.1) = false := by rfl) :
    PE X (.Call (.Name x p) (e :: es) [] pos) (tCall sp [] E0 t) := by
  obtain ⟨f, fd, ps, F, hm, kp, b⟩ := c.ex
  exact pe_call F (hr.mono hk) hg hm kp b .nil pass0 ha hdb he hpl
theorem room65 {k : Nat} {A : Around} (r : Room k A) : A.units + 65 < cLine := by
  have := r.un
  omega
theorem pe_globI {x : Str} {pos : Pos} {i : Int} (hg : Gl X x) (h : ∃ t, X.mg x = some (.int i t)) (hd : (x == ("__debug__" : Str)) = false := by decide) : PE X (.Name x pos) (tC (.int i)) := by
  obtain ⟨t, ht⟩ := h
  exact pe_glob hg ht ⟨t, rfl⟩ (hd := hd)

/-! ### operators of several kinds -/
theorem op_plus : OpR X (binaryOp .Add) (fun x y H Q => rI0 (fun i j => .int (i + j)) x y H Q ∨ rCatA X.K x y H Q ∨ rCat x y H Q) := OpR.or op_add (OpR.or op_catA op_cat)
theorem op_times : OpR X (binaryOp .Mult) (fun x y H Q => rI CMul (fun i j => .int (i * j)) x y H Q ∨ rRep x y H Q) := OpR.or op_mul op_rep
theorem ix_two : IxR X (rIx2 X.K) := IxR.or ix_list ix_tup
abbrev rPlus (K : PySem.W.Frag) : R2 := fun x y H Q => rI0 (fun i j => .int (i + j)) x y H Q ∨ rCatA K x y H Q ∨ rCat x y H Q
abbrev rTimes : R2 := fun x y H Q => rI CMul (fun i j => .int (i * j)) x y H Q ∨ rRep x y H Q
end
section
variable {K : PySem.W.Frag} {σ : L2.St} {M G G1 : Hp} {te ta tb tc : TE} {t u : TT} {d e : PyData} {ds es : List PyData}
theorem gd_plus {i j : Int} (ha : Gd ta σ M G (.int i)) (hb : Gd tb σ M G (.int j)) : Gd (tOp (rPlus K) ta tb) σ M G (.int (i + j)) :=
  gd_op ha hb fun v w G1 H _ hG h1 h2 Q q => .inl ⟨i, j, h1.int_of, h2.int_of, q.go hG (.int _)⟩
theorem gd_times {i j : Int} (ha : Gd ta σ M G (.int i)) (hb : Gd tb σ M G (.int j)) (hc : CMul i j) : Gd (tOp rTimes ta tb) σ M G (.int (i * j)) :=
  gd_op ha hb fun v w G1 H _ hG h1 h2 Q q => .inl ⟨i, j, h1.int_of, h2.int_of, hc, q.go hG (.int _)⟩
theorem cmul_l {i j : Int} (h1 : -100000 ≤ i) (h2 : i ≤ 100000) : CMul i j := .inl ⟨by omega, by omega⟩
theorem cmul_r {i j : Int} (h1 : -100000 ≤ j) (h2 : j ≤ 100000) : CMul i j := .inr ⟨by omega, by omega⟩
/-- tuples joined -/
theorem gd_catT (ha : Gd ta σ M G (.tuple ds)) (hb : Gd tb σ M G (.tuple es)) (hl : ds.length + es.length ≤ 100000) : Gd (tOp (rPlus K) ta tb) σ M G (.tuple (ds ++ es)) :=
  gd_op ha hb fun v w G1 H _ hG h1 h2 Q q => by
    obtain ⟨a, xs, rfl, ga, hx⟩ := h1.tup_of
    obtain ⟨b, ys, rfl, gb, hy⟩ := h2.tup_of
    have lx := hx.length
    have ly := hy.length
    refine .inr (.inl ⟨a, b, xs, ys, rfl, rfl, SqT.of (hG _ _ ga), SqT.of (hG _ _ gb), sz (by omega), fun e => ?_, fun _ e => ?_, fun _ _ => ?_⟩)
    · subst e
      have : ds = [] := List.eq_nil_of_length_eq_zero lx.symm
      subst this
      exact q.go hG (.tup gb hy)
    · subst e
      have : es = [] := List.eq_nil_of_length_eq_zero ly.symm
      subst this
      rw [List.append_nil] at q
      exact q.go hG (.tup ga hx)
    · exact ret_tup hG (hx.append hy) q
/-- lists joined -/
theorem gd_catL (ha : Gd ta σ M G (.list ds)) (hb : Gd tb σ M G (.list es)) (hl : ds.length + es.length ≤ 100000) : Gd (tOp (rPlus K) ta tb) σ M G (.list (ds ++ es)) :=
  gd_op ha hb fun v w G1 H _ hG h1 h2 Q q => by
    obtain ⟨a, xs, rfl, ga, hx⟩ := h1.lst_of
    obtain ⟨b, ys, rfl, gb, hy⟩ := h2.lst_of
    have lx := hx.length
    have ly := hy.length
    exact .inr (.inr ⟨a, b, xs, ys, rfl, rfl, hG _ _ ga, hG _ _ gb, sz (by omega), ret_lst hG (hx.append hy) q⟩)
/-! len, all, tuple, list, isinstance -/
abbrev rLen2 (K : PySem.W.Frag) : List V → Hp → VK → Prop := fun xs H Q => ∃ p ys, xs = [.ref p] ∧ (SqL K H p ys ∨ SqT K H p ys) ∧ Q (.int ys.length) H
theorem gd_lenL (h : Gd te σ M G (.list ds)) : Gd (tCB (rLen2 K) (tCons te tNil)) σ M G (.int ds.length) := gd_cb (ga_cons h ga_nil) fun vs G1 H _ hG hv Q q => by
  cases hv with
  | cons h1 hn =>
    cases hn
    obtain ⟨a, xs, rfl, ga, hx⟩ := h1.lst_of
    exact ⟨a, xs, rfl, .inl (SqL.of (hG _ _ ga)), by rw [hx.length]; exact q.go hG (.int _)⟩
theorem gd_lenT (h : Gd te σ M G (.tuple ds)) : Gd (tCB (rLen2 K) (tCons te tNil)) σ M G (.int ds.length) := gd_cb (ga_cons h ga_nil) fun vs G1 H _ hG hv Q q => by
  cases hv with
  | cons h1 hn =>
    cases hn
    obtain ⟨a, xs, rfl, ga, hx⟩ := h1.tup_of
    exact ⟨a, xs, rfl, .inr (SqT.of (hG _ _ ga)), by rw [hx.length]; exact q.go hG (.int _)⟩
theorem gd_all {bs : List Bool} (h : Gd te σ M G (.list (bs.map PyData.bool))) : Gd (tCB (rAll K) (tCons te tNil)) σ M G (.bool (bs.all id)) := gd_cb (ga_cons h ga_nil) fun vs G1 H _ hG hv Q q => by
  cases hv with
  | cons h1 hn =>
    cases hn
    obtain ⟨a, xs, rfl, ga, hx⟩ := h1.lst_of
    have e := hx.bls_of
    subst e
    exact ⟨a, bs, rfl, SqL.of (hG _ _ ga), q.go hG (.bl _)⟩
abbrev rTup1 (K : PySem.W.Frag) : List V → Hp → VK → Prop := fun xs H Q => ∃ p ys, xs = [.ref p] ∧ ((SqL K H p ys ∧ ∀ l, H l = none → Q (.ref l) (upd H l (.tup ys))) ∨ (SqT K H p ys ∧ Q (.ref p) H))
theorem gd_tupleL (h : Gd te σ M G (.list ds)) : Gd (tCB (rTup1 K) (tCons te tNil)) σ M G (.tuple ds) := gd_cb (ga_cons h ga_nil) fun vs G1 H _ hG hv Q q => by
  cases hv with
  | cons h1 hn =>
    cases hn
    obtain ⟨a, xs, rfl, ga, hx⟩ := h1.lst_of
    exact ⟨a, xs, rfl, .inl ⟨SqL.of (hG _ _ ga), ret_tup hG hx q⟩⟩
abbrev rLst1 (K : PySem.W.Frag) : List V → Hp → VK → Prop := fun xs H Q => ∃ p ys, xs = [.ref p] ∧ (SqL K H p ys ∨ SqT K H p ys) ∧ ∀ l, H l = none → Q (.ref l) (upd H l (.lst ys))
theorem gd_listL (h : Gd te σ M G (.list ds)) : Gd (tCB (rLst1 K) (tCons te tNil)) σ M G (.list ds) := gd_cb (ga_cons h ga_nil) fun vs G1 H _ hG hv Q q => by
  cases hv with
  | cons h1 hn =>
    cases hn
    obtain ⟨a, xs, rfl, ga, hx⟩ := h1.lst_of
    exact ⟨a, xs, rfl, .inl (SqL.of (hG _ _ ga)), ret_lst hG hx q⟩
theorem gd_listT (h : Gd te σ M G (.tuple ds)) : Gd (tCB (rLst1 K) (tCons te tNil)) σ M G (.list ds) := gd_cb (ga_cons h ga_nil) fun vs G1 H _ hG hv Q q => by
  cases hv with
  | cons h1 hn =>
    cases hn
    obtain ⟨a, xs, rfl, ga, hx⟩ := h1.tup_of
    exact ⟨a, xs, rfl, .inr (SqT.of (hG _ _ ga)), ret_lst hG hx q⟩
/-- the kinds that are asked for -/
def kindOf : PyData → String
  | .none => "NoneType"
  | .bool _ => "bool"
  | .int _ => "int"
  | .str _ => "str"
  | .list _ => "list"
  | .tuple _ => "tuple"
  | .dict _ => "dict"
def isK (T k : String) : Bool := T == k || (T == "int" && k == "bool")
def isA (T : String) (d : PyData) : Bool := isK T (kindOf d)
theorem kit_kinds : (["NoneType", "bool", "int", "str", "list", "tuple"].all fun k => ["int", "bool", "tuple", "list"].all fun T => decide (kitB k T = some (isK T k))) = true := by decide +kernel
theorem kit_kind {k T : String} (hk : k ∈ ["NoneType", "bool", "int", "str", "list", "tuple"]) (hT : T ∈ ["int", "bool", "tuple", "list"]) : PySem.W.kitOne K (.type k) (.type T) = some (isK T k) :=
  kit_ty (of_decide_eq_true (List.all_eq_true.mp (List.all_eq_true.mp kit_kinds k hk) T hT))
theorem gd_isi {T : String} (hT : T ∈ ["int", "bool", "tuple", "list"]) (h : Gd te σ M G d) : Gd (tCB (rIsi K) (tCons te (tCons (tC (.ty T)) tNil))) σ M G (.bool (isA T d)) := fun H hM hG Q q =>
  h H hM hG _ fun v G1 H1 s1 h1 => by
    have fin : Q (.bl (isA T d)) H1 := q _ G1 H1 s1 (.bl _)
    cases h1 with
    | non => exact ⟨_, _, _, _, _, rfl, .ty _, .base .non, kit_kind (by decide) hT, fin⟩
    | bl b => exact ⟨_, _, _, _, _, rfl, .ty _, .base (.bl b), kit_kind (k := "bool") (by decide) hT, fin⟩
    | int i => exact ⟨_, _, _, _, _, rfl, .ty _, .base (.int i), kit_kind (k := "int") (by decide) hT, fin⟩
    | str x => exact ⟨_, _, _, _, _, rfl, .ty _, .base (.str x), kit_kind (k := "str") (by decide) hT, fin⟩
    | lst hl _ => exact ⟨_, _, _, _, _, rfl, .ty _, .base (.lst (s1.gh _ _ hl)), kit_kind (k := "list") (by decide) hT, fin⟩
    | tup hl _ => exact ⟨_, _, _, _, _, rfl, .ty _, .base (.tup (s1.gh _ _ hl)), kit_kind (k := "tuple") (by decide) hT, fin⟩
/-! ### statements -/
variable {D : Ends} {tu tw tz : TS} {H : Hp}
theorem s_ret (hM : Ex M H) (hG : Ex G H) (h : Gd te σ M G d) (k : Ret G H d D.rt) : tRet te D σ H := h H hM hG _ k
theorem s_asg {i : Nat} (hM : Ex M H) (hG : Ex G H) (h : Gd te σ M G d) (k : ∀ v G' H', Stp G H G' H' → Dx G' v d → tz D (σ.set i (some v)) H') : tSeq (tAsg te (gName i)) tz D σ H := h H hM hG _ k
theorem s_if {b : Bool} (hM : Ex M H) (hG : Ex G H) (h : Gt t σ M G b) (h1 : b = true → ∀ G' H', Stp G H G' H' → tu { D with nx := tz D } σ H') (h2 : b = false → ∀ G' H', Stp G H G' H' → tw { D with nx := tz D } σ H') : tSeq (tIfS t tu tw) tz D σ H := h H hM hG _ fun G1 H1 s1 => by
  cases b with
  | true => exact iteT (h1 rfl G1 H1 s1)
  | false => exact iteF (h2 rfl G1 H1 s1)
/-- if without else that is not taken -/
theorem s_unless (hM : Ex M H) (hG : Ex G H) (h : Gt t σ M G false) (k : ∀ G' H', Stp G H G' H' → tz D σ H') : tSeq (tIfS t tu tNext) tz D σ H := s_if hM hG h (fun q => nomatch q) fun _ G1 H1 s1 => k G1 H1 s1
end
section
variable {G : Hp}
theorem DxA.one {vs : List V} {a : PyData} (h : DxA G vs [a]) : ∃ v, vs = [v] ∧ Dx G v a := by
  cases h with
  | cons h1 hn =>
    cases hn
    exact ⟨_, rfl, h1⟩
theorem DxA.two {vs : List V} {a b : PyData} (h : DxA G vs [a, b]) : ∃ v w, vs = [v, w] ∧ Dx G v a ∧ Dx G w b := by
  cases h with
  | cons h1 hn =>
    obtain ⟨w, rfl, h2⟩ := hn.one
    exact ⟨_, w, rfl, h1, h2⟩
theorem DxA.three {vs : List V} {a b c : PyData} (h : DxA G vs [a, b, c]) : ∃ u v w, vs = [u, v, w] ∧ Dx G u a ∧ Dx G v b ∧ Dx G w c := by
  cases h with
  | cons h1 hn =>
    obtain ⟨v, w, rfl, h2, h3⟩ := hn.two
    exact ⟨_, v, w, rfl, h1, h2, h3⟩
theorem DxA.four {vs : List V} {a b c d : PyData} (h : DxA G vs [a, b, c, d]) : ∃ t u v w, vs = [t, u, v, w] ∧ Dx G t a ∧ Dx G u b ∧ Dx G v c ∧ Dx G w d := by
  cases h with
  | cons h1 hn =>
    obtain ⟨u, v, w, rfl, h2, h3, h4⟩ := hn.three
    exact ⟨_, u, v, w, rfl, h1, h2, h3, h4⟩
end
/-! ### the rules with the written part by its own name (a comprehension's block has another context, the same written part) -/
section
variable {X : Cx} {K : PySem.W.Frag}
theorem ix_twoK (h : X.K = K) : IxR X (rIx2 K) := by
  subst h
  exact ix_two
theorem op_plusK (h : X.K = K) : OpR X (binaryOp .Add) (rPlus K) := by
  subst h
  exact op_plus
theorem op_eqDK (h : X.K = K) (hu : X.A.units + 64 < cLine) : OpR X (compareOp .Eq) (rEqD K) := by
  subst h
  exact op_eqD hu
theorem op_neDK (h : X.K = K) (hu : X.A.units + 64 < cLine) : OpR X (compareOp .NotEq) (rNeD K) := by
  subst h
  exact op_neD hu
theorem op_inDK (h : X.K = K) (hu : X.A.units + 65 < cLine) : OpR X (compareOp .In) (rInD K) := by
  subst h
  exact op_inD hu
theorem op_inK (h : X.K = K) : OpR X (compareOp .In) (rIn K false) := by
  subst h
  exact op_in_seq
theorem op_notInK (h : X.K = K) : OpR X (compareOp .NotIn) (rIn K true) := by
  subst h
  exact op_notIn_seq
theorem call_lenK (h : X.K = K) : CallR X (.builtin "len") (rLen2 K) := by
  subst h
  exact call_len_seq
theorem call_allK (h : X.K = K) (hc : X.calm = true) : CallR X (.builtin "all") (rAll K) := by
  subst h
  exact cr_all hc
theorem call_tupK (h : X.K = K) : CallR X (.type "tuple") (rTup1 K) := by
  subst h
  exact call_tuple_of
theorem call_lstK (h : X.K = K) : CallR X (.type "list") (rLst1 K) := by
  subst h
  exact call_list_of
theorem call_isiK2 (h : X.K = K) : CallR X (.builtin "isinstance") (rIsi K) := by
  subst h
  exact call_isi
theorem call_sortK (h : X.K = K) {d : Nat} {B : Int} (hd : 1 ≤ d) : CallR X (.builtin "sorted") (rSortU K d B) := by
  subst h
  exact cr_sortT hd
theorem mt_indexK (h : X.K = K) (hu : X.A.units + 65 < cLine) : MtR X "list.index" (rIndexD K) := by
  subst h
  exact mt_indexD hu
theorem sl_tupK (h : X.K = K) : SlR X (rSlA K) := by
  subst h
  exact sl_tupA
theorem sl_lstK (h : X.K = K) : SlR X (rSlL K) := by
  subst h
  exact sl_list
theorem pi_lstK {tg l : Expr} {tl : TE} (h : X.K = K) (hl : PE X l tl) : PI X tg l (iList K tl) := by
  subst h
  exact pi_list hl
theorem pi_tupK {tg l : Expr} {tl : TE} (h : X.K = K) (hl : PE X l tl) : PI X tg l (iTup K tl) := by
  subst h
  exact pi_tup hl
theorem pg_tupK {es : List Expr} {k : Nat} {t : TGs} {n : Nat} {pos : Pos} (h0 : X.K = K) (hc : X.calm = true) (h : PGs X es t) (hn : (assignEach es X.env).length = n := by rfl) (hst : (assignEach es X.env).findIdx? (·.1) = none := by rfl) :
    PG X (.Tuple es k pos) (gTup K n t) := by
  subst h0
  exact pg_tup hc h hn hst
theorem pi_enumK {e : Expr} {ta : TA} {p pos tpos : Pos} {elts : List Expr} {kk : Nat} (h : X.K = K) (hg : Gl X "enumerate") (hm : X.mg "enumerate" = none) (ha : PA X [e] ta) (hs : starEach [e] X.env = [(false, eval e X.env)] := by rfl) :
    PI X (.Tuple elts kk tpos) (.Call (.Name "enumerate" p) [e] [] pos) (iEnum K ta) := by
  subst h
  exact pi_enum hg hm ha hs
theorem pe_revK {e : Expr} {te : TE} {k : Nat} {p1 p2 p3 pos : Pos} (h : X.K = K) (he : PE X e te) : PE X (.Subscript e (.Slice none none (some (.UnaryOp .USub (.Constant (.int 1) k p1) p2)) p3) pos) (tRevL K te) := by
  subst h
  exact pe_revL he
end
end Sg

namespace Sg
open PySem PySem.Spec PyProof.Rows L2
/-! ### the text by places -/
def topAt (i : Nat) : Stmt := PySem.Challenge.pw_signrounds_k67_whole_gates_and_gate_rows.main.body.getD i (.Pass ⟨0, 0, 0, 0⟩)
abbrev sIsInteger : Stmt := topAt 7
abbrev sIsBetween : Stmt := topAt 8
abbrev sIsTupleOf : Stmt := topAt 9
abbrev sIsSign : Stmt := topAt 10
abbrev sIsWeb : Stmt := topAt 12
abbrev sCheckWeb : Stmt := topAt 13
abbrev sTiesOf : Stmt := topAt 14
abbrev sIsTie : Stmt := topAt 15
abbrev sArrowsBy : Stmt := topAt 17
abbrev sDownward : Stmt := topAt 18
abbrev sStandsBy : Stmt := topAt 19
abbrev sStopBy : Stmt := topAt 22
abbrev sIsChoiceOf : Stmt := topAt 24
abbrev sCheckChoice : Stmt := topAt 25
abbrev sCheckStanding : Stmt := topAt 26
abbrev sOtherWay : Stmt := topAt 27
abbrev sGates : Stmt := topAt 28
abbrev sNextGate : Stmt := topAt 29
abbrev sGateRow : Stmt := topAt 30
abbrev sIsGateRow : Stmt := topAt 31
abbrev sLawSource : Stmt := topAt 33
abbrev sLawDraw : Stmt := topAt 34
abbrev sLawRow : Stmt := topAt 35
abbrev sLawTable : Stmt := topAt 36
abbrev sLawDrawnSign : Stmt := topAt 37
abbrev sLawSomeWeb : Stmt := topAt 38
abbrev sLawWeb : Stmt := topAt 39
abbrev sLawTies : Stmt := topAt 40
abbrev sLawThinWeb : Stmt := topAt 41
abbrev sLawNumber : Stmt := topAt 42
abbrev sLawNumbers : Stmt := topAt 43
abbrev sLawPieces : Stmt := topAt 44
abbrev sLawDownward : Stmt := topAt 45
abbrev sLawKept : Stmt := topAt 47
abbrev sLawSizedRow : Stmt := topAt 49
abbrev sLawDrawnChoice : Stmt := topAt 50
abbrev sLawOther : Stmt := topAt 51
abbrev sLawIsTie : Stmt := topAt 52
abbrev sLawLeads : Stmt := topAt 53
abbrev sLawGates : Stmt := topAt 54
abbrev sLawWalk : Stmt := topAt 55
abbrev sLawBent : Stmt := topAt 56
abbrev sLawJudgedRight : Stmt := topAt 57
abbrev sLawWebRight : Stmt := topAt 58
abbrev sLaw : Stmt := topAt 59
end Sg

/-! defs on values: is_integer .. is_sign -/
namespace Sg
open PySem PySem.Spec PyProof.Rows L2
open Evl (Ex)
def isInt (d : PyData) : Bool := isA "int" d && !isA "bool" d
def betw (lo : Int) (d : PyData) (hi : Int) : Bool := match d with
  | .int v => decide (lo ≤ v) && decide (v ≤ hi)
  | _ => false
def isTup (n : Nat) (d : PyData) : Bool := match d with
  | .tuple xs => decide (xs.length = n)
  | _ => false
theorem betw_isInt {lo hi : Int} {d : PyData} : isInt d = false → betw lo d hi = false := by
  intro h
  cases d <;> first | rfl | exact Bool.noConfusion (show true = false from h)
theorem isInt_int {d : PyData} (h : isInt d = true) : ∃ v, d = .int v := by
  cases d <;> first | exact ⟨_, rfl⟩ | exact Bool.noConfusion (show false = true from h)
def PIsInteger (ds : List PyData) (d : PyData) : Prop := ∃ x, ds = [x] ∧ d = .bool (isInt x)
def PIsBetween (ds : List PyData) (d : PyData) : Prop := ∃ lo x hi, ds = [.int lo, x, .int hi] ∧ d = .bool (betw lo x hi)
def PIsTupleOf (ds : List PyData) (d : PyData) : Prop := ∃ (n : Nat) (x : PyData), ds = [.int n, x] ∧ d = .bool (isTup n x)
def isSg (d : PyData) : Bool := betw (-1) d 1 && !PyData.eqv d (.int 0)
def PIsSign (ds : List PyData) (d : PyData) : Prop := ∃ x, ds = [x] ∧ d = .bool (isSg x)
section
variable {P : Program} {w : World} {K : PySem.W.Frag} {mg : Str → Option Value} {base : Heap} {f : Addr} {fd : FuncData}
theorem scIsInteger : FnScope ["value"] ["value"] (defScope sIsInteger) := ⟨rfl, rfl, rfl, by decide +kernel, rfl, by decide +kernel, by decide +kernel⟩
theorem ok_is_integer (D : Df K mg "is_integer" sIsInteger ["value"] f fd) (B : Bi mg) : FnOk P w K mg base CX0 1 f fd ["value"] (Spd PIsInteger) := by
  refine D.F.ok scIsInteger (Spd.len (n := 1) fun ds d ⟨x, e, _⟩ => by rw [e]; rfl) (fun cdv A outer s H vs Q E hr h => ?_)
  obtain ⟨G, ds, d, hG, hv, ⟨x, rfl, rfl⟩, q⟩ := h
  obtain ⟨v, rfl, hx⟩ := hv.one
  refine ⟨_, PSs.nox (pss_one (ps_ret (pe_and (pe_callB (call_isiK2 (K := K) rfl) (by rfl) B.isinstance bb_isinstance (pa_cons (pv 0) (pa_cons (pe_bltn (v := .ty "int") (by rfl) B.int bb_int rfl) pa_nil))) (pe_one (pe_not (pe_callB (call_isiK2 (K := K) rfl) (by rfl) B.isinstance bb_isinstance (pa_cons (pv 0) (pa_cons (pe_bltn (v := .ty "bool") (by rfl) B.bool bb_bool rfl) pa_nil)))))))), ?_⟩
  exact s_ret exZ hG (gd_and (gd_isi (by decide) (gd_var rfl hx)) fun _ => gd_not (gd_isi (by decide) (gd_var rfl hx))) q
theorem scIsBetween : FnScope ["low", "value", "high"] ["low", "value", "high"] (defScope sIsBetween) := ⟨rfl, rfl, rfl, by decide +kernel, rfl, by decide +kernel, by decide +kernel⟩
theorem ok_is_between (D : Df K mg "is_between" sIsBetween ["low", "value", "high"] f fd) (c_is_integer : Has P w K mg base 1 "is_integer" (Spd PIsInteger)) : FnOk P w K mg base CX0 2 f fd ["low", "value", "high"] (Spd PIsBetween) := by
  refine D.F.ok scIsBetween (Spd.len (n := 3) fun ds d ⟨_, _, _, e, _⟩ => by rw [e]; rfl) (fun cdv A outer s H vs Q E hr h => ?_)
  obtain ⟨G, ds, d, hG, hv, ⟨lo, x, hi, rfl, rfl⟩, q⟩ := h
  obtain ⟨v1, v, v2, rfl, h1, hx, h2⟩ := hv.three
  refine ⟨_, PSs.nox (pss_one (ps_ret (pe_and (pe_has c_is_integer hr (by decide) (by rfl) (pa_cons (pv 1) pa_nil)) (pe_one (pe_chain op_le op_le (pv 0) (pv 1) (pv 2)))))), ?_⟩
  cases hi' : isInt x with
  | false =>
    rw [betw_isInt hi'] at q
    exact s_ret exZ hG ((gd_and (a := isInt x) (gd_call (ga_cons (gd_var rfl hx) ga_nil) ⟨x, rfl, rfl⟩) (fun z => by rw [hi'] at z; cases z) (b := false)).is (by rw [hi']; rfl)) q
  | true =>
    obtain ⟨i, rfl⟩ := isInt_int hi'
    exact s_ret exZ hG ((gd_and (a := isInt (.int i)) (gd_call (ga_cons (gd_var rfl hx) ga_nil) ⟨_, rfl, rfl⟩) (fun _ => gd_chain (gd_var rfl h1) (gd_var rfl hx) (gd_var rfl h2))).is (by rw [hi']; rfl)) q
theorem scIsTupleOf : FnScope ["many", "value"] ["many", "value"] (defScope sIsTupleOf) := ⟨rfl, rfl, rfl, by decide +kernel, rfl, by decide +kernel, by decide +kernel⟩
theorem ok_is_tuple_of (D : Df K mg "is_tuple_of" sIsTupleOf ["many", "value"] f fd) (B : Bi mg) : FnOk P w K mg base CX0 1 f fd ["many", "value"] (Spd PIsTupleOf) := by
  refine D.F.ok scIsTupleOf (Spd.len (n := 2) fun ds d ⟨_, _, e, _⟩ => by rw [e]; rfl) (fun cdv A outer s H vs Q E hr h => ?_)
  obtain ⟨G, ds, d, hG, hv, ⟨n, x, rfl, rfl⟩, q⟩ := h
  obtain ⟨v1, v, rfl, h1, hx⟩ := hv.two
  refine ⟨_, PSs.nox (pss_one (ps_ret (pe_and (pe_callB (call_isiK2 (K := K) rfl) (by rfl) B.isinstance bb_isinstance (pa_cons (pv 1) (pa_cons (pe_bltn (v := .ty "tuple") (by rfl) B.tuple bb_tuple rfl) pa_nil))) (pe_one (pe_cmpR (op_eqDK (K := K) rfl hr.units) (pe_callB (call_lenK (K := K) rfl) (by rfl) B.len bb_len (pa_cons (pv 1) pa_nil)) (pv 0) (nomark _)))))), ?_⟩
  have t1 : Gd (tCB (rIsi K) (tCons (tVar 1) (tCons (tC (.ty "tuple")) tNil))) (start ["many", "value"] [v1, v]) Z G (.bool (isA "tuple" x)) := gd_isi (by decide) (gd_var rfl hx)
  cases x with
  | tuple xs => exact s_ret exZ hG ((gd_and t1 fun _ => gd_eq (gd_lenT (gd_var rfl hx)) (gd_var rfl h1) rfl rfl).is (by
      show PyData.bool (true && ((xs.length : Int) == (n : Int))) = .bool (decide (xs.length = n))
      rw [Bool.true_and]
      congr 1
      by_cases e : xs.length = n
      · rw [decide_eq_true e, e, beq_self_eq_true]
      · rw [decide_eq_false e]
        exact beq_eq_false_iff_ne.mpr fun z => e (by omega))) q
  | _ => exact s_ret exZ hG (gd_and (b := false) t1 (fun z => Bool.noConfusion (show false = true from z))) q
theorem scIsSign : FnScope ["value"] ["value"] (defScope sIsSign) := ⟨rfl, rfl, rfl, by decide +kernel, rfl, by decide +kernel, by decide +kernel⟩
theorem ok_is_sign (D : Df K mg "is_sign" sIsSign ["value"] f fd) (c_is_between : Has P w K mg base 2 "is_between" (Spd PIsBetween)) : FnOk P w K mg base CX0 3 f fd ["value"] (Spd PIsSign) := by
  refine D.F.ok scIsSign (Spd.len (n := 1) fun ds d ⟨_, e, _⟩ => by rw [e]; rfl) (fun cdv A outer s H vs Q E hr h => ?_)
  obtain ⟨G, ds, d, hG, hv, ⟨x, rfl, rfl⟩, q⟩ := h
  obtain ⟨v, rfl, hx⟩ := hv.one
  refine ⟨_, PSs.nox (pss_one (ps_ret (pe_and (pe_has c_is_between hr (by decide) (by rfl) (pa_cons (pe_un un_neg pe_int) (pa_cons (pv 0) (pa_cons pe_int pa_nil)))) (pe_one (pe_cmpR (op_neDK (K := K) rfl hr.units) (pv 0) pe_int (nomark _)))))), ?_⟩
  refine s_ret exZ hG ((gd_and (gd_call (ga_cons (gd_neg gd_int) (ga_cons (gd_var rfl hx) (ga_cons gd_int ga_nil))) ⟨_, _, _, rfl, rfl⟩) (b := !PyData.eqv x (.int 0)) fun z => ?_).is rfl) q
  cases x with
  | int i => exact gd_ne (gd_var rfl hx) gd_int rfl rfl
  | _ => exact Bool.noConfusion (show false = true from z)
end
end Sg

/-! what a for walks, comprehensions, loops, over the known part -/
namespace Sg
open PySem PySem.Spec PyProof.Rows L2
open Evl (Ex)

/-- J gives n items, the data it 0, it 1, .., whatever comes to be known besides G1 (M is read) -/
def SrcJ (J : It) (G1 : Hp) (n : Nat) (it : Nat → PyData) : Prop := ∀ i G2 H2, Ex G1 G2 → Ex G2 H2 →
  (i = n → J.stop i H2) ∧ (i < n → J.go i H2 ∧ ∀ v H3, J.yld i H2 v H3 → ∃ G3, Stp G2 H2 G3 H3 ∧ Dx G3 v (it i))
def Src (wi : TI) (σ : L2.St) (M G : Hp) (n : Nat) (it : Nat → PyData) : Prop := ∀ H, Ex M H → Ex G H → ∀ R : It → Hp → Prop, (∀ J G1 H1, Stp G H G1 H1 → SrcJ J G1 n it → R J H1) → wi σ H R
section
variable {K : PySem.W.Frag} {σ : L2.St} {M G : Hp} {te : TE} {d e : PyData} {ds es : List PyData}
theorem src_eq {wi : TI} {n m : Nat} {it it2 : Nat → PyData} (h : Src wi σ M G n it) (e : n = m) (q : ∀ i, i < n → it i = it2 i) : Src wi σ M G m it2 := fun H hM hG R k => h H hM hG R fun J G1 H1 s hj => k J G1 H1 s fun i G2 H2 g2 h2 => by
  subst e
  obtain ⟨a, b⟩ := hj i G2 H2 g2 h2
  exact ⟨a, fun hi => ⟨(b hi).1, fun v H3 y => by rw [← q i hi]; exact (b hi).2 v H3 y⟩⟩
theorem Src.mono {wi : TI} {n : Nat} {it : Nat → PyData} {G1 : Hp} (h : Src wi σ M G n it) (x : Ex G G1) : Src wi σ M G1 n it := fun H hM hG R k => h H hM (x.trans hG) R fun J G2 H2 s hj => by
  obtain ⟨s2, e2⟩ := s.widen x hG
  exact k J _ H2 s2 fun i G3 H3 g hh => hj i G3 H3 (e2.trans g) hh
theorem srcJ_list {a : Addr} {xs : List V} {G1 : Hp} (ha : G1 a = some (.lst xs)) (hx : DxA G1 xs ds) : SrcJ (Itl K a) G1 ds.length (fun i => ds.getD i .none) := fun i G2 H2 g hh => by
  have hs : H2 a = some (.lst xs) := hh _ _ (g _ _ ha)
  refine ⟨fun hi => ⟨xs, SqL.of hs, by rw [hx.length]; exact Nat.le_of_eq hi.symm⟩, fun hi => ?_⟩
  have hd : ds[i]? = some (ds.getD i .none) := by
    rw [List.getD_eq_getElem?_getD, List.getElem?_eq_getElem hi]
    rfl
  obtain ⟨v, hv, dv⟩ := hx.get hd
  refine ⟨⟨xs, v, SqL.of hs, hv⟩, fun v' H3 y => ?_⟩
  obtain ⟨rfl, f⟩ := y
  have e : v' = v := Option.some.inj ((f _ (SqL.of hs)).symm.trans hv)
  subst e
  exact ⟨G2, Stp.refl hh, dv.up g⟩
theorem srcJ_tup {a : Addr} {xs : List V} {G1 : Hp} (ha : G1 a = some (.tup xs)) (hx : DxA G1 xs ds) : SrcJ (Itt K a) G1 ds.length (fun i => ds.getD i .none) := fun i G2 H2 g hh => by
  have hs : H2 a = some (.tup xs) := hh _ _ (g _ _ ha)
  refine ⟨fun hi => ⟨xs, SqT.of hs, by rw [hx.length]; exact Nat.le_of_eq hi.symm⟩, fun hi => ?_⟩
  have hd : ds[i]? = some (ds.getD i .none) := by
    rw [List.getD_eq_getElem?_getD, List.getElem?_eq_getElem hi]
    rfl
  obtain ⟨v, hv, dv⟩ := hx.get hd
  refine ⟨⟨xs, v, SqT.of hs, hv⟩, fun v' H3 y => ?_⟩
  obtain ⟨rfl, f⟩ := y
  have e : v' = v := Option.some.inj ((f _ (SqT.of hs)).symm.trans hv)
  subst e
  exact ⟨G2, Stp.refl hh, dv.up g⟩
theorem src_list (h : Gd te σ M G (.list ds)) : Src (iList K te) σ M G ds.length (fun i => ds.getD i .none) := fun H hM hG R k => h H hM hG _ fun v G1 H1 s1 d1 => by
  obtain ⟨a, xs, rfl, ga, hx⟩ := d1.lst_of
  exact ⟨a, rfl, ⟨xs, SqL.of (s1.gh _ _ ga)⟩, k _ G1 H1 s1 (srcJ_list ga hx)⟩
theorem src_tup (h : Gd te σ M G (.tuple ds)) : Src (iTup K te) σ M G ds.length (fun i => ds.getD i .none) := fun H hM hG R k => h H hM hG _ fun v G1 H1 s1 d1 => by
  obtain ⟨a, xs, rfl, ga, hx⟩ := d1.tup_of
  exact ⟨a, rfl, ⟨xs, SqT.of (s1.gh _ _ ga)⟩, k _ G1 H1 s1 (srcJ_tup ga hx)⟩
theorem srcJ_range {lo : Int} {n : Nat} {G1 : Hp} : SrcJ (Itr lo n) G1 n (fun i => .int (lo + i)) := fun i G2 H2 g hh =>
  ⟨fun hi => Nat.le_of_eq hi.symm, fun hi => ⟨hi, fun v H3 y => by
    obtain ⟨rfl, rfl⟩ := y
    exact ⟨G2, Stp.refl hh, .int _⟩⟩⟩
theorem src_range1 {n : Nat} (h : Gd te σ M G (.int n)) (hn : n ≤ 100000) : Src (iRng1 (tCons te tNil)) σ M G n (fun i => .int i) := fun H hM hG R k => h H hM hG _ fun v G1 H1 s1 d1 => by
  cases d1
  refine ⟨n, rfl, by omega, by omega, ?_⟩
  refine k _ G1 H1 s1 ?_
  rw [Int.toNat_natCast]
  have e : (fun i : Nat => PyData.int (i : Int)) = fun i : Nat => .int ((0 : Int) + i) := funext fun i => by rw [Int.zero_add]
  rw [e]
  exact srcJ_range
theorem src_range2 {a b : Int} {tb : TE} (h : Gd te σ M G (.int a)) (hb : Gd tb σ M G (.int b)) (hn : -100000 ≤ a ∧ a ≤ 100000 ∧ -100000 ≤ b ∧ b ≤ 100000) : Src (iRng2 (tCons te (tCons tb tNil))) σ M G (b - a).toNat (fun i => .int (a + i)) := fun H hM hG R k =>
  ga_cons h (ga_cons hb ga_nil) H hM hG _ fun vs G1 H1 s1 d1 => by
  obtain ⟨v, w, rfl, h1, h2⟩ := d1.two
  cases h1
  cases h2
  exact ⟨a, b, rfl, by omega, k _ G1 H1 s1 srcJ_range⟩
theorem src_enum (h : Gd te σ M G (.list ds)) : Src (iEnum K (tCons te tNil)) σ M G ds.length (fun i => .tuple [.int i, ds.getD i .none]) := fun H hM hG R k => h H hM hG _ fun v G1 H1 s1 d1 => by
  obtain ⟨a, xs, rfl, ga, hx⟩ := d1.lst_of
  refine ⟨a, xs, rfl, SqL.of (s1.gh _ _ ga), k _ G1 H1 s1 fun i G2 H2 g hh => ?_⟩
  have hs : H2 a = some (.lst xs) := hh _ _ (g _ _ ga)
  refine ⟨fun hi => ⟨xs, SqL.of hs, by rw [hx.length]; exact Nat.le_of_eq hi.symm⟩, fun hi => ?_⟩
  have hd : ds[i]? = some (ds.getD i .none) := by
    rw [List.getD_eq_getElem?_getD, List.getElem?_eq_getElem hi]
    rfl
  obtain ⟨v, hv, dv⟩ := hx.get hd
  refine ⟨⟨xs, v, SqL.of hs, hv⟩, fun v' H3 y => ?_⟩
  obtain ⟨T, x, rfl, hT, rfl, f⟩ := y
  have e : x = v := Option.some.inj ((f _ (SqL.of hs)).symm.trans hv)
  subst e
  exact ⟨_, (Stp.refl hh).newKnown hT, .tup upd_same (.cons (.int _) (.cons ((dv.up g).up (ex_upd (fresh_of hh hT))) .nil))⟩

/-! ### comprehensions -/
/-- what stands in the list so far -/
def kept1 (n : Nat) (f : Nat → Bool) (o : Nat → PyData) : List PyData := ((List.range n).filter f).map o
theorem kept1_succ (n : Nat) (f : Nat → Bool) (o : Nat → PyData) : kept1 (n + 1) f o = kept1 n f o ++ if f n = true then [o n] else [] := by
  unfold kept1
  rw [List.range_succ, List.filter_append, List.map_append]
  congr 1
  rw [List.filter_cons]
  split <;> rfl
theorem kept1_len (n : Nat) (f : Nat → Bool) (o : Nat → PyData) : (kept1 n f o).length ≤ n := by
  unfold kept1
  rw [List.length_map]
  have h := List.length_filter_le f (List.range n)
  rw [List.length_range] at h
  exact h
/-- the state of a comprehension's list -/
def LcAt (M G1 H1 : Hp) (Dl : Addr) (acc : List PyData) (H : Hp) : Prop := ∃ G' vs, Stp G1 H1 G' H ∧ Ex M H ∧ G' Dl = none ∧ H Dl = some (.lst vs) ∧ DxA G' vs acc
theorem lcAt_start {G1 H1 : Hp} {Dl : Addr} (hM : Ex M H1) (hG : Ex G1 H1) (hD : H1 Dl = none) : LcAt M G1 H1 Dl [] (upd H1 Dl (.lst [])) :=
  ⟨G1, [], (Stp.refl hG).new hD, hM.trans (Ex.new hD), fresh_of hG hD, upd_same, .nil⟩
theorem LcAt.add {G1 H1 G' H G2 H2 : Hp} {Dl : Addr} {acc : List PyData} {vs : List V} {v : V} (h1 : H1 Dl = none) (s : Stp G1 H1 G' H) (m0 : Ex M H1) (n0 : G' Dl = none) (hd : H Dl = some (.lst vs)) (hv : DxA G' vs acc) (s2 : Stp G' H G2 H2) (hx : Dx G2 v d) :
    H2 Dl = some (.lst vs) ∧ LcAt M G1 H1 Dl (acc ++ [d]) (upd H2 Dl (.lst (vs ++ [v]))) := by
  have e2 : H2 Dl = some (.lst vs) := s2.h _ _ hd
  have g2 : G2 Dl = none := (s2.fr Dl (by rw [hd]; exact fun z => nomatch z)).trans n0
  refine ⟨e2, G2, vs ++ [v], (s.trans s2).mut h1 g2, fun a o ha => ?_, g2, upd_same, (hv.up s2.g).append (.cons hx .nil)⟩
  have ne : a ≠ Dl := by
    rintro rfl
    have := m0 _ _ ha
    rw [h1] at this
    cases this
  rw [upd_ne ne]
  exact (s.trans s2).h _ _ (m0 _ _ ha)
theorem LcAt.done {G0 H0 G1 H1 H : Hp} {Dl : Addr} {acc : List PyData} {Q : VK} (s0 : Stp G0 H0 G1 H1) (h1 : H1 Dl = none) (a : LcAt M G1 H1 Dl acc H) (q : Ret G0 H0 (.list acc) Q) : Q (.ref Dl) H := by
  obtain ⟨G', vs, s, _, n0, hd, hv⟩ := a
  exact q _ (upd G' Dl (.lst vs)) H ((s0.trans s).know (fresh_of s0.h h1) n0 hd) (.lst upd_same (hv.up (ex_upd n0)))
theorem lc_mut {wi : TI} {g : TG} {tt : TT} {vs : List Nat} {n : Nat} {it : Nat → PyData} (f : Nat → Bool) (o : Nat → PyData) (hs : Src wi σ M G n it) (hn : n ≤ 40000)
    (ht : ∀ (i : Nat) (G1 : Hp) (v : V), i < n → Ex G G1 → Dx G1 v (it i) → ∃ σ2, (∀ H (Q : L2.St → Hp → Prop), Ex G1 H → Q σ2 H → g v (wipe σ vs) H Q) ∧ wipe σ2 vs = wipe σ vs ∧ Gt tt σ2 M G1 (f i) ∧ (f i = true → Gd te σ2 M G1 (o i))) :
    ∀ H, Ex M H → Ex G H → ∀ Q : VK, (∀ p us G' H', Stp G H G' H' → H p = none → G' p = none → H' p = some (.lst us) → DxA G' us (kept1 n f o) → Q (.ref p) H') → tLc wi g tt te vs σ H Q := fun H hM hG Q q => hs H hM hG _ fun J G1 H1 s1 hJ Dl hD => by
  refine ⟨fun i m H => m = n - i ∧ i ≤ n ∧ LcAt M G1 H1 Dl (kept1 i f o) H, ⟨n, by omega, Nat.zero_le _, lcAt_start (hM.trans s1.h) s1.gh hD⟩, ?_⟩
  rintro i m H ⟨rfl, hi, hl⟩
  obtain ⟨G', vs', s, hM', n0, hd, hv⟩ := id hl
  obtain ⟨hstop, hgo⟩ := hJ i G' H s.g s.gh
  by_cases lt : i < n
  · obtain ⟨hgo1, hy⟩ := hgo lt
    refine .inr ⟨hgo1, fun H => LcAt M G1 H1 Dl (kept1 (i + 1) f o) H, fun H' h' => ⟨n - (i + 1), by omega, rfl, lt, h'⟩, fun x H' y => ?_⟩
    obtain ⟨G3, s3, d3⟩ := hy x H' y
    obtain ⟨σ2, t1, t2, t3, t4⟩ := ht i G3 x lt ((s1.g.trans s.g).trans s3.g) d3
    refine t1 H' _ s3.gh ⟨t2, t3 H' (hM'.trans s3.h) s3.gh _ fun G4 H4 s4 => ?_⟩
    cases hf : f i with
    | true =>
      refine iteT ((t4 hf).mono s4.g H4 ((hM'.trans s3.h).trans s4.h) s4.gh _ fun v G5 H5 s5 d5 => ?_)
      obtain ⟨e5, l5⟩ := LcAt.add (M := M) hD s (hM.trans s1.h) n0 hd hv ((s3.trans s4).trans s5) d5
      refine ⟨vs', e5, szl ?_, ?_⟩
      · rw [hv.length]
        have := kept1_len i f o
        omega
      · rw [kept1_succ, if_pos hf]
        exact l5
    | false =>
      refine iteF ?_
      rw [kept1_succ, if_neg (by rw [hf]; decide), List.append_nil]
      have s34 := s3.trans s4
      exact ⟨G4, vs', s.trans s34, hM'.trans s34.h, (s34.fr Dl (by rw [hd]; exact fun z => nomatch z)).trans n0, s34.h _ _ hd, hv.up s34.g⟩
  · have e : i = n := by omega
    subst e
    exact .inl ⟨hstop rfl, q Dl vs' G' H (s1.trans s) (fresh_of s1.h hD) n0 hd hv⟩
theorem gd_lc {wi : TI} {g : TG} {tt : TT} {vs : List Nat} {n : Nat} {it : Nat → PyData} (f : Nat → Bool) (o : Nat → PyData) (hs : Src wi σ M G n it) (hn : n ≤ 40000)
    (ht : ∀ (i : Nat) (G1 : Hp) (v : V), i < n → Ex G G1 → Dx G1 v (it i) → ∃ σ2, (∀ H (Q : L2.St → Hp → Prop), Ex G1 H → Q σ2 H → g v (wipe σ vs) H Q) ∧ wipe σ2 vs = wipe σ vs ∧ Gt tt σ2 M G1 (f i) ∧ (f i = true → Gd te σ2 M G1 (o i))) :
    Gd (tLc wi g tt te vs) σ M G (.list (kept1 n f o)) := fun H hM hG Q q => lc_mut f o hs hn ht H hM hG Q fun p us G' H' s hp np hd hv => q _ (upd G' p (.lst us)) H' (s.know hp np hd) (.lst upd_same (hv.up (ex_upd np)))
/-- two clauses; the outer one takes all -/
theorem gd_lc2 {wi wi1 : TI} {g g1 : TG} {tt1 : TT} {vs vs1 : List Nat} {n : Nat} {it : Nat → PyData} (m : Nat → Nat) (it1 : Nat → Nat → PyData) (f : Nat → Nat → Bool) (o : Nat → Nat → PyData) (hs : Src wi σ M G n it) (hn : n ≤ 100) (hm : ∀ i, i < n → m i ≤ 100)
    (ht : ∀ (i : Nat) (G1 : Hp) (v : V), i < n → Ex G G1 → Dx G1 v (it i) → ∃ σ2, (∀ H (Q : L2.St → Hp → Prop), Ex G1 H → Q σ2 H → g v (wipe σ vs) H Q) ∧ wipe σ2 vs = wipe σ vs ∧ Src wi1 σ2 M G1 (m i) (it1 i) ∧
      ∀ (j : Nat) (G2 : Hp) (u : V), j < m i → Ex G1 G2 → Dx G2 u (it1 i j) → ∃ σ3, (∀ H (Q : L2.St → Hp → Prop), Ex G2 H → Q σ3 H → g1 u (wipe σ2 vs1) H Q) ∧ wipe σ3 vs1 = wipe σ2 vs1 ∧ Gt tt1 σ3 M G2 (f i j) ∧ (f i j = true → Gd te σ3 M G2 (o i j))) :
    Gd (tLc2 wi g tYes wi1 g1 tt1 te vs vs1) σ M G (.list ((List.range n).flatMap fun i => kept1 (m i) (f i) (o i))) := fun H hM hG Q q => hs H hM hG _ fun J G1 H1 s1 hJ Dl hD => by
  have lens : ∀ i, i ≤ n → ((List.range i).flatMap fun i => kept1 (m i) (f i) (o i)).length ≤ i * 100 := by
    intro i
    induction i with
    | zero => intro _; simp
    | succ i ih =>
      intro hi
      have h1 := ih (by omega)
      have h2 := kept1_len (m i) (f i) (o i)
      have h3 := hm i (by omega)
      rw [List.range_succ, List.flatMap_append, List.length_append]
      simp only [List.flatMap_cons, List.flatMap_nil, List.append_nil]
      omega
  refine ⟨fun i k H => k = n - i ∧ i ≤ n ∧ LcAt M G1 H1 Dl ((List.range i).flatMap fun i => kept1 (m i) (f i) (o i)) H, ⟨n, by omega, Nat.zero_le _, lcAt_start (hM.trans s1.h) s1.gh hD⟩, ?_⟩
  rintro i k H ⟨rfl, hi, hl⟩
  obtain ⟨G', vs', s, hM', n0, hd, hv⟩ := id hl
  obtain ⟨hstop, hgo⟩ := hJ i G' H s.g s.gh
  by_cases lt : i < n
  · obtain ⟨hgo1, hy⟩ := hgo lt
    refine .inr ⟨hgo1, fun H => LcAt M G1 H1 Dl ((List.range (i + 1)).flatMap fun i => kept1 (m i) (f i) (o i)) H, fun H' h' => ⟨n - (i + 1), by omega, rfl, lt, h'⟩, fun x H' y => ?_⟩
    obtain ⟨G3, s3, d3⟩ := hy x H' y
    obtain ⟨σ2, t1, t2, t3, t4⟩ := ht i G3 x lt ((s1.g.trans s.g).trans s3.g) d3
    refine t1 H' _ s3.gh ⟨t2, ?_⟩
    show wi1 σ2 H' _
    refine t3 H' (hM'.trans s3.h) s3.gh _ fun J1 G4 H4 s4 hJ1 => ?_
    have s34 := s3.trans s4
    have base : LcAt M G1 H1 Dl ((List.range i).flatMap fun i => kept1 (m i) (f i) (o i)) H4 := ⟨G4, vs', s.trans s34, hM'.trans s34.h, (s34.fr Dl (by rw [hd]; exact fun z => nomatch z)).trans n0, s34.h _ _ hd, hv.up s34.g⟩
    refine ⟨fun j k H => k = m i - j ∧ j ≤ m i ∧ ∃ G' vs', Ex G4 G' ∧ Stp G1 H1 G' H ∧ Ex M H ∧ G' Dl = none ∧ H Dl = some (.lst vs') ∧ DxA G' vs' (((List.range i).flatMap fun i => kept1 (m i) (f i) (o i)) ++ kept1 j (f i) (o i)),
      ⟨m i, by omega, Nat.zero_le _, G4, vs', Ex.refl _, s.trans s34, hM'.trans s34.h, (s34.fr Dl (by rw [hd]; exact fun z => nomatch z)).trans n0, s34.h _ _ hd, by
        have : kept1 0 (f i) (o i) = [] := rfl
        rw [this, List.append_nil]
        exact hv.up s34.g⟩, ?_⟩
    rintro j k H5 ⟨rfl, hj, G5, vs5, g5, s5, hM5, n5, hd5, hv5⟩
    obtain ⟨hstop1, hgo2⟩ := hJ1 j G5 H5 g5 s5.gh
    by_cases lt1 : j < m i
    · obtain ⟨hgo3, hy1⟩ := hgo2 lt1
      refine .inr ⟨hgo3, fun H => ∃ G' vs', Ex G4 G' ∧ Stp G1 H1 G' H ∧ Ex M H ∧ G' Dl = none ∧ H Dl = some (.lst vs') ∧ DxA G' vs' (((List.range i).flatMap fun i => kept1 (m i) (f i) (o i)) ++ kept1 (j + 1) (f i) (o i)),
        fun H' h' => ⟨m i - (j + 1), by omega, rfl, lt1, h'⟩, fun u H6 y6 => ?_⟩
      obtain ⟨G6, s6, d6⟩ := hy1 u H6 y6
      obtain ⟨σ3, r1, r2, r3, r4⟩ := t4 j G6 u lt1 ((s4.g.trans g5).trans s6.g) d6
      refine r1 H6 _ s6.gh ⟨r2, r3 H6 (hM5.trans s6.h) s6.gh _ fun G7 H7 s7 => ?_⟩
      have s67 := s6.trans s7
      rw [kept1_succ, ← List.append_assoc]
      cases hf : f i j with
      | true =>
        refine iteT ((r4 hf).mono s7.g H7 (hM5.trans s67.h) s7.gh _ fun v G8 H8 s8 d8 => ?_)
        have s68 := s67.trans s8
        obtain ⟨e8, l8⟩ := LcAt.add (M := M) hD s5 (hM.trans s1.h) n5 hd5 hv5 s68 d8
        refine ⟨vs5, e8, szl ?_, ?_⟩
        · have a1 := lens i (by omega)
          have a2 := kept1_len j (f i) (o i)
          have a3 := hm i lt
          rw [hv5.length, List.length_append]
          omega
        · have g8 : G8 Dl = none := (s68.fr Dl (by rw [hd5]; exact fun z => nomatch z)).trans n5
          rw [if_pos rfl]
          refine ⟨G8, vs5 ++ [v], g5.trans s68.g, (s5.trans s68).mut hD g8, ?_, g8, upd_same, (hv5.up s68.g).append (.cons d8 .nil)⟩
          intro a ob ha
          have ne : a ≠ Dl := by
            rintro rfl
            have := (hM.trans s1.h) _ _ ha
            rw [hD] at this
            cases this
          rw [upd_ne ne]
          exact (hM5.trans s68.h) _ _ ha
      | false =>
        refine iteF ?_
        rw [if_neg (by decide), List.append_nil]
        exact ⟨G7, vs5, g5.trans s67.g, s5.trans s67, hM5.trans s67.h, (s67.fr Dl (by rw [hd5]; exact fun z => nomatch z)).trans n5, s67.h _ _ hd5, hv5.up s67.g⟩
    · have e : j = m i := by omega
      refine .inl ⟨hstop1 e, ?_⟩
      rw [List.range_succ, List.flatMap_append]
      simp only [List.flatMap_cons, List.flatMap_nil, List.append_nil]
      rw [e] at hv5
      exact ⟨G5, vs5, s5, hM5, n5, hd5, hv5⟩
  · have e : i = n := by omega
    subst e
    exact .inl ⟨hstop rfl, hl.done s1 hD q⟩

/-! ### for -/
variable {D : Ends} {tb tz : TS} {H : Hp}
abbrev Nx (G' : Hp) (I : L2.St → Hp → Hp → Prop) : L2.St → Hp → Prop := fun σ H => ∃ G'', Ex G' G'' ∧ Ex G'' H ∧ I σ G'' H
theorem s_for {wi : TI} {g : TG} {n : Nat} {it : Nat → PyData} (I : Nat → L2.St → Hp → Hp → Prop) (hM : Ex M H) (hG : Ex G H) (hs : Src wi σ M G n it) (h0 : ∀ G1 H1, Stp G H G1 H1 → I 0 σ G1 H1)
    (ht : ∀ (i : Nat) σ' G' H' v G2 H2, i < n → Ex G G' → Ex G' H' → I i σ' G' H' → Stp G' H' G2 H2 → Dx G2 v (it i) → g v σ' H2 fun σ2 H3 => tb { D with nx := Nx G' (I (i + 1)), ct := Nx G' (I (i + 1)), bk := tz D } σ2 H3)
    (hd : ∀ σ' G' H', Ex G G' → Ex G' H' → I n σ' G' H' → tz D σ' H') : tSeq (tFor wi g tb) tz D σ H := hs H hM hG _ fun J G1 H1 s1 hJ => by
  refine ⟨fun i m σ' H' => m = n - i ∧ i ≤ n ∧ ∃ G', Ex G1 G' ∧ Ex G' H' ∧ I i σ' G' H', ⟨n, by omega, Nat.zero_le _, G1, Ex.refl _, s1.gh, h0 G1 H1 s1⟩, ?_⟩
  rintro i m σ' H' ⟨rfl, hi, G', g1, gh, hI⟩
  obtain ⟨hstop, hgo⟩ := hJ i G' H' g1 gh
  by_cases lt : i < n
  · obtain ⟨hgo1, hy⟩ := hgo lt
    refine .inr ⟨hgo1, Nx G' (I (i + 1)), fun σ2 H2 ⟨G'', e1, e2, e3⟩ => ⟨n - (i + 1), by omega, rfl, lt, G'', g1.trans e1, e2, e3⟩, fun x H2 y => ?_⟩
    obtain ⟨G3, s3, d3⟩ := hy x H2 y
    exact ht i σ' G' H' x G3 H2 lt (s1.g.trans g1) gh hI s3 d3
  · have e : i = n := by omega
    subst e
    exact .inl ⟨hstop rfl, hd σ' G' H' (s1.g.trans g1) gh hI⟩
/-- a loop at the end of a block -/
theorem s_forE {wi : TI} {g : TG} {n : Nat} {it : Nat → PyData} (I : Nat → L2.St → Hp → Hp → Prop) (hM : Ex M H) (hG : Ex G H) (hs : Src wi σ M G n it) (h0 : ∀ G1 H1, Stp G H G1 H1 → I 0 σ G1 H1)
    (ht : ∀ (i : Nat) σ' G' H' v G2 H2, i < n → Ex G G' → Ex G' H' → I i σ' G' H' → Stp G' H' G2 H2 → Dx G2 v (it i) → g v σ' H2 fun σ2 H3 => tb { D with nx := Nx G' (I (i + 1)), ct := Nx G' (I (i + 1)), bk := D.nx } σ2 H3)
    (hd : ∀ σ' G' H', Ex G G' → Ex G' H' → I n σ' G' H' → D.nx σ' H') : tFor wi g tb D σ H := s_for (tz := tNext) (D := D) I hM hG hs h0 ht hd
theorem s_ifE {t : TT} {tu tw : TS} {b : Bool} (hM : Ex M H) (hG : Ex G H) (h : Gt t σ M G b) (h1 : b = true → ∀ G' H', Stp G H G' H' → tu D σ H') (h2 : b = false → ∀ G' H', Stp G H G' H' → tw D σ H') : tIfS t tu tw D σ H := s_if (tz := tNext) (D := D) hM hG h h1 h2
theorem s_unlessE {t : TT} {tu : TS} (hM : Ex M H) (hG : Ex G H) (h : Gt t σ M G false) (k : ∀ G' H', Stp G H G' H' → D.nx σ H') : tIfS t tu tNext D σ H := s_unless (tz := tNext) (D := D) hM hG h k
theorem gt_yes : Gt tYes σ M G true := fun H hM hG Q q => q G H (Stp.refl hG)
theorem gt_orF {t u : TT} (h1 : Gt t σ M G false) (h2 : Gt u σ M G false) : Gt (tOr t u) σ M G false := gt_or h1 fun _ => h2
theorem gt_orR {t u : TT} {b : Bool} (h1 : Gt t σ M G false) (h2 : Gt u σ M G b) : Gt (tOr t u) σ M G b := (gt_or h1 fun _ => h2).is (Bool.false_or b)
theorem gt_orL {t u : TT} (h1 : Gt t σ M G true) : Gt (tOr t u) σ M G true := (gt_or (b := true) h1 fun q => nomatch q).is rfl
theorem gt_notT {t : TT} (h : Gt t σ M G true) : Gt (tNot t) σ M G false := gt_not h
theorem gt_notF {t : TT} (h : Gt t σ M G false) : Gt (tNot t) σ M G true := gt_not h
theorem gt_andT {t u : TT} {b : Bool} (h1 : Gt t σ M G true) (h2 : Gt u σ M G b) : Gt (tAnd t u) σ M G b := (gt_and h1 fun _ => h2).is (Bool.true_and b)
theorem gt_andF {t u : TT} (h1 : Gt t σ M G false) : Gt (tAnd t u) σ M G false := (gt_and (b := false) h1 fun q => nomatch q).is rfl
theorem gd_andT {ta tb : TE} {b : Bool} (h1 : Gd ta σ M G (.bool true)) (h2 : Gd tb σ M G (.bool b)) : Gd (tAndV ta tb) σ M G (.bool b) := (gd_and h1 fun _ => h2).is (by rw [Bool.true_and])
theorem gd_andF {ta tb : TE} (h1 : Gd ta σ M G (.bool false)) : Gd (tAndV ta tb) σ M G (.bool false) := (gd_and (b := false) h1 fun q => nomatch q).is rfl
/-- targets -/
theorem tg_name {i : Nat} {v : V} {σ1 : L2.St} {G1 : Hp} : ∀ H (Q : L2.St → Hp → Prop), Ex G1 H → Q (σ1.set i (some v)) H → gName i v σ1 H Q := fun _ _ _ q => q
theorem tg_two {G1 : Hp} {i j : Nat} {v : V} {σ1 : L2.St} {a b : PyData} (h : Dx G1 v (.tuple [a, b])) : ∃ x y, Dx G1 x a ∧ Dx G1 y b ∧ ∀ H (Q : L2.St → Hp → Prop), Ex G1 H → Q ((σ1.set i (some x)).set j (some y)) H → gTup K 2 (gCons (gName i) (gCons (gName j) gNil)) v σ1 H Q := by
  obtain ⟨p, xs, rfl, gp, hx⟩ := h.tup_of
  obtain ⟨x, y, rfl, h1, h2⟩ := hx.two
  exact ⟨x, y, h1, h2, fun H Q hG q => ⟨p, _, rfl, SqT.of (hG _ _ gp), rfl, x, [y], rfl, y, [], rfl, rfl, q⟩⟩
end
end Sg

/-! ties -/
namespace Sg
open PySem PySem.Spec PyProof.Rows L2
open Evl (Ex)
/-! ### webs, ties, choices as data -/
def rowD (r : List Int) : PyData := .tuple (r.map PyData.int)
def webD (W : Web) : PyData := .tuple (W.map rowD)
def tieD (t : Nat × Nat) : PyData := .tuple [.int t.1, .int t.2]
def tieL (l : List (Nat × Nat)) : PyData := .list (l.map tieD)
def chD (C : List Int) : PyData := .tuple (C.map PyData.int)
theorem atI_map {α β : Type} {l : List α} {g : α → β} {i : Nat} {a : α} (h : l[i]? = some a) : atI (l.map g) (i : Int) = some (g a) := atI_nat (by rw [List.getElem?_map, h]; rfl)
theorem web_row {W : Web} {x : Nat} (hx : x < W.length) : atI (W.map rowD) (x : Int) = some (rowD (W.getD x [])) := atI_map (by
  rw [List.getD_eq_getElem?_getD, List.getElem?_eq_getElem hx]
  rfl)
theorem row_len {W : Web} (ok : WebOk W) {x : Nat} (hx : x < W.length) : (W.getD x []).length = W.length := by
  rw [List.getD_eq_getElem?_getD, List.getElem?_eq_getElem hx]
  exact ok.rows _ (List.getElem_mem hx)
theorem web_sg {W : Web} (ok : WebOk W) {x y : Nat} (hx : x < W.length) (hy : y < W.length) : atI ((W.getD x []).map PyData.int) (y : Int) = some (.int (sg W x y)) := atI_map (by
  unfold sg
  rw [List.getD_eq_getElem?_getD (l := W.getD x []), List.getElem?_eq_getElem (by rw [row_len ok hx]; exact hy)]
  rfl)
section
variable {K : PySem.W.Frag} {σ : L2.St} {M G : Hp} {tw tx ty : TE}
/-- web[x][y] -/
theorem gd_web {W : Web} (ok : WebOk W) {x y : Nat} (hx : x < W.length) (hy : y < W.length) (hw : Gd tw σ M G (webD W)) (h1 : Gd tx σ M G (.int x)) (h2 : Gd ty σ M G (.int y)) : Gd (tOp (rIx2 K) (tOp (rIx2 K) tw tx) ty) σ M G (.int (sg W x y)) :=
  gd_ixT (gd_ixT hw h1 (web_row hx)) h2 (web_sg ok hx hy)
end
theorem eqv_int (a b : Int) : PyData.eqv (.int a) (.int b) = (a == b) := by simp [PyData.eqv]
theorem shaped_int (a : Int) : SeqAt.shaped (.int a) = true := by rfl
theorem kept1_map {α : Type} (l : List Nat) (f : Nat → Bool) (g : Nat → α) (h : α → PyData) : ((l.filter f).map g).map h = (l.filter f).map fun j => h (g j) := by rw [List.map_map]; rfl
theorem tiesAt_data (W : Web) (x : Nat) : (tiesAt W x).map tieD = kept1 (W.length - (x + 1)) (fun j => sg W x (x + 1 + j) != 0) fun j => .tuple [.int x, .int ((x : Int) + 1 + j)] := by
  unfold tiesAt kept1
  rw [List.map_map]
  refine List.map_congr_left fun j _ => ?_
  show tieD (x, x + 1 + j) = _
  unfold tieD
  simp only
  rw [show ((x + 1 + j : Nat) : Int) = (x : Int) + 1 + j by omega]
theorem flat_data (W : Web) (m : Nat) : ((List.range m).flatMap (tiesAt W)).map tieD = (List.range m).flatMap fun x => kept1 (W.length - (x + 1)) (fun j => sg W x (x + 1 + j) != 0) fun j => .tuple [.int x, .int ((x : Int) + 1 + j)] := by
  rw [List.map_flatMap]
  congr 1
  funext x
  exact tiesAt_data W x
def PTies (ds : List PyData) (d : PyData) : Prop := ∃ W, WebOk W ∧ ds = [webD W] ∧ d = tieL (ties W)
section
variable {P : Program} {w : World} {K : PySem.W.Frag} {mg : Str → Option Value} {base : Heap} {f : Addr} {fd : FuncData}
theorem scTiesOf : FnScope ["web", "many", "x", "y"] ["web"] (defScope sTiesOf) := ⟨rfl, rfl, rfl, by decide +kernel, rfl, by decide +kernel, by decide +kernel⟩
theorem ok_ties_of (D : Df K mg "ties_of" sTiesOf ["web"] f fd) (B : Bi mg) : FnOk P w K mg base CX0 1 f fd ["web"] (Spd PTies) := by
  refine D.F.ok scTiesOf (Spd.len (n := 1) fun ds d ⟨_, _, e, _⟩ => by rw [e]; rfl) (fun cdv A outer s H vs Q E hr h => ?_)
  obtain ⟨G, ds, d, hG, hv, ⟨W, ok, rfl, rfl⟩, q⟩ := h
  obtain ⟨v, rfl, hw⟩ := hv.one
  refine ⟨_, PSs.nox (pss_cons (ps_set (i := 1) scTiesOf.nd rfl (.inr rfl) (pe_callB (call_lenK (K := K) rfl) (by rfl) B.len bb_len (pa_cons (pv 0) pa_nil))) (pss_one (ps_ret (pe_lc2 (own := [("x", 2), ("y", 3)]) (vs1 := [3]) rfl scTiesOf.nd (pi_range1 (by rfl) B.range (pa_cons (pv 1) pa_nil)) (blkOk_by (own := [("x", 2), ("y", 3)]) (N := ["web", "many", "x", "y"]) (sc := defScope sTiesOf) (by decide +kernel)) (by decide) (fun _ _ _ _ _ => (pg_name (i := 2) scTiesOf.nd rfl (.inl rfl))) (fun _ _ _ _ _ => pts_nil) (fun _ _ _ _ _ => (pi_range2 (by rfl) B.range (pa_cons (pe_op (op_plusK (K := K) rfl) (pv 2) pe_int) (pa_cons (pv 1) pa_nil)))) (fun _ _ _ _ _ => (pg_name (i := 3) scTiesOf.nd rfl (.inl rfl))) (fun _ _ _ _ _ => (pts_one (pt_cmpR (op_neDK (K := K) rfl hr.units) (pe_ix (ix_twoK (K := K) rfl) (pe_ix (ix_twoK (K := K) rfl) (pv 0) (pv 2) (fun _ _ => rfl)) (pv 3) (fun _ _ => rfl)) pe_int (nomark _)))) (fun _ _ _ _ _ => (pe_tup (pa_cons (pv 2) (pa_cons (pv 3) pa_nil)))))))), ?_⟩
  refine s_asg exZ hG (gd_lenT (gd_var rfl hw)) fun n G1 H1 s1 hn => ?_
  rw [List.length_map] at hn
  have hw1 := hw.up s1.g
  have le := ok.le
  refine s_ret (M := Z) exZ s1.gh (Gd.is (gd_lc2 (fun i => W.length - (i + 1)) (fun i j => .int ((i : Int) + 1 + j)) (fun x j => sg W x (x + 1 + j) != 0) (fun x j => .tuple [.int x, .int ((x : Int) + 1 + j)]) (src_range1 (gd_var rfl hn) (by omega)) (by omega) (fun i _ => by omega) fun i G2 x hi e2 hx => ?_) (by rw [← flat_data]; rfl)) (q.from s1)
  refine ⟨_, tg_name, rfl, src_eq (src_range2 (gd_plus (gd_var rfl hx) gd_int) (gd_var rfl (hn.up e2)) (by omega)) (by omega) (fun _ _ => rfl), fun j G3 y hj e3 hy => ?_⟩
  have hyd : Dx G3 y (.int ((i + 1 + j : Nat) : Int)) := by
    rw [show ((i + 1 + j : Nat) : Int) = (i : Int) + 1 + j by omega]
    exact hy
  exact ⟨_, tg_name, rfl, gt_test (gd_ne (gd_web ok (by omega) (by omega) (gd_var rfl (hw1.up (e2.trans e3))) (gd_var rfl (hx.up e3)) (gd_var rfl hyd)) gd_int rfl rfl), fun _ => gd_tup (ga_cons (gd_var rfl (hx.up e3)) (ga_cons (gd_var rfl hy) ga_nil)) (by simp)⟩
end
end Sg

/-! rules that this program needs besides: an item of a list for an in-place change, ranges as values -/
namespace Sg
open PySem PySem.Spec PyProof.Rows L2
open Evl (Ex)
section
variable {X : Cx}
theorem get_list : PGet X (rIxL X.K) := fun pins u σ H o i ov iv Q I ro ri h => by
  obtain ⟨p, xs, k, z, rfl, rfl, hp, hz, q⟩ := h
  cases ro
  obtain ⟨t, rfl⟩ := ri
  obtain ⟨its, rv, pl, hs⟩ := I.list hp
  obtain ⟨j, e1, e2, e3, e4, e5⟩ := atI_get hz
  obtain ⟨c, hc, rc⟩ := rv.get e2
  have hl := rv.length
  have hn := line63
  have fin : EP X pins σ Q c u := ⟨z, H, I, rc, q⟩
  rcases Int.lt_or_le k 0 with neg | pos
  · refine wpAny_getItem_list_neg pl.isList neg (by rw [List.size_toArray] <;> omega) (by omega) ?_ fin
    rw [seqIndex_neg neg e4] at e1
    rw [List.size_toArray, ← hl, Option.some.inj e1]
    simpa using hc
  · refine wpAny_getItem_list pl.isList pos (by omega) ?_ fin
    rw [seqIndex_of pos e5] at e1
    rw [Option.some.inj e1]
    simpa using hc
theorem get_listK {K : PySem.W.Frag} (h : X.K = K) : PGet X (rIxL K) := by
  subst h
  exact get_list
/-- range(n) as a value -/
theorem cr_range1 : CallR X (.type "range") (fun vs H Q => ∃ n, vs = [V.int n] ∧ ∀ p, H p = none → Q (.ref p) (upd H p (.rng 0 n))) := fun pins u σ H vs us Q I r h => by
  obtain ⟨n, rfl, q⟩ := h
  cases r with
  | cons r1 rr =>
    cases rr
    obtain ⟨t, rfl⟩ := r1
    refine call_range_1 ⟨.ref u.heap.objs.size, upd H u.heap.objs.size (.rng 0 n), I.laid (t' := u.toks + 1 + 1) (fun b o e => Heap.get?_push_of_some _ e) (Nat.le_refl _) ?_, rfl, q _ (I.hok.fresh (Nat.le_refl _))⟩
    exact ⟨_, _, _, Heap.get?_push_size _ rfl⟩
/-- a walk over a range that has a name -/
def iRngV (te : TE) : TI := fun σ H R => te σ H fun x H1 => ∃ p lo hi, x = V.ref p ∧ H1 p = some (.rng lo hi) ∧ (-(2 ^ 62) ≤ lo ∧ lo < 2 ^ 62 ∧ -(2 ^ 62) ≤ hi ∧ hi < 2 ^ 62) ∧ R (Itr lo (hi - lo).toNat) H1
theorem pi_rngV {tg e : Expr} {te : TE} (he : PE X e te) : PI X tg e (iRngV te) := ⟨fun pins u σ H R I h => by
  refine thn (he.run pins u σ H _ I h) fun v u1 ⟨x, H1, I1, r1, q1⟩ => ?_
  obtain ⟨p, lo, hi, rfl, hp, ⟨b1, b2, b3, b4⟩, q⟩ := q1
  cases r1
  obtain ⟨t1, t2, t3, ho⟩ := I1.hok p _ hp
  refine wpAny_pyIter_range ho (small_one b1 b2 b3 b4) ?_
  refine ⟨u1.heap.objs.size, [u1.heap.objs.size], _, _, H1, rfl, I1.kept (t' := u1.toks) fun b o e => Heap.get?_push_of_some _ e, turn_range _ lo (hi - lo).toNat, ?_, fun b hb => ?_, q⟩
  · have q1 : lo + ((0 : Nat) : Int) * 1 = lo := by simp
    have q2 : (((hi - lo).toNat : Nat) : Int) - ((0 : Nat) : Int) = Builtin.Range.rangeSize lo hi 1 := by
      rw [rangeSize_one]
      split <;> omega
    rw [q1, q2]
    exact Heap.get?_push_size _ rfl
  · rw [List.mem_singleton.mp hb]
    exact I1.fpOk (Nat.le_refl _) (I1.hok.fresh (Nat.le_refl _))⟩
theorem src_rngV {σ : L2.St} {M G : Hp} {i n : Nat} {p : Addr} (h : σ[i]? = some (some (.ref p))) (hp : G p = some (.rng 0 n)) (hn : n ≤ 100000) : Src (iRngV (tVar i)) σ M G n (fun j => .int j) := fun H hM hG R k => by
  refine ⟨_, h, p, 0, n, rfl, hG _ _ hp, by omega, ?_⟩
  have q := k (Itr 0 n) G H (Stp.refl hG) ?_
  · rw [Int.sub_zero, Int.toNat_natCast]
    exact q
  · have e : (fun j : Nat => PyData.int (j : Int)) = fun j : Nat => .int ((0 : Int) + j) := funext fun j => by rw [Int.zero_add]
    rw [e]
    exact srcJ_range
abbrev rRng1 : List V → Hp → VK → Prop := fun vs H Q => ∃ n, vs = [V.int n] ∧ ∀ p, H p = none → Q (.ref p) (upd H p (.rng 0 n))
/-- x = range(n) -/
theorem s_rng {σ : L2.St} {M G : Hp} {te : TE} {n i : Nat} {H : Hp} {D : Ends} {tz : TS} (hM : Ex M H) (hG : Ex G H) (h : Gd te σ M G (.int n)) (k : ∀ p G' H', Stp G H G' H' → G' p = some (.rng 0 n) → tz D (σ.set i (some (.ref p))) H') :
    tSeq (tAsg (tCB rRng1 (tCons te tNil)) (gName i)) tz D σ H := h H hM hG _ fun v G1 H1 s1 d1 => by
  cases d1
  exact ⟨n, rfl, fun p hp => k p (upd G1 p (.rng 0 n)) _ (s1.newKnown hp) upd_same⟩
end
end Sg

/-! zip of a list and a tuple of one length -/
namespace Sg
open PySem PySem.Spec PyProof.Rows L2
open Evl (Ex)
/-- a list at a, a tuple at b, as they stand at each turn -/
def ItzLT (K : PySem.W.Frag) (a b : Addr) : It where
  go := fun i H => ∃ (xs ys : List V) (x y : V), SqL K H a xs ∧ SqT K H b ys ∧ xs[i]? = some x ∧ ys[i]? = some y
  yld := fun i H v H' => ∃ T x y, v = .ref T ∧ H T = none ∧ H' = upd H T (.tup [x, y]) ∧ (∀ xs, SqL K H a xs → xs[i]? = some x) ∧ ∀ ys, SqT K H b ys → ys[i]? = some y
  stop := fun i H => ∃ xs ys : List V, SqL K H a xs ∧ SqT K H b ys ∧ i = xs.length ∧ i = ys.length
theorem five {α : Type} {c p q r u v : α} (h : c ∈ [p, q, r, u, v]) : c = p ∨ c = q ∨ c = r ∨ c = u ∨ c = v := by simpa using h
theorem apartL {h : Heap} {a j : Addr} {i : Nat} {items : Array Value} (d : h.IsListIter j a i) (p : h.IsList a items) : a ≠ j := fun e => by
  obtain ⟨o, e1, _, e3⟩ := d
  obtain ⟨o2, f1, _, n, f4⟩ := p
  rw [e, e1] at f1
  rw [← Option.some.inj f1, e3] at f4
  cases f4
theorem apartT {h : Heap} {a j : Addr} {i : Nat} {items : Array Value} (d : h.IsTupleIter j a i) (p : h.IsTuple a items) : a ≠ j := fun e => by
  obtain ⟨o, e1, _, e3⟩ := d
  obtain ⟨o2, f1, _, n, f4⟩ := p
  rw [e, e1] at f1
  rw [← Option.some.inj f1, e3] at f4
  cases f4
theorem turn_zipLT {P : Program} {w : World} {K : PySem.W.Frag} {elts : List Expr} {kk : Nat} {tpos : Pos} {a b z TI TO j1 j2 : Addr} (D : ZipSep2 z TI TO j1 j2 [j1, a] [j2, b]) :
    Turn P w K (.Tuple elts kk tpos) (ItzLT K a b) [z, TI, TO, j1, j2] z (fun i h => IsZip h z TI TO .none ∧ IsTupOf2 h TI (.ref j1) (.ref j2) ∧ (∃ x y, IsTupOf2 h TO x y) ∧ h.IsListIter j1 a i ∧ h.IsTupleIter j2 b i) where
  mem := List.mem_cons_self
  obj := fun i h st c hc => by
    obtain ⟨z1, z2, ⟨x, y, z3⟩, ⟨o1, e1, _, d1⟩, ⟨o2, e2, _, d2⟩⟩ := st
    rcases five hc with rfl | rfl | rfl | rfl | rfl
    · exact ⟨_, z1, fun v q => nomatch q⟩
    · exact ⟨_, z2, fun v q => nomatch q⟩
    · exact ⟨_, z3, fun v q => nomatch q⟩
    · exact ⟨o1, e1, fun v q => by rw [d1] at q; cases q⟩
    · exact ⟨o2, e2, fun v q => by rw [d2] at q; cases q⟩
  keep := fun i h h' st k => by
    obtain ⟨z1, z2, ⟨x, y, z3⟩, d1, d2⟩ := st
    exact ⟨k z (by simp) _ z1, k TI (by simp) _ z2, ⟨x, y, k TO (by simp) _ z3⟩, d1.at fun o q => k j1 (by simp) o q, d2.at fun o q => k j2 (by simp) o q⟩
  item := by
    intro X eP ew eK calm i pins u σ H E I hf st hg
    subst eP ew eK
    obtain ⟨z1, z2, ⟨x0, y0, z3⟩, d1, d2⟩ := st
    obtain ⟨xs, ys, x, y, hxs, hys, hx, hy⟩ := hg
    obtain ⟨its, rv, pl, _⟩ := I.list hxs
    obtain ⟨its2, rv2, pt, _⟩ := I.tuple hys
    obtain ⟨c, hc, rc⟩ := rv.get hx
    obtain ⟨c2, hc2, rc2⟩ := rv2.get hy
    have hd : X.A.in1.handled = none := by simp [I.ok.hd calm]
    have na : a ≠ j1 := apartL d1 pl.isList
    have nb : b ≠ j2 := apartT d2 pt
    have zlt : z < u.heap.objs.size := Heap.lt_size z1
    have i1lt : i < its.toArray.size := by
      have q := (List.getElem?_eq_some_iff.mp hc).1
      simpa using q
    have i2lt : i < its2.toArray.size := by
      have q := (List.getElem?_eq_some_iff.mp hc2).1
      simpa using q
    refine wpAny_pyNext_zipD2_item D (Draws.list hd j1 a na its.toArray) (Draws.tuple hd j2 b nb its2.toArray) z1 z2 z3 ⟨d1, pl.isList⟩ ⟨d2, pt⟩ i1lt i2lt fun x1 x2 h1 tk g1 g2 z1' z3' l1 l2 hT hsz hk => ?_
    have ex1 : x1 = c := Option.some.inj ((show some x1 = its[i]? by rw [← g1]; simp).trans hc)
    have ex2 : x2 = c2 := Option.some.inj ((show some x2 = its2[i]? by rw [← g2]; simp).trans hc2)
    subst ex1 ex2
    refine ⟨_, rfl, wpAny_letOwnedTupleGo_zip (s := { u with heap := h1, toks := tk }) z1' fun h2 z1'' sb => ?_⟩
    have off : ∀ c o, c ∉ [z, TI, TO, j1, j2] → u.heap.get? c = some o → h2.get? c = some o := fun c o hb q => (sb.2 c fun q' => hb (by simp [q'])).trans (hk c o (fun q' => hb (by simp [q'])) (fun q' => hb (by simp [q'])) (fun q' => hb (by simp [q'])) (fun q' => hb (by simp [q'])) q)
    have hT2 : h2.get? u.heap.objs.size = some { cls := .type "tuple", data := .seq #[x1, x2] } := (sb.2 _ (Nat.ne_of_gt zlt)).trans hT
    have new : ObjOk X.prog X.w (upd H u.heap.objs.size (.tup [x, y])) h2 u.heap.objs.size (.tup [x, y]) := ⟨by show 2 ≤ sizeLine; decide, [x1, x2], .cons rc (.cons rc2 .nil), ⟨_, hT2, rfl, _, rfl⟩⟩
    have I2 : Inv X pins σ (upd H u.heap.objs.size (.tup [x, y])) { u with heap := h2, toks := tk } := I.turnedNew off hf (Nat.le_refl _) new
    refine ⟨.ref u.heap.objs.size, _, I2, rfl, ⟨_, x, y, rfl, I.hok.fresh (Nat.le_refl _), rfl, fun l hl => by rw [I.list_inj hl hxs]; exact hx, fun l hl => by rw [I.tuple_inj hl hys]; exact hy⟩, ⟨z1'', ?_, ⟨x1, x2, ?_⟩, ?_, ?_⟩, fun c hcm => ?_⟩
    · exact (sb.2 _ D.TIz).trans (hk _ _ D.TIz D.TITO D.TIi1 D.TIi2 z2)
    · exact (sb.2 _ D.TOz).trans z3'
    · exact l1.1.at fun o q => (sb.2 _ D.zi1.symm).trans q
    · exact l2.1.at fun o q => (sb.2 _ D.zi2.symm).trans q
    · have lt : c < u.heap.objs.size := by
        rcases five hcm with rfl | rfl | rfl | rfl | rfl
        · exact zlt
        · exact Heap.lt_size z2
        · exact Heap.lt_size z3
        · exact Heap.lt_size d1.choose_spec.1
        · exact Heap.lt_size d2.choose_spec.1
      rw [upd_ne (Nat.ne_of_lt lt)]
      exact (hf c hcm).1
  done := by
    intro X eP ew eK calm i pins u σ H E I hf st hg
    subst eP ew eK
    obtain ⟨z1, z2, ⟨x0, y0, z3⟩, d1, d2⟩ := st
    obtain ⟨xs, ys, hxs, hys, q1, q2⟩ := hg
    obtain ⟨its, rv, pl, _⟩ := I.list hxs
    obtain ⟨its2, rv2, pt, _⟩ := I.tuple hys
    have l1 := rv.length
    have l2 := rv2.length
    have hd : X.A.in1.handled = none := by simp [I.ok.hd calm]
    have na : a ≠ j1 := apartL d1 pl.isList
    have nb : b ≠ j2 := apartT d2 pt
    have s1 : its.toArray.size = i := by rw [List.size_toArray]; omega
    have s2 : its2.toArray.size = i := by rw [List.size_toArray]; omega
    exact wpAny_pyNext_zipD2_end D (Draws.list hd j1 a na its.toArray) (Draws.tuple hd j2 b nb its2.toArray) z1 z2 z3 ⟨d1, pl.isList⟩ ⟨d2, pt⟩ (by omega) (by omega) (.inl s1.symm) fun h1 tk hk => ⟨rfl, I.turnedL (ch := [z, TI, TO, j1, j2]) (fun c o hb q =>
      hk c o (fun q' => hb (by simp [q'])) (fun q' => hb (by simp [q'])) (fun q' => hb (by simp [q'])) (fun q' => hb (by simp [q'])) q) hf⟩
  self := fun A i u Q E st h => wpAny_pyIter_zip st.1 h
def iZipLT (K : PySem.W.Frag) (ta : TA) : TI := fun σ H R => ta σ H fun vs H1 => ∃ a b xs ys, vs = [.ref a, .ref b] ∧ SqL K H1 a xs ∧ SqT K H1 b ys ∧ R (ItzLT K a b) H1
theorem pi_zipLT {X : Cx} {K : PySem.W.Frag} {e e2 : Expr} {ta : TA} {p pos tpos : Pos} {elts : List Expr} {kk : Nat} (eK : X.K = K) (hg : Gl X "zip") (hm : X.mg "zip" = none) (ha : PA X [e, e2] ta)
    (st : starEach [e, e2] X.env = (false, eval e X.env) :: starEach [e2] X.env := by rfl) (pl : (backTo pos (starEach [e2] X.env)).any (·.1) = false := by rfl) :
    PI X (.Tuple elts kk tpos) (.Call (.Name "zip" p) [e, e2] [] pos) (iZipLT K ta) := by
  subst eK
  refine ⟨fun pins u σ H R I h => ?_⟩
  refine Call_ (ld_blt I hg hm PyProof.Rows.boot_zip (PyProof.Rows.callWith_type1 (thn (ha.run pos pins u σ H _ I h) fun us u1 ⟨vs, H1, I1, r1, q1⟩ => ?_) st pl))
  obtain ⟨a, b, xs, ys, rfl, hxs, hys, q⟩ := q1
  obtain ⟨ua, ub, rfl, ra, rb⟩ := vals2 r1
  cases ra
  cases rb
  obtain ⟨its, rv, pa, _⟩ := I1.list hxs
  obtain ⟨its2, rv2, pb, _⟩ := I1.tuple hys
  refine zip_begins2 (begins_list a its.toArray) (begins_tuple b its2.toArray) pa.isList pb fun h' z1 z2 z3 d1 d2 hsz hk => wpAny_pyIter_zip z1 ?_
  have I2 : Inv X pins σ H1 { u1 with heap := h' } := I1.kept (t' := u1.toks) hk
  have lta : a < u1.heap.objs.size := pa.lt
  have ltb : b < u1.heap.objs.size := Heap.lt_size pb.choose_spec.1
  refine ⟨u1.heap.objs.size + 4, [u1.heap.objs.size + 4, u1.heap.objs.size + 2, u1.heap.objs.size + 3, u1.heap.objs.size, u1.heap.objs.size + 1], _, _, H1, rfl, I2,
    turn_zipLT (zip_sep2 (fp1 := [a]) (fp2 := [b]) (fun c hc => by rw [List.mem_singleton.mp hc]; exact lta) (fun c hc => by rw [List.mem_singleton.mp hc]; exact ltb)),
    ⟨z1, z2, ⟨_, _, z3⟩, ⟨_, d1, rfl, rfl⟩, ⟨_, d2, rfl, rfl⟩⟩, fun c hcm => ?_, q⟩
  have le : u1.heap.objs.size ≤ c := by
    rcases five hcm with rfl | rfl | rfl | rfl | rfl
    · exact Nat.le_add_right _ _
    · exact Nat.le_add_right _ _
    · exact Nat.le_add_right _ _
    · exact Nat.le_refl _
    · exact Nat.le_add_right _ _
  exact I1.fpOk le (I1.hok.fresh le)
/-- its data: pairs -/
theorem src_zipLT {σ : L2.St} {K : PySem.W.Frag} {M G : Hp} {ta tb : TE} {ds es : List PyData} (h : Gd ta σ M G (.list ds)) (h2 : Gd tb σ M G (.tuple es)) (hl : ds.length = es.length) :
    Src (iZipLT K (tCons ta (tCons tb tNil))) σ M G ds.length (fun i => .tuple [ds.getD i .none, es.getD i .none]) := fun H hM hG R k => ga_cons h (ga_cons h2 ga_nil) H hM hG _ fun vs G1 H1 s1 dv => by
  obtain ⟨v, w, rfl, d1, d2⟩ := dv.two
  obtain ⟨a, xs, rfl, ga, hx⟩ := d1.lst_of
  obtain ⟨b, ys, rfl, gb, hy⟩ := d2.tup_of
  refine ⟨a, b, xs, ys, rfl, SqL.of (s1.gh _ _ ga), SqT.of (s1.gh _ _ gb), k _ G1 H1 s1 fun i G2 H2 g hh => ?_⟩
  have ha : H2 a = some (.lst xs) := hh _ _ (g _ _ ga)
  have hb : H2 b = some (.tup ys) := hh _ _ (g _ _ gb)
  have lx := hx.length
  have ly := hy.length
  constructor
  · intro hi
    subst hi
    exact ⟨xs, ys, SqL.of ha, SqT.of hb, lx.symm, by omega⟩
  · intro hi
    have e1 : ds[i]? = some (ds.getD i .none) := by
      rw [List.getD_eq_getElem?_getD, List.getElem?_eq_getElem hi] <;> rfl
    have e2 : es[i]? = some (es.getD i .none) := by
      rw [List.getD_eq_getElem?_getD, List.getElem?_eq_getElem (by omega)] <;> rfl
    obtain ⟨x, hvx, dx⟩ := hx.get e1
    obtain ⟨y, hvy, dy⟩ := hy.get e2
    refine ⟨⟨xs, ys, x, y, SqL.of ha, SqT.of hb, hvx, hvy⟩, fun v' H3 yl => ?_⟩
    obtain ⟨T, x', y', rfl, hT, rfl, f1, f2⟩ := yl
    have q1 : x' = x := Option.some.inj ((f1 _ (SqL.of ha)).symm.trans hvx)
    have q2 : y' = y := Option.some.inj ((f2 _ (SqT.of hb)).symm.trans hvy)
    subst q1 q2
    have ex : Ex G2 (upd G2 T (.tup [x', y'])) := ex_upd (fresh_of hh hT)
    exact ⟨_, (Stp.refl hh).newKnown hT, .tup upd_same (.cons ((dx.up g).up ex) (.cons ((dy.up g).up ex) .nil))⟩
end Sg

/-! lists that change: held in the heap, not among the known things -/
namespace Sg
open PySem PySem.Spec PyProof.Rows L2
open Evl (Ex)
/-- p is a list xs that may change -/
structure Hold (G H : Hp) (p : Addr) (xs : List V) : Prop where
  g : G p = none
  h : H p = some (.lst xs)
def iv (ns : List Int) : List V := ns.map V.int
def nv (ns : List Nat) : List V := ns.map fun n : Nat => V.int n
def nD (ns : List Nat) : PyData := .list (ns.map fun n : Nat => .int (n : Int))
theorem nn {α : Type} {x : Option α} {o : α} (h : x = some o) : x ≠ none := by
  rw [h]
  exact fun z => nomatch z
section
variable {G H G' H' G0 H0 : Hp} {p q : Addr} {xs ys : List V} {o : HO}
theorem Hold.step (h : Hold G H p xs) (s : Stp G H G' H') : Hold G' H' p xs := ⟨(s.fr p (nn h.h)).trans h.g, s.h _ _ h.h⟩
theorem Hold.put (h : Hold G H p xs) : Hold G (upd H p (.lst ys)) p ys := ⟨h.g, upd_same⟩
theorem Hold.other (h : Hold G H p xs) (ne : p ≠ q) : Hold G (upd H q o) p xs := ⟨h.g, (upd_ne ne).trans h.h⟩
theorem Hold.ex (h : Hold G H p xs) (e : Ex G H) : Ex G (upd H p o) := e.mut h.g
theorem Hold.stp (h : Hold G H p xs) (s : Stp G0 H0 G H) (n : H0 p = none) : Stp G0 H0 G (upd H p o) := s.mut n h.g
theorem Hold.one (h : Hold G H p xs) : Ex (upd Z p (.lst xs)) H := fun a u ha => by
  by_cases e : a = p
  · subst e
    rw [upd_same] at ha
    rw [← ha]
    exact h.h
  · rw [upd_ne e] at ha
    cases ha
/-- read with another -/
theorem Hold.more {M : Hp} (h : Hold G H p xs) (m : Ex M H) : Ex (upd M p (.lst xs)) H := fun a u ha => by
  by_cases e : a = p
  · subst e
    rw [upd_same] at ha
    rw [← ha]
    exact h.h
  · rw [upd_ne e] at ha
    exact m _ _ ha
theorem Hold.made (hG : Ex G H) (n : H p = none) : Hold G (upd H p (.lst xs)) p xs := ⟨fresh_of hG n, upd_same⟩
theorem Hold.know (h : Hold G H p xs) (s : Stp G0 H0 G H) (n : H0 p = none) : Stp G0 H0 (upd G p (.lst xs)) H := s.know n h.g h.h
theorem Hold.up (h : Hold G H p xs) : Ex G (upd G p (.lst xs)) := ex_upd h.g
end
section
variable {K : PySem.W.Frag} {σ : L2.St} {M G : Hp} {te tx tw : TE} {D : Ends} {tz : TS} {H : Hp}
/-- an item of it, its length -/
theorem gd_ixH {i : Nat} {p : Addr} {ns : List Int} {c : Nat} (h : σ[i]? = some (some (.ref p))) (hp : M p = some (.lst (iv ns))) (hx : Gd tx σ M G (.int c)) (hc : c < ns.length) : Gd (tOp (rIx2 K) (tVar i) tx) σ M G (.int (ns.getD c 0)) := fun H hM hG Q q =>
  ⟨_, h, hx H hM hG _ fun v G1 H1 s1 d1 => by
    cases d1
    refine .inl ⟨p, iv ns, c, .int (ns.getD c 0), rfl, rfl, SqL.of (s1.h _ _ (hM _ _ hp)), atI_map ?_, q _ G1 H1 s1 (.int _)⟩
    rw [List.getD_eq_getElem?_getD, List.getElem?_eq_getElem hc] <;> rfl⟩
theorem gd_ixHn {i : Nat} {p : Addr} {ns : List Nat} {c : Nat} (h : σ[i]? = some (some (.ref p))) (hp : M p = some (.lst (nv ns))) (hx : Gd tx σ M G (.int c)) (hc : c < ns.length) : Gd (tOp (rIx2 K) (tVar i) tx) σ M G (.int (ns.getD c 0 : Nat)) := fun H hM hG Q q =>
  ⟨_, h, hx H hM hG _ fun v G1 H1 s1 d1 => by
    cases d1
    refine .inl ⟨p, nv ns, c, .int (ns.getD c 0 : Nat), rfl, rfl, SqL.of (s1.h _ _ (hM _ _ hp)), atI_map ?_, q _ G1 H1 s1 (.int _)⟩
    rw [List.getD_eq_getElem?_getD, List.getElem?_eq_getElem hc] <;> rfl⟩
theorem gd_lenH {i : Nat} {p : Addr} {xs : List V} (h : σ[i]? = some (some (.ref p))) (hp : M p = some (.lst xs)) : Gd (tCB (rLen2 K) (tCons (tVar i) tNil)) σ M G (.int xs.length) := fun H hM hG Q q =>
  ⟨_, h, p, xs, rfl, .inl (SqL.of (hM _ _ hp)), q _ G H (Stp.refl hG) (.int _)⟩
/-- x not in it -/
theorem inV_nv {ns : List Nat} {c : Nat} : inV (.int c) (nv ns) = decide (c ∈ ns) := by
  unfold inV nv
  rw [List.any_map]
  by_cases h : c ∈ ns
  · rw [decide_eq_true h]
    refine List.any_eq_true.mpr ⟨c, h, ?_⟩
    show ((c : Int) == (c : Int)) = true
    exact beq_self_eq_true _
  · rw [decide_eq_false h]
    refine List.any_eq_false.mpr fun b hb => ?_
    show ¬ ((b : Int) == (c : Int)) = true
    intro q
    have e : b = c := by
      have := eq_of_beq q
      omega
    rw [e] at hb
    exact h hb
theorem flat_nv {ns : List Nat} : (nv ns).all flatV = true := List.all_eq_true.mpr fun v hv => by
  obtain ⟨n, _, rfl⟩ := List.mem_map.mp hv
  rfl
theorem gd_notInH {i : Nat} {p : Addr} {ns : List Nat} {c : Nat} (h : σ[i]? = some (some (.ref p))) (hp : M p = some (.lst (nv ns))) (hx : Gd tx σ M G (.int c)) : Gd (tOp (rIn K true) tx (tVar i)) σ M G (.bool (decide (c ∉ ns))) := fun H hM hG Q q =>
  hx H hM hG _ fun v G1 H1 s1 d1 => by
    cases d1
    refine ⟨_, h, p, nv ns, rfl, .inl (SqL.of (s1.h _ _ (hM _ _ hp))), rfl, flat_nv, ?_⟩
    rw [inV_nv]
    have e : (if true = true then !decide (c ∈ ns) else decide (c ∈ ns)) = decide (c ∉ ns) := by
      by_cases h : c ∈ ns
      · simp [h]
      · simp [h]
    rw [e]
    exact q _ G1 H1 s1 (.bl _)
/-- l[c] += y, l[c] -= y -/
theorem s_augL {i j : Nat} {p : Addr} {ns : List Int} {c : Nat} {y : Int} {g : Int → Int → Int} (hp : Hold G H p (iv ns)) (h : σ[i]? = some (some (.ref p))) (hj : σ[j]? = some (some (.int c))) (hc : c < ns.length) (hG : Ex G H)
    (k : tz D σ (upd H p (.lst (iv (ns.set c (g (ns.getD c 0) y)))))) : tSeq (tAugS (tVar i) (tVar j) (tC (.int y)) (rIxL K) (ipI g) rSetL) tz D σ H := by
  refine ⟨_, h, _, hj, p, iv ns, c, .int (ns.getD c 0), rfl, rfl, SqL.of hp.h, atI_map ?_, _, y, rfl, rfl, p, iv ns, c, c, rfl, rfl, hp.h, ?_, ?_⟩
  · rw [List.getD_eq_getElem?_getD, List.getElem?_eq_getElem hc] <;> rfl
  · have l : (iv ns).length = ns.length := by
      unfold iv
      rw [List.length_map]
    unfold ixN
    rw [l]
    simp [hc]
  · unfold iv at k ⊢
    rw [List.map_set] at k
    exact k
theorem s_augLE {i j : Nat} {p : Addr} {ns : List Int} {c : Nat} {y : Int} {g : Int → Int → Int} (hp : Hold G H p (iv ns)) (h : σ[i]? = some (some (.ref p))) (hj : σ[j]? = some (some (.int c))) (hc : c < ns.length) (hG : Ex G H)
    (k : D.nx σ (upd H p (.lst (iv (ns.set c (g (ns.getD c 0) y)))))) : tAugS (tVar i) (tVar j) (tC (.int y)) (rIxL K) (ipI g) rSetL D σ H := s_augL (tz := tNext) (D := D) hp h hj hc hG k
/-- l.append(x), l a name -/
theorem s_app {i : Nat} {p : Addr} {xs : List V} {d : PyData} (hM : Ex M H) (hG : Ex G H) (hp : Hold G H p xs) (h : σ[i]? = some (some (.ref p))) (hl : xs.length < 100000) (hx : Gd te σ M G d)
    (k : ∀ v G' H', Stp G H G' H' → Hold G' H' p xs → Dx G' v d → tz D σ (upd H' p (.lst (xs ++ [v])))) : tSeq (tDrop (tBM K "list" rAppend (tVar i) (tCons te tNil))) tz D σ H :=
  ⟨_, h, .inl ⟨rfl, xs, SqL.of hp.h⟩, hx H hM hG _ fun v G1 H1 s1 d1 => ⟨p, xs, v, rfl, rfl, s1.h _ _ hp.h, szl hl, k v G1 H1 s1 (hp.step s1) d1⟩⟩
theorem s_appE {i : Nat} {p : Addr} {xs : List V} {d : PyData} (hM : Ex M H) (hG : Ex G H) (hp : Hold G H p xs) (h : σ[i]? = some (some (.ref p))) (hl : xs.length < 100000) (hx : Gd te σ M G d)
    (k : ∀ v G' H', Stp G H G' H' → Hold G' H' p xs → Dx G' v d → D.nx σ (upd H' p (.lst (xs ++ [v])))) : tDrop (tBM K "list" rAppend (tVar i) (tCons te tNil)) D σ H := s_app (tz := tNext) (D := D) hM hG hp h hl hx k
/-- [y] * n -/
theorem rep_raw {n : Nat} {y : Int} {Q : VK} (hM : Ex M H) (hG : Ex G H) (hx : Gd te σ M G (.int n)) (hn : n ≤ 100000) (k : ∀ p G' H', Stp G H G' H' → H p = none → Hold G' H' p (iv (List.replicate n y)) → Q (.ref p) H') :
    tOp rTimes (tLst (tCons (tC (.int y)) tNil)) te σ H Q := by
  refine ⟨sz (by simp), fun l hl => ?_⟩
  have s0 : Stp G H G (upd H l (.lst [.int y])) := (Stp.refl hG).new hl
  refine hx _ (hM.trans (Ex.new hl)) s0.gh _ fun v G1 H1 s1 d1 => ?_
  cases d1
  refine .inr ⟨l, n, [.int y], rfl, rfl, s1.h _ _ upd_same, by omega, by omega, ?_, fun p hp => ?_⟩
  · rw [Int.toNat_natCast, List.length_singleton, Nat.one_mul]
    exact sz hn
  · have e : (List.replicate n [V.int y]).flatten = iv (List.replicate n y) := by
      unfold iv
      rw [List.map_replicate]
      clear hn hx k
      induction n with
      | zero => rfl
      | succ n ih => rw [List.replicate_succ, List.flatten_cons, ih, List.replicate_succ, List.singleton_append]
    rw [Int.toNat_natCast, e]
    have s2 := (s0.trans s1).new (o := .lst (iv (List.replicate n y))) hp
    exact k p G1 _ s2 (fresh_of (s0.trans s1).h hp) (Hold.made s1.gh hp)
/-- x = [y] * n -/
theorem s_rep {i : Nat} {n : Nat} {y : Int} (hM : Ex M H) (hG : Ex G H) (hx : Gd te σ M G (.int n)) (hn : n ≤ 100000) (k : ∀ p G' H', Stp G H G' H' → H p = none → Hold G' H' p (iv (List.replicate n y)) → tz D (σ.set i (some (.ref p))) H') :
    tSeq (tAsg (tOp rTimes (tLst (tCons (tC (.int y)) tNil)) te) (gName i)) tz D σ H := rep_raw hM hG hx hn k
/-- x = a value, any -/
theorem s_set {i : Nat} (h : te σ H fun v H1 => tz D (σ.set i (some v)) H1) : tSeq (tAsg te (gName i)) tz D σ H := h
/-- x = [..], a list that may change -/
theorem s_lst {i : Nat} {ta : TA} {ds : List PyData} (hM : Ex M H) (hG : Ex G H) (h : Ga ta σ M G ds) (hl : ds.length ≤ 100000) (k : ∀ p xs G' H', Stp G H G' H' → H p = none → Hold G' H' p xs → DxA G' xs ds → tz D (σ.set i (some (.ref p))) H') : tSeq (tAsg (tLst ta) (gName i)) tz D σ H :=
  h H hM hG _ fun vs G1 H1 s1 d1 => ⟨sz (by rw [d1.length]; exact hl), fun p hp => k p vs G1 _ (s1.new hp) (fresh_of s1.h hp) (Hold.made s1.gh hp) d1⟩
/-- x += y -/
theorem s_aug {i : Nat} {a y : Int} {g : Int → Int → Int} (h : σ[i]? = some (some (.int a))) (k : tz D (σ.set i (some (.int (g a y)))) H) : tSeq (tAug i (tC (.int y)) (ipI g)) tz D σ H := ⟨_, h, _, _, rfl, rfl, k⟩
theorem s_augE {i : Nat} {a y : Int} {g : Int → Int → Int} (h : σ[i]? = some (some (.int a))) (k : D.nx (σ.set i (some (.int (g a y)))) H) : tAug i (tC (.int y)) (ipI g) D σ H := s_aug (tz := tNext) (D := D) h k
theorem dxa_nv {G : Hp} : ∀ ns : List Nat, DxA G (nv ns) (ns.map fun n : Nat => .int (n : Int))
  | [] => .nil
  | n :: ns => .cons (.int _) (dxa_nv ns)
theorem nv_of {G : Hp} : ∀ {ns : List Nat} {vs : List V}, DxA G vs (ns.map fun n : Nat => .int (n : Int)) → vs = nv ns
  | [], _, .nil => rfl
  | n :: ns, _, .cons h hs => by
    cases h
    rw [nv_of hs]
    rfl
theorem nv_snoc (ns : List Nat) (n : Nat) : nv (ns ++ [n]) = nv ns ++ [.int n] := by
  unfold nv
  rw [List.map_append]
  rfl
theorem nv_len (ns : List Nat) : (nv ns).length = ns.length := by
  unfold nv
  rw [List.length_map]
theorem kept1_nats (n : Nat) (f : Nat → Bool) : kept1 n f (fun i => .int (i : Int)) = ((List.range n).filter f).map fun i : Nat => PyData.int (i : Int) := rfl
end
end Sg

/-! downward -/
namespace Sg
open PySem PySem.Spec PyProof.Rows L2
open Evl (Ex)
def belD (B : List (List Nat)) : PyData := .list (B.map nD)
/-- while, by turns -/
abbrev Nw (I : L2.St → Hp → Hp → Prop) : L2.St → Hp → Prop := fun σ H => ∃ G, Ex G H ∧ I σ G H
theorem s_while {D : Ends} {tt : TT} {tb tz : TS} {σ : L2.St} {G H : Hp} (N : Nat) (I : Nat → L2.St → Hp → Hp → Prop) (hG : Ex G H) (h0 : I 0 σ G H)
    (hs : ∀ t σ G H, t ≤ N → Ex G H → I t σ G H → ∃ b M, Ex M H ∧ Gt tt σ M G b ∧ (b = true → t < N ∧ ∀ G1 H1, Stp G H G1 H1 → tb { D with nx := Nw (I (t + 1)), ct := Nw (I (t + 1)), bk := tz D } σ H1) ∧ (b = false → ∀ G1 H1, Stp G H G1 H1 → tz D σ H1)) :
    tSeq (tWhile tt tb) tz D σ H := by
  refine ⟨fun m σ H => ∃ t, m = N - t ∧ t ≤ N ∧ Nw (I t) σ H, ⟨N, 0, rfl, Nat.zero_le _, G, hG, h0⟩, ?_⟩
  rintro m σ1 H1 ⟨t, rfl, ht, G1, e1, i1⟩
  obtain ⟨b, M, hM, hb, h1, h2⟩ := hs t σ1 G1 H1 ht e1 i1
  refine hb H1 hM e1 _ fun G2 H2 s2 => ?_
  cases b with
  | true =>
    obtain ⟨lt, h1⟩ := h1 rfl
    exact iteT ⟨Nw (I (t + 1)), fun σ' H' z => ⟨N - (t + 1), by omega, t + 1, rfl, lt, z⟩, h1 G2 H2 s2⟩
  | false => exact iteF (h2 rfl G2 H2 s2)
theorem getD_map {α : Type} {B : List α} {f : α → PyData} {i : Nat} {z : α} (hi : i < B.length) : (B.map f).getD i .none = f (B.getD i z) := by
  rw [List.getD_eq_getElem?_getD, List.getElem?_map, List.getD_eq_getElem?_getD, List.getElem?_eq_getElem hi] <;> rfl
theorem take_snoc {α : Type} {l : List α} {j : Nat} {z : α} (h : j < l.length) : l.take (j + 1) = l.take j ++ [l.getD j z] := by
  rw [List.take_succ, List.getD_eq_getElem?_getD, List.getElem?_eq_getElem h] <;> rfl
theorem flat_next {B : List (List Nat)} {i : Nat} (hi : i < B.length) : (B.take (i + 1)).flatten = (B.take i).flatten ++ B.getD i [] := by
  rw [take_snoc (z := []) hi, List.flatten_append]
  simp
theorem getD_get {α : Type} {l : List α} {j : Nat} {z : α} (h : j < l.length) : l[j]? = some (l.getD j z) := by
  rw [List.getD_eq_getElem?_getD, List.getElem?_eq_getElem h] <;> rfl
theorem getD_mem {α : Type} {l : List α} {j : Nat} {z : α} (h : j < l.length) : l.getD j z ∈ l := by
  rw [List.getD_eq_getElem?_getD, List.getElem?_eq_getElem h]
  exact List.getElem_mem h
theorem foldK_len : ∀ (l : List Nat) (st : List Int × List Nat), (l.foldl stepK st).1.length = st.1.length ∧ (l.foldl stepK st).2.length ≤ st.2.length + l.length
  | [], st => ⟨rfl, Nat.le_refl _⟩
  | x :: l, st => by
    obtain ⟨h1, h2⟩ := foldK_len l (stepK st x)
    rw [List.foldl_cons]
    refine ⟨h1.trans (by unfold stepK; simp), Nat.le_trans h2 ?_⟩
    unfold stepK
    simp only [List.length_cons]
    split
    · rw [List.length_append, List.length_singleton]
      omega
    · omega
theorem foldK_grow : ∀ (l : List Nat) (st : List Int × List Nat), st.2.length ≤ (l.foldl stepK st).2.length
  | [], st => Nat.le_refl _
  | x :: l, st => by
    rw [List.foldl_cons]
    refine Nat.le_trans ?_ (foldK_grow l (stepK st x))
    unfold stepK
    simp only
    split
    · rw [List.length_append]
      omega
    · exact Nat.le_refl _
theorem foldK_next {l : List Nat} {st : List Int × List Nat} {j : Nat} (hj : j < l.length) : (l.take (j + 1)).foldl stepK st = stepK ((l.take j).foldl stepK st) (l.getD j 0) := by
  rw [take_snoc (z := 0) hj, List.foldl_append]
  rfl
def PDownward (ds : List PyData) (d : PyData) : Prop := ∃ B, InB B ∧ B.length ≤ 20 ∧ (∀ l ∈ B, l.length ≤ 1000) ∧ ds = [belD B] ∧ d = .tuple [nD (orderK B), nD ((List.range B.length).filter fun b => decide (b ∉ orderK B))]
section
variable {P : Program} {w : World} {K : PySem.W.Frag} {mg : Str → Option Value} {base : Heap} {f : Addr} {fd : FuncData}
theorem scDownward : FnScope ["below", "ahead", "row", "place", "order", "at"] ["below"] (defScope sDownward) := ⟨rfl, rfl, rfl, by decide +kernel, rfl, by decide +kernel, by decide +kernel⟩
theorem ok_downward (D : Df K mg "downward" sDownward ["below"] f fd) (B : Bi mg) : FnOk P w K mg base CX0 1 f fd ["below"] (Spd PDownward) := by
  refine D.F.ok scDownward (Spd.len (n := 1) fun ds d ⟨_, _, _, _, e, _⟩ => by rw [e]; rfl) (fun cdv A outer s H vs Q E hr h => ?_)
  obtain ⟨G, ds, d, hG, hv, ⟨C, inb, l20, l1000, rfl, rfl⟩, q⟩ := h
  obtain ⟨v, rfl, hc⟩ := hv.one
  refine ⟨_, PSs.nox (pss_cons (ps_set (i := 1) scDownward.nd rfl (.inr rfl) (pe_op op_times (pe_lst (pa_cons pe_int pa_nil)) (pe_callB (call_lenK (K := K) rfl) (by rfl) B.len bb_len (pa_cons (pv 0) pa_nil)))) (pss_cons (ps_for PassesOwn.never rfl (pi_lstK (K := K) rfl (pv 0)) (pg_name (i := 2) scDownward.nd rfl (.inl rfl)) (pss_one (ps_for PassesOwn.never rfl (pi_lstK (K := K) rfl (pv 2)) (pg_name (i := 3) scDownward.nd rfl (.inl rfl)) (pss_one (ps_augS (pv 1) (pv 3) (get_listK (K := K) rfl) pe_int ip_add set_list))))) (pss_cons (ps_set (i := 4) scDownward.nd rfl (.inr rfl) (pe_lc (own := [("place", 3)]) rfl scDownward.nd (pi_range1 (by rfl) B.range (pa_cons (pe_callB (call_lenK (K := K) rfl) (by rfl) B.len bb_len (pa_cons (pv 0) pa_nil)) pa_nil)) (blkOk_by (own := [("place", 3)]) (N := ["below", "ahead", "row", "place", "order", "at"]) (sc := defScope sDownward) (by decide +kernel)) (fun _ _ _ _ _ => (pg_name (i := 3) scDownward.nd rfl (.inl rfl))) (fun _ _ _ _ _ => (pts_one (pt_cmpR (op_eqDK (K := K) rfl hr.units) (pe_ix (ix_twoK (K := K) rfl) (pv 1) (pv 3) (fun _ _ => rfl)) pe_int (nomark _)))) (fun _ _ _ _ _ => (pv 3)))) (pss_cons (ps_set (i := 5) scDownward.nd rfl (.inl rfl) pe_int) (pss_cons (ps_while PassesOwn.never (pt_cmpR op_lt (pv 5) (pe_callB (call_lenK (K := K) rfl) (by rfl) B.len bb_len (pa_cons (pv 4) pa_nil)) (nomark _)) (pss_cons (ps_for PassesOwn.never rfl (pi_lstK (K := K) rfl (pe_ix (ix_twoK (K := K) rfl) (pv 0) (pe_ix (ix_twoK (K := K) rfl) (pv 4) (pv 5) (fun _ _ => rfl)) (fun _ _ => rfl))) (pg_name (i := 3) scDownward.nd rfl (.inl rfl)) (pss_cons (ps_augS (pv 1) (pv 3) (get_listK (K := K) rfl) pe_int ip_sub set_list) (pss_one (ps_if (pt_cmpR (op_eqDK (K := K) rfl hr.units) (pe_ix (ix_twoK (K := K) rfl) (pv 1) (pv 3) (fun _ _ => rfl)) pe_int (nomark _)) (pss_one (ps_expr (pe_bm PySem.F.plainAttrs_list PySem.F.slot_list_append PySem.F.type_list_append mt_append (pv 4) (pa_cons (pv 3) pa_nil)))) pss_nil)))) (pss_one (ps_aug (i := 5) scDownward.nd rfl (.inl rfl) pe_int ip_add)))) (pss_one (ps_ret (pe_tup (pa_cons (pv 4) (pa_cons (pe_lc (own := [("place", 3)]) rfl scDownward.nd (pi_range1 (by rfl) B.range (pa_cons (pe_callB (call_lenK (K := K) rfl) (by rfl) B.len bb_len (pa_cons (pv 0) pa_nil)) pa_nil)) (blkOk_by (own := [("place", 3)]) (N := ["below", "ahead", "row", "place", "order", "at"]) (sc := defScope sDownward) (by decide +kernel)) (fun _ _ _ _ _ => (pg_name (i := 3) scDownward.nd rfl (.inl rfl))) (fun _ _ _ _ _ => (pts_one (pt_cmpR (op_notInK (K := K) rfl) (pv 3) (pv 4) rfl))) (fun _ _ _ _ _ => (pv 3))) pa_nil)))))))))), ?_⟩
  have lc : ((C.map nD).length : Int) = C.length := by rw [List.length_map]
  refine s_rep (n := C.length) (M := Z) exZ hG ((gd_lenL (gd_var rfl hc)).is (by rw [lc])) (by omega) fun pa G1 H1 s1 na ha => ?_
  refine s_for (M := Z) (fun i σ G' H' => Stp G H G' H' ∧ Hold G' H' pa (iv (cntL C.length (C.take i).flatten)) ∧ ∃ l1 l2, σ = [some v, some (.ref pa), l1, l2, none, none]) exZ s1.gh (src_list (gd_var rfl (hc.up s1.g))) (fun G2 H2 s2 => ⟨s1.trans s2, ?_, none, none, rfl⟩) ?_ ?_
  · rw [List.take_zero, List.flatten_nil, cntL_nil]
    exact ha.step s2
  · rintro i σ' G' H' x G2 H2 hi g1 gh ⟨s0, hold, l1, l2, rfl⟩ s2 hx
    rw [List.length_map] at hi
    rw [getD_map (z := []) hi] at hx
    refine s_forE (M := Z) (fun j σ G' H' => Stp G H G' H' ∧ Hold G' H' pa (iv (cntL C.length ((C.take i).flatten ++ (C.getD i []).take j))) ∧ ∃ l2, σ = [some v, some (.ref pa), some x, l2, none, none]) exZ s2.gh (src_list (gd_var rfl hx)) (fun G3 H3 s3 => ⟨(s0.trans s2).trans s3, ?_, l2, rfl⟩) ?_ ?_
    · rw [List.take_zero, List.append_nil]
      exact (hold.step s2).step s3
    · rintro j σ' G3 H3 z G4 H4 hj g3 gh3 ⟨s3, hold3, l3, rfl⟩ s4 hz
      rw [List.length_map] at hj
      rw [getD_map (z := 0) hj] at hz
      cases hz
      have lt : (C.getD i []).getD j 0 < C.length := inb i _ (getD_mem hj)
      have hold4 := hold3.step s4
      refine s_augLE hold4 rfl rfl (by rw [cntL_len]; exact lt) s4.gh ⟨G4, s4.g, hold4.ex s4.gh, hold4.stp (s3.trans s4) na, ?_, _, rfl⟩
      have e : (cntL C.length ((C.take i).flatten ++ (C.getD i []).take j)).getD ((C.getD i []).getD j 0) 0 = ((((C.take i).flatten ++ (C.getD i []).take j).count ((C.getD i []).getD j 0) : Nat) : Int) := by
        rw [List.getD_eq_getElem?_getD, cntL_get lt] <;> rfl
      rw [e, take_snoc (z := 0) hj, ← List.append_assoc, cntL_snoc lt]
      exact hold4.put
    · rintro σ' G3 H3 g3 gh3 ⟨s3, hold3, l3, rfl⟩
      refine ⟨G3, s2.g.trans g3, gh3, s3, ?_, _, _, rfl⟩
      rw [List.length_map, List.take_length] at hold3
      rw [flat_next hi]
      exact hold3
  · rintro σ' G2 H2 g1 gh ⟨s0, hold, l1, l2, rfl⟩
    rw [List.length_map, List.take_length, ← aheadK_cnt] at hold
    have hc2 := hc.up (s1.g.trans g1)
    have la : (aheadK C).length = C.length := by rw [aheadK_cnt, cntL_len]
    refine s_set (lc_mut (n := C.length) (M := upd Z pa (.lst (iv (aheadK C)))) (fun b => decide ((aheadK C).getD b 0 = 0)) (fun b => .int (b : Int)) (src_range1 ((gd_lenL (gd_var rfl hc2)).is (by rw [lc])) (by omega)) (by omega) (fun b G3 z hb e3 hz => ⟨_, tg_name, rfl, gt_test ((gd_eq (gd_ixH rfl upd_same (gd_var rfl hz) (by omega)) gd_int rfl rfl).is ?_), fun _ => gd_var rfl hz⟩) H2 hold.one gh _ fun po us G3 H3 s3 no go ho du => ?_)
    · rw [eqv_int]
      congr 1
    rw [kept1_nats] at du
    have hus := nv_of du
    subst hus
    have hold3 := hold.step s3
    have holdo : Hold G3 H3 po (nv (initK C).2) := ⟨go, ho⟩
    have ne : po ≠ pa := fun e => by
      rw [e] at no
      have := hold.h
      rw [no] at this
      cases this
    have no' : H po = none := fresh_of s0.h no
    refine s_set ?_
    refine s_while C.length (fun t σ G' H' => Stp G H G' H' ∧ t ≤ (runK C t).2.length ∧ Hold G' H' pa (iv (runK C t).1) ∧ Hold G' H' po (nv (runK C t).2) ∧ ∃ l1 l2, σ = [some v, some (.ref pa), l1, l2, some (.ref po), some (.int t)]) s3.gh ⟨s0.trans s3, Nat.zero_le _, hold3, holdo, _, _, rfl⟩ ?_
    rintro t σ' G4 H4 tn gh4 ⟨s4, tl, ha4, ho4, l1, l2, rfl⟩
    have lo := orderK_le inb t
    obtain ⟨U, I⟩ := runK_inv inb t
    refine ⟨decide ((t : Int) < ((runK C t).2.length : Nat)), upd Z po (.lst (nv (runK C t).2)), ho4.one, gt_test ((gd_B0 (gd_var rfl (.int t)) (gd_lenH rfl upd_same)).is ?_), fun hb => ?_, fun hb => ?_⟩
    · rw [nv_len]
    · have lt : t < (runK C t).2.length := by
        have := of_decide_eq_true hb
        omega
      refine ⟨by omega, fun G5 H5 s5 => ?_⟩
      have hv1 : (runK C t).2.getD t 0 < C.length := I.lt _ (getD_mem lt)
      have ha5 := ha4.step s5
      have ho5 := ho4.step s5
      have hc5 := hc.up (s4.trans s5).g
      refine s_for (M := upd Z po (.lst (nv (runK C t).2))) (fun j σ G' H' => Stp G H G' H' ∧ Hold G' H' pa (iv (((C.getD ((runK C t).2.getD t 0) []).take j).foldl stepK (runK C t)).1) ∧ Hold G' H' po (nv (((C.getD ((runK C t).2.getD t 0) []).take j).foldl stepK (runK C t)).2) ∧ ∃ l1 l2, σ = [some v, some (.ref pa), l1, l2, some (.ref po), some (.int t)])
        ho5.one s5.gh (src_list (gd_ixL (gd_var rfl hc5) (gd_ixHn rfl upd_same (gd_var rfl (.int t)) lt) (atI_map (a := C.getD ((runK C t).2.getD t 0) []) (getD_get hv1)))) (fun G6 H6 s6 => ⟨(s4.trans s5).trans s6, ?_, ?_, _, _, rfl⟩) ?_ ?_
      · exact ha5.step s6
      · exact ho5.step s6
      · rintro j σ' G6 H6 z G7 H7 hj g6 gh6 ⟨s6, ha6, ho6, l1, l2, rfl⟩ s7 hz
        rw [List.length_map] at hj
        rw [getD_map (z := 0) hj] at hz
        cases hz
        obtain ⟨k1, k2⟩ := foldK_len ((C.getD ((runK C t).2.getD t 0) []).take j) (runK C t)
        have e := foldK_next (st := runK C t) hj
        generalize (((C.getD ((runK C t).2.getD t 0) []).take j).foldl stepK (runK C t)) = st at ha6 ho6 k1 k2 e
        have hp : (C.getD ((runK C t).2.getD t 0) []).getD j 0 < C.length := inb _ _ (getD_mem hj)
        have small := l1000 _ (getD_mem (z := []) hv1)
        rw [List.length_take] at k2
        generalize (C.getD ((runK C t).2.getD t 0) []).getD j 0 = c at hp e
        have ha7 := ha6.step s7
        have ho7 := ho6.step s7
        have ne7 : pa ≠ po := fun q => ne q.symm
        refine s_augL ha7 rfl rfl (by rw [k1, I.len]; exact hp) s7.gh ?_
        have ha8 : Hold G7 (upd H7 pa (.lst (iv (st.1.set c (st.1.getD c 0 - 1))))) pa _ := ha7.put
        have ho8 := ho7.other (o := .lst (iv (st.1.set c (st.1.getD c 0 - 1)))) ne
        have s8 := ha7.stp (o := .lst (iv (st.1.set c (st.1.getD c 0 - 1)))) (s6.trans s7) na
        have gh8 := ha7.ex (o := .lst (iv (st.1.set c (st.1.getD c 0 - 1)))) s7.gh
        have lc8 : c < (st.1.set c (st.1.getD c 0 - 1)).length := by
          rw [List.length_set, k1, I.len]
          exact hp
        have set8 : (st.1.set c (st.1.getD c 0 - 1)).getD c 0 = st.1.getD c 0 - 1 := by
          rw [List.getD_eq_getElem?_getD, List.getElem?_set_self (by rw [k1, I.len]; exact hp)] <;> rfl
        refine s_ifE (M := upd Z pa (.lst (iv (st.1.set c (st.1.getD c 0 - 1))))) (b := decide (st.1.getD c 0 - 1 = 0)) ha8.one gh8 (gt_test ((gd_eq (gd_ixH rfl upd_same (gd_var rfl (.int (c : Int))) lc8) gd_int rfl rfl).is ?_)) (fun hb G9 H9 s9 => ?_) (fun hb G9 H9 s9 => ?_)
        · rw [set8, eqv_int]
          congr 1
        · have hb' : st.1.getD c 0 - 1 = 0 := of_decide_eq_true hb
          refine s_appE (M := Z) exZ s9.gh (ho8.step s9) rfl (by rw [nv_len]; omega) (gd_var rfl (.int (c : Int))) fun w G10 H10 s10 ho10 hw => ?_
          cases hw
          have ha10 := ((ha8.step s9).step s10)
          refine ⟨G10, s7.g.trans (s9.g.trans s10.g), ho10.ex s10.gh, ho10.stp ((s8.trans s9).trans s10) no', ?_, ?_, _, _, rfl⟩
          · rw [e]
            exact ha10.other ne7
          · rw [e]
            unfold stepK
            simp only
            rw [if_pos hb', nv_snoc]
            exact ho10.put
        · have hb' : ¬ st.1.getD c 0 - 1 = 0 := of_decide_eq_false hb
          refine ⟨G9, s7.g.trans s9.g, s9.gh, s8.trans s9, ?_, ?_, _, _, rfl⟩
          · rw [e]
            exact ha8.step s9
          · rw [e]
            unfold stepK
            simp only
            rw [if_neg hb']
            exact ho8.step s9
      · rintro σ' G6 H6 g6 gh6 ⟨s6, ha6, ho6, l1, l2, rfl⟩
        rw [List.length_map, List.take_length] at ha6 ho6
        have e : runK C (t + 1) = (C.getD ((runK C t).2.getD t 0) []).foldl stepK (runK C t) := by
          rw [runK_succ]
          unfold turnK procK
          rw [if_pos lt]
        rw [← e] at ha6 ho6
        refine s_augE rfl ⟨G6, gh6, s6, ?_, ha6, ho6, _, _, rfl⟩
        have := foldK_grow (C.getD ((runK C t).2.getD t 0) []) (runK C t)
        rw [e]
        omega
    · have ge : (runK C t).2.length ≤ t := by
        have := of_decide_eq_false hb
        omega
      have eo := orderK_at inb ge (by omega)
      intro G5 H5 s5
      have ho5 := ho4.step s5
      rw [← eo] at ho5
      have s6 := ho5.know (s4.trans s5) no'
      have gh6 := s6.gh
      have hc6 := hc.up s6.g
      have do6 : Dx (upd G5 po (.lst (nv (orderK C)))) (.ref po) (nD (orderK C)) := .lst upd_same (dxa_nv _)
      refine s_ret (M := upd Z po (.lst (nv (orderK C)))) ho5.one gh6 (gd_tup (ga_cons (gd_var rfl do6) (ga_cons (gd_lc (n := C.length) (fun b => decide (b ∉ orderK C)) (fun b => .int (b : Int)) (src_range1 ((gd_lenL (gd_var rfl hc6)).is (by rw [lc])) (by omega)) (by omega) fun b G7 z hb7 e7 hz => ⟨_, tg_name, rfl, gt_test (gd_notInH rfl upd_same (gd_var rfl hz)), fun _ => gd_var rfl hz⟩) ga_nil)) (by simp)) (q.from s6)
end
end Sg

/-! arrows_by, stands_by -/
namespace Sg
open PySem PySem.Spec PyProof.Rows L2
open Evl (Ex)
/-- p, known, lists the lists at as, which may change; G0, H0 stood before them -/
structure Rws (G0 H0 G H : Hp) (p : Addr) (as : List Addr) (bs : List (List Nat)) : Prop where
  s : Stp G0 H0 G H
  gp : G p = some (.lst (as.map V.ref))
  nd : as.Nodup
  len : as.length = bs.length
  fr : ∀ a ∈ as, H0 a = none ∧ G a = none
  at_ : ∀ i a, as[i]? = some a → H a = some (.lst (nv (bs.getD i [])))
section
variable {G0 H0 G H G' H' : Hp} {p : Addr} {as : List Addr} {bs : List (List Nat)}
theorem Rws.step (r : Rws G0 H0 G H p as bs) (s : Stp G H G' H') : Rws G0 H0 G' H' p as bs :=
  ⟨r.s.trans s, s.g _ _ r.gp, r.nd, r.len, fun a ha => ⟨(r.fr a ha).1, by
    obtain ⟨i, hi, rfl⟩ := List.getElem_of_mem ha
    exact (s.fr _ (nn (r.at_ i _ (List.getElem?_eq_getElem hi)))).trans (r.fr _ ha).2⟩, fun i a ha => s.h _ _ (r.at_ i a ha)⟩
theorem Rws.from {G1 H1 : Hp} (r : Rws G0 H0 G H p as bs) (s : Stp G1 H1 G0 H0) : Rws G1 H1 G H p as bs :=
  ⟨s.trans r.s, r.gp, r.nd, r.len, fun a ha => ⟨fresh_of s.h (r.fr a ha).1, (r.fr a ha).2⟩, r.at_⟩
/-- one of them grows -/
theorem Rws.set (r : Rws G0 H0 G H p as bs) {x : Nat} {a : Addr} (ha : as[x]? = some a) (l : List Nat) : Rws G0 H0 G (upd H a (.lst (nv l))) p as (bs.set x l) := by
  have lt : x < as.length := (List.getElem?_eq_some_iff.mp ha).1
  have hm : a ∈ as := List.mem_of_getElem? ha
  refine ⟨r.s.mut (r.fr a hm).1 (r.fr a hm).2, r.gp, r.nd, by rw [List.length_set]; exact r.len, r.fr, fun i b hb => ?_⟩
  by_cases e : i = x
  · subst e
    rw [hb] at ha
    cases ha
    rw [upd_same, List.getD_eq_getElem?_getD, List.getElem?_set_self (by rw [← r.len]; exact lt)] <;> rfl
  · have ne : b ≠ a := by
      rintro rfl
      obtain ⟨l1, e1⟩ := List.getElem?_eq_some_iff.mp hb
      obtain ⟨l2, e2⟩ := List.getElem?_eq_some_iff.mp ha
      exact e ((List.getElem_inj (h₀ := l1) (h₁ := l2) r.nd).mp (e1.trans e2.symm))
    rw [upd_ne ne, r.at_ i b hb, List.getD_eq_getElem?_getD, List.getD_eq_getElem?_getD, List.getElem?_set_ne (fun q => e q.symm)]
theorem Rws.ex (r : Rws G0 H0 G H p as bs) {x : Nat} {a : Addr} (ha : as[x]? = some a) {o : HO} (e : Ex G H) : Ex G (upd H a o) := e.mut (r.fr a (List.mem_of_getElem? ha)).2
/-- all become known -/
theorem know_all {G0 H0 H : Hp} : ∀ (l : List (Addr × List Nat)) (G : Hp), Stp G0 H0 G H → (l.map (·.1)).Nodup → (∀ z ∈ l, H0 z.1 = none ∧ G z.1 = none ∧ H z.1 = some (.lst (nv z.2))) →
    ∃ G', Stp G0 H0 G' H ∧ Ex G G' ∧ ∀ z ∈ l, G' z.1 = some (.lst (nv z.2))
  | [], G, s, _, _ => ⟨G, s, Ex.refl _, fun z hz => nomatch hz⟩
  | z :: l, G, s, nd, h => by
    obtain ⟨h0, hg, hh⟩ := h z List.mem_cons_self
    have nd' := List.nodup_cons.mp nd
    obtain ⟨G', s', e', k'⟩ := know_all l (upd G z.1 (.lst (nv z.2))) (s.know h0 hg hh) nd'.2 fun y hy => by
      obtain ⟨a1, a2, a3⟩ := h y (List.mem_cons_of_mem _ hy)
      refine ⟨a1, ?_, a3⟩
      have ne : y.1 ≠ z.1 := fun e => nd'.1 (List.mem_map.mpr ⟨y, hy, e⟩)
      exact (upd_ne ne).trans a2
    refine ⟨G', s', (ex_upd hg).trans e', fun y hy => ?_⟩
    rcases List.mem_cons.mp hy with rfl | hy
    · exact e' _ _ upd_same
    · exact k' y hy
theorem zip_fst {α β : Type} : ∀ {l : List α} {m : List β}, l.length = m.length → (l.zip m).map (·.1) = l
  | [], [], _ => rfl
  | a :: l, b :: m, h => by
    show a :: (l.zip m).map (·.1) = a :: l
    rw [zip_fst (Nat.succ.inj h)]
theorem Rws.known (r : Rws G0 H0 G H p as bs) : ∃ G', Stp G0 H0 G' H ∧ Ex G G' ∧ Dx G' (.ref p) (belD bs) := by
  have hz : ∀ z ∈ as.zip bs, ∃ i : Nat, as[i]? = some z.1 ∧ bs.getD i [] = z.2 := fun z hz => by
    obtain ⟨i, hi, e⟩ := List.getElem_of_mem hz
    rw [List.getElem_zip] at e
    rw [List.length_zip] at hi
    refine ⟨i, ?_, ?_⟩
    · rw [← e, List.getElem?_eq_getElem (by omega)]
    · rw [← e, List.getD_eq_getElem?_getD, List.getElem?_eq_getElem (by omega)] <;> rfl
  obtain ⟨G', s', e', k'⟩ := know_all (as.zip bs) G r.s (by rw [zip_fst r.len]; exact r.nd) fun z hm => by
    obtain ⟨i, h1, h2⟩ := hz z hm
    obtain ⟨f1, f2⟩ := r.fr z.1 (List.mem_of_getElem? h1)
    refine ⟨f1, f2, ?_⟩
    rw [← h2]
    exact r.at_ i _ h1
  refine ⟨G', s', e', .lst (e' _ _ r.gp) ?_⟩
  have go : ∀ (as : List Addr) (bs : List (List Nat)), as.length = bs.length → (∀ z ∈ as.zip bs, G' z.1 = some (.lst (nv z.2))) → DxA G' (as.map V.ref) (bs.map nD) := by
    intro as
    induction as with
    | nil =>
      intro bs h _
      cases bs with
      | nil => exact .nil
      | cons b bs => cases h
    | cons a as ih =>
      intro bs h k
      cases bs with
      | nil => cases h
      | cons b bs => exact .cons (.lst (k (a, b) List.mem_cons_self) (dxa_nv b)) (ih bs (Nat.succ.inj h) fun z hz => k z (List.mem_cons_of_mem _ hz))
  exact go as bs r.len k'
end
section
variable {K : PySem.W.Frag} {σ : L2.St} {M G H G0 H0 : Hp} {te tx : TE} {D : Ends} {tz : TS} {p : Addr} {as : List Addr} {bs : List (List Nat)}
/-- l[x].append(y) -/
theorem s_appR {i : Nat} {x y : Nat} (r : Rws G0 H0 G H p as bs) (hG : Ex G H) (h : σ[i]? = some (some (.ref p))) (hx : Gd tx σ Z G (.int x)) (hy : Gd te σ Z G (.int y)) (lx : x < bs.length) (small : (bs.getD x []).length < 100000)
    (k : ∀ G' H', Ex G G' → Ex G' H' → Rws G0 H0 G' H' p as (bs.set x (bs.getD x [] ++ [y])) → tz D σ H') : tSeq (tDrop (tBM K "list" rAppend (tOp (rIx2 K) (tVar i) tx) (tCons te tNil))) tz D σ H := by
  have ha : as[x]? = some (as[x]'(by rw [r.len]; exact lx)) := List.getElem?_eq_getElem _
  refine ⟨_, h, hx H exZ hG _ fun v G1 H1 s1 d1 => ?_⟩
  cases d1
  have r1 := r.step s1
  refine .inl ⟨p, as.map V.ref, x, _, rfl, rfl, SqL.of (s1.gh _ _ r1.gp), atI_map ha, .inl ⟨rfl, _, SqL.of (r1.at_ x _ ha)⟩, (hy.mono s1.g) H1 exZ s1.gh _ fun w G2 H2 s2 d2 => ?_⟩
  cases d2
  have r2 := r1.step s2
  refine ⟨_, nv (bs.getD x []), _, rfl, rfl, r2.at_ x _ ha, szl (by rw [nv_len]; exact small), ?_⟩
  rw [← nv_snoc]
  exact k G2 _ (s1.g.trans s2.g) (r2.ex ha s2.gh) (r2.set ha _)
theorem s_appRE {i : Nat} {x y : Nat} (r : Rws G0 H0 G H p as bs) (hG : Ex G H) (h : σ[i]? = some (some (.ref p))) (hx : Gd tx σ Z G (.int x)) (hy : Gd te σ Z G (.int y)) (lx : x < bs.length) (small : (bs.getD x []).length < 100000)
    (k : ∀ G' H', Ex G G' → Ex G' H' → Rws G0 H0 G' H' p as (bs.set x (bs.getD x [] ++ [y])) → D.nx σ H') : tDrop (tBM K "list" rAppend (tOp (rIx2 K) (tVar i) tx) (tCons te tNil)) D σ H := s_appR (tz := tNext) (D := D) r hG h hx hy lx small k
/-- x = [[] for .. in ..] -/
theorem s_rows {i j : Nat} {n : Nat} {it : Nat → PyData} {wi : TI} (hM : Ex M H) (hG : Ex G H) (hs : Src wi σ M G n it) (hn : n ≤ 40000) (k : ∀ p as G' H', Rws G H G' H' p as (List.replicate n []) → Ex G' H' → tz D (σ.set i (some (.ref p))) H') :
    tSeq (tAsg (tLc wi (gName j) tYes (tLst tNil) [j]) (gName i)) tz D σ H := by
  refine hs H hM hG _ fun J G1 H1 s1 hJ Dl hD => ?_
  let Wm : Nat → Hp → Prop := fun m H' => ∃ (G' : Hp) (as : List Addr), Stp G1 H1 G' H' ∧ G' Dl = none ∧ H' Dl = some (.lst (as.map V.ref)) ∧ as.length = m ∧ as.Nodup ∧ ∀ a ∈ as, a ≠ Dl ∧ H1 a = none ∧ G' a = none ∧ H' a = some (.lst [])
  refine ⟨fun m c H' => c = n - m ∧ m ≤ n ∧ Wm m H',
    ⟨n, by omega, Nat.zero_le _, G1, [], (Stp.refl s1.gh).new hD, fresh_of s1.gh hD, upd_same, rfl, List.nodup_nil, fun a ha => nomatch ha⟩, ?_⟩
  rintro m c H2 ⟨rfl, hm, G2, as, s2, gd, hd, la, nd, al⟩
  obtain ⟨hstop, hgo⟩ := hJ m G2 H2 s2.g s2.gh
  by_cases lt : m < n
  · obtain ⟨hgo1, hy⟩ := hgo lt
    refine .inr ⟨hgo1, Wm (m + 1), fun H' h' => ⟨n - (m + 1), by omega, rfl, lt, h'⟩, fun x H3 y => ?_⟩
    obtain ⟨G3, s3, d3⟩ := hy x H3 y
    refine ⟨?_, ?_⟩
    · show ((((σ.set j none)).set j (some x)).set j none) = σ.set j none
      rw [List.set_set, List.set_set]
    · refine iteT (B := Wm (m + 1) H3) ⟨Nat.zero_le _, fun a ha => ⟨as.map V.ref, ?_, szl ?_, ?_⟩⟩
      · have ne : Dl ≠ a := by
          rintro rfl
          have := s3.h _ _ hd
          rw [ha] at this
          cases this
        rw [upd_ne ne]
        exact s3.h _ _ hd
      · rw [List.length_map]
        omega
      · have hn : ∀ b ∈ as, b ≠ a := by
          rintro b hb rfl
          have := s3.h _ _ (al b hb).2.2.2
          rw [ha] at this
          cases this
        have neD : a ≠ Dl := by
          rintro rfl
          have := s3.h _ _ hd
          rw [ha] at this
          cases this
        have g3 : G3 Dl = none := (s3.fr Dl (nn hd)).trans gd
        refine ⟨G3, as ++ [a], ((s2.trans s3).new ha).mut hD g3, g3, by rw [upd_same, List.map_append] <;> rfl, by rw [List.length_append, la] <;> rfl, ?_, ?_⟩
        · exact List.nodup_append.mpr ⟨nd, List.nodup_cons.mpr ⟨(fun z => nomatch z), List.nodup_nil⟩, fun b hb c hc => by
            rw [List.mem_singleton.mp hc]
            exact hn b hb⟩
        · intro b hb
          rcases List.mem_append.mp hb with hb | hb
          · obtain ⟨q1, q2, q3, q4⟩ := al b hb
            refine ⟨q1, q2, (s3.fr b (nn q4)).trans q3, ?_⟩
            rw [upd_ne q1, upd_ne (hn b hb)]
            exact s3.h _ _ q4
          · obtain rfl := List.mem_singleton.mp hb
            refine ⟨neD, fresh_of (s2.trans s3).h ha, fresh_of s3.gh ha, ?_⟩
            rw [upd_ne neD, upd_same]
  · have e : m = n := by omega
    subst e
    refine .inl ⟨hstop rfl, ?_⟩
    refine k Dl as (upd G2 Dl (.lst (as.map V.ref))) H2 ⟨(s1.trans s2).know (fresh_of s1.h hD) gd hd, upd_same, nd, by rw [la, List.length_replicate], fun a ha => ?_, fun i a ha => ?_⟩ ((s1.trans s2).know (fresh_of s1.h hD) gd hd).gh
    · obtain ⟨q1, q2, q3, q4⟩ := al a ha
      exact ⟨fresh_of s1.h q2, (upd_ne q1).trans q3⟩
    · obtain ⟨q1, q2, q3, q4⟩ := al a (List.mem_of_getElem? ha)
      rw [q4]
      have e : (List.replicate m ([] : List Nat)).getD i [] = [] := by
        rw [List.getD_eq_getElem?_getD, List.getElem?_replicate]
        split <;> rfl
      rw [e]
      rfl
/-- (x, y), w -/
theorem tg_nest {G1 : Hp} {i j k : Nat} {v : V} {σ1 : L2.St} {a b c : PyData} (h : Dx G1 v (.tuple [.tuple [a, b], c])) : ∃ x y z, Dx G1 x a ∧ Dx G1 y b ∧ Dx G1 z c ∧ ∀ H (Q : L2.St → Hp → Prop), Ex G1 H → Q (((σ1.set i (some x)).set j (some y)).set k (some z)) H →
    gTup K 2 (gCons (gTup K 2 (gCons (gName i) (gCons (gName j) gNil))) (gCons (gName k) gNil)) v σ1 H Q := by
  obtain ⟨p, xs, rfl, gp, hx⟩ := h.tup_of
  obtain ⟨u, z, rfl, h1, h3⟩ := hx.two
  obtain ⟨p1, ys, rfl, gp1, hy⟩ := h1.tup_of
  obtain ⟨x, y, rfl, d1, d2⟩ := hy.two
  exact ⟨x, y, z, d1, d2, h3, fun H Q hG q => ⟨p, _, rfl, SqT.of (hG _ _ gp), rfl, _, _, rfl, p1, _, rfl, SqT.of (hG _ _ gp1), rfl, x, [y], rfl, y, [], rfl, rfl, z, [], rfl, rfl, q⟩⟩
/-- (x, y) = .. -/
theorem s_asg2 {i j : Nat} {a b : PyData} (hM : Ex M H) (hG : Ex G H) (h : Gd te σ M G (.tuple [a, b])) (k : ∀ x y G' H', Stp G H G' H' → Dx G' x a → Dx G' y b → tz D ((σ.set i (some x)).set j (some y)) H') :
    tSeq (tAsg te (gTup K 2 (gCons (gName i) (gCons (gName j) gNil)))) tz D σ H := h H hM hG _ fun v G1 H1 s1 d1 => by
  obtain ⟨x, y, h1, h2, h3⟩ := tg_two (K := K) (i := i) (j := j) (σ1 := σ) d1
  exact h3 H1 _ s1.gh (k x y G1 H1 s1 h1 h2)
end
theorem bel_small (m : Nat) (A : List (Nat × Nat)) (a : Nat) : ((belowOf m A).getD a []).length ≤ A.length := by
  by_cases h : a < m
  · rw [belowOf_getD h, List.length_map]
    exact List.length_filter_le _ _
  · rw [List.getD_eq_getElem?_getD, List.getElem?_eq_none (by rw [belowOf_len]; omega)]
    exact Nat.zero_le _
theorem arr1_len (W : Web) (t : Nat × Nat) (w : Int) : (arr1 W t w).length = 2 := by
  unfold arr1
  split <;> rfl
/-- the arrows of the first i ties -/
def arrsTo (W : Web) (C : List Int) (i : Nat) : List (Nat × Nat) := (((ties W).zip C).take i).flatMap fun p => arr1 W p.1 p.2
theorem arrsTo_len (W : Web) (C : List Int) (i : Nat) : (arrsTo W C i).length ≤ 2 * i := by
  unfold arrsTo
  have go : ∀ l : List ((Nat × Nat) × Int), (l.flatMap fun p => arr1 W p.1 p.2).length = 2 * l.length := by
    intro l
    induction l with
    | nil => rfl
    | cons p l ih => rw [List.flatMap_cons, List.length_append, ih, arr1_len, List.length_cons]; omega
  rw [go, List.length_take]
  omega
theorem arrsTo_next {W : Web} {C : List Int} {i : Nat} (hC : C.length = (ties W).length) (hi : i < (ties W).length) : arrsTo W C (i + 1) = arrsTo W C i ++ arr1 W ((ties W).getD i (0, 0)) (C.getD i 0) := by
  have lz : i < ((ties W).zip C).length := by
    rw [List.length_zip]
    omega
  unfold arrsTo
  rw [take_snoc (z := ((0, 0), 0)) lz, List.flatMap_append]
  have e : ((ties W).zip C).getD i ((0, 0), 0) = ((ties W).getD i (0, 0), C.getD i 0) := by
    rw [List.getD_eq_getElem?_getD, List.getElem?_eq_getElem lz, List.getD_eq_getElem?_getD, List.getElem?_eq_getElem hi, List.getD_eq_getElem?_getD, List.getElem?_eq_getElem (by omega)]
    simp
  rw [e]
  simp
theorem arrsTo_all {W : Web} {C : List Int} (hC : C.length = (ties W).length) : arrsTo W C (ties W).length = arrs W C := by
  unfold arrsTo arrs
  rw [List.take_of_length_le (by rw [List.length_zip]; omega)]
def PArrows (ds : List PyData) (d : PyData) : Prop := ∃ W C, WebOk W ∧ ChOk W C ∧ ds = [webD W, chD C] ∧ d = belD (belowW W C)
theorem dx_nat {G : Hp} {n : Nat} {i : Int} (e : i = n) : Dx G (.int i) (.int n) := by
  rw [e]
  exact .int _
section
variable {P : Program} {w : World} {K : PySem.W.Frag} {mg : Str → Option Value} {base : Heap} {f : Addr} {fd : FuncData}
theorem scArrowsBy : FnScope ["web", "choice", "many", "below", "x", "y", "way", "far", "mirrored_far", "place"] ["web", "choice"] (defScope sArrowsBy) := ⟨rfl, rfl, rfl, by decide +kernel, rfl, by decide +kernel, by decide +kernel⟩
theorem ok_arrows_by (D : Df K mg "arrows_by" sArrowsBy ["web", "choice"] f fd) (B : Bi mg) (c_ties_of : Has P w K mg base 1 "ties_of" (Spd PTies)) : FnOk P w K mg base CX0 2 f fd ["web", "choice"] (Spd PArrows) := by
  refine D.F.ok scArrowsBy (Spd.len (n := 2) fun ds d ⟨_, _, _, _, e, _⟩ => by rw [e]; rfl) (fun cdv A outer s H vs Q E hr h => ?_)
  obtain ⟨G, ds, d, hG, hv, ⟨W, C, ok, hC, rfl, rfl⟩, q⟩ := h
  obtain ⟨v, u, rfl, hw, hc⟩ := hv.two
  refine ⟨_, PSs.nox (pss_cons (ps_set (i := 2) scArrowsBy.nd rfl (.inl rfl) (pe_callB (call_lenK (K := K) rfl) (by rfl) B.len bb_len (pa_cons (pv 0) pa_nil))) (pss_cons (ps_setLc (i := 3) (own := [("place", 9)]) rfl scArrowsBy.nd rfl rfl (sw_true rfl rfl rfl (by decide +kernel)) (pi_range1 (by rfl) B.range (pa_cons (pe_op op_times pe_int (pv 2)) pa_nil)) (blkOk_by (own := [("place", 9)]) (N := ["web", "choice", "many", "below", "x", "y", "way", "far", "mirrored_far", "place"]) (sc := defScope sArrowsBy) (by decide +kernel)) (fun _ _ _ _ _ => (pg_name (i := 9) scArrowsBy.nd rfl (.inl rfl))) (fun _ _ _ _ _ => pts_nil) (fun _ _ _ _ _ => (pe_lst pa_nil))) (pss_cons (ps_for PassesOwn.never rfl (pi_zipLT (K := K) rfl (by rfl) B.zip (pa_cons (pe_has c_ties_of hr (by decide) (by rfl) (pa_cons (pv 0) pa_nil)) (pa_cons (pv 1) pa_nil))) (pg_tupK (K := K) rfl rfl (pgs_cons (pg_tupK (K := K) rfl rfl (pgs_cons (pg_name (i := 4) scArrowsBy.nd rfl (.inl rfl)) (pgs_cons (pg_name (i := 5) scArrowsBy.nd rfl (.inl rfl)) pgs_nil))) (pgs_cons (pg_name (i := 6) scArrowsBy.nd rfl (.inl rfl)) pgs_nil))) (pss_cons (ps_asg (pe_ifExp (pt_cmpR (op_eqDK (K := K) rfl hr.units) (pe_ix (ix_twoK (K := K) rfl) (pe_ix (ix_twoK (K := K) rfl) (pv 0) (pv 4) (fun _ _ => rfl)) (pv 5) (fun _ _ => rfl)) pe_int (nomark _)) (pe_tup (pa_cons (pv 5) (pa_cons (pe_op (op_plusK (K := K) rfl) (pv 5) (pv 2)) pa_nil))) (pe_tup (pa_cons (pe_op (op_plusK (K := K) rfl) (pv 5) (pv 2)) (pa_cons (pv 5) pa_nil)))) (pg_tupK (K := K) rfl rfl (pgs_cons (pg_name (i := 7) scArrowsBy.nd rfl (.inl rfl)) (pgs_cons (pg_name (i := 8) scArrowsBy.nd rfl (.inl rfl)) pgs_nil)))) (pss_one (ps_if (pt_cmpR (op_eqDK (K := K) rfl hr.units) (pv 6) pe_int (nomark _)) (pss_cons (ps_expr (pe_bm PySem.F.plainAttrs_list PySem.F.slot_list_append PySem.F.type_list_append mt_append (pe_ix (ix_twoK (K := K) rfl) (pv 3) (pv 4) (fun _ _ => rfl)) (pa_cons (pv 7) pa_nil))) (pss_one (ps_expr (pe_bm PySem.F.plainAttrs_list PySem.F.slot_list_append PySem.F.type_list_append mt_append (pe_ix (ix_twoK (K := K) rfl) (pv 3) (pv 8) (fun _ _ => rfl)) (pa_cons (pe_op (op_plusK (K := K) rfl) (pv 4) (pv 2)) pa_nil))))) (pss_cons (ps_expr (pe_bm PySem.F.plainAttrs_list PySem.F.slot_list_append PySem.F.type_list_append mt_append (pe_ix (ix_twoK (K := K) rfl) (pv 3) (pv 7) (fun _ _ => rfl)) (pa_cons (pv 4) pa_nil))) (pss_one (ps_expr (pe_bm PySem.F.plainAttrs_list PySem.F.slot_list_append PySem.F.type_list_append mt_append (pe_ix (ix_twoK (K := K) rfl) (pv 3) (pe_op (op_plusK (K := K) rfl) (pv 4) (pv 2)) (fun _ _ => rfl)) (pa_cons (pv 8) pa_nil))))))))) (pss_one (ps_ret (pv 3)))))), ?_⟩
  have le := ok.le
  have pos := ok.pos
  have tl := ties_len ok
  refine s_asg (M := Z) exZ hG ((gd_lenT (gd_var rfl hw)).is (by rw [List.length_map])) fun n G1 H1 s1 hn => ?_
  cases hn
  refine s_rows (n := 2 * W.length) (M := Z) (it := fun i => .int i) exZ s1.gh (src_eq (src_range1 (n := 2 * W.length) ((gd_times gd_int (gd_var rfl (.int _)) (cmul_l (by decide) (by decide))).is (by rw [Int.natCast_mul]; rfl)) (by omega)) rfl fun _ _ => rfl) (by omega) fun p as G2 H2 r2 gh2 => ?_
  have r2' := r2.from s1
  have s2 := r2'.s
  refine s_for (M := Z) (fun i σ G' H' => Rws G H G' H' p as (belowOf (2 * W.length) (arrsTo W C i)) ∧ ∃ l4 l5 l6 l7 l8, σ = [some v, some u, some (.int W.length), some (.ref p), l4, l5, l6, l7, l8, none]) exZ gh2
    (src_zipLT (gd_call (ga_cons (gd_var rfl (hw.up s2.g)) ga_nil) ⟨W, ok, rfl, rfl⟩) (gd_var rfl (hc.up s2.g)) (by rw [List.length_map, List.length_map, hC.1])) (fun G3 H3 s3 => ⟨?_, _, _, _, _, _, rfl⟩) ?_ ?_
  · rw [show arrsTo W C 0 = [] from rfl, belowOf_nil]
    exact r2'.step s3
  · rintro i σ' G3 H3 z G4 H4 hi g3 gh3 ⟨r3, l4, l5, l6, l7, l8, rfl⟩ s4 hz
    rw [List.length_map] at hi
    have hiC : i < C.length := by rw [hC.1]; exact hi
    rw [getD_map (z := (0, 0)) hi, getD_map (z := 0) hiC] at hz
    have tm : (ties W).getD i (0, 0) ∈ ties W := getD_mem hi
    have e := arrsTo_next hC.1 hi
    have wy : C.getD i 0 = 1 ∨ C.getD i 0 = -1 := hC.2 _ (getD_mem hiC)
    have lt0 := arr1_lt ok tm (C.getD i 0)
    have sm := arrsTo_len W C i
    generalize (ties W).getD i (0, 0) = t at hz tm e lt0
    generalize C.getD i 0 = way at hz e wy lt0
    obtain ⟨h1, h2, h3⟩ := mem_ties.mp tm
    obtain ⟨x, y, z', dx, dy, dz, tg⟩ := tg_nest (K := K) (i := 4) (j := 5) (k := 6) (σ1 := [some v, some u, some (.int W.length), some (.ref p), l4, l5, l6, l7, l8, none]) hz
    cases dx
    cases dy
    cases dz
    refine tg H4 _ s4.gh ?_
    have r4 := r3.step s4
    have hw4 := hw.up r4.s.g
    refine s_asg2 (M := Z) (a := .int (farOf W t)) (b := .int (nearOf W t)) exZ s4.gh (gd_if (b := decide (sg W t.1 t.2 = 1)) (gt_test ((gd_eq (gd_web ok (by omega) h2 (gd_var rfl hw4) (gd_var rfl (.int _)) (gd_var rfl (.int _))) gd_int rfl rfl).is ?_)) (fun hb => ?_) (fun hb => ?_)) fun a b G5 H5 s5 da db => ?_
    · rw [eqv_int]
      congr 1
    · have hb := of_decide_eq_true hb
      refine (gd_tup (ga_cons (gd_var rfl (.int (t.2 : Int))) (ga_cons (gd_plus (gd_var rfl (.int (t.2 : Int))) (gd_var rfl (.int (W.length : Int)))) ga_nil)) (by simp)).is ?_
      unfold farOf nearOf
      rw [if_pos hb, if_pos hb, Int.natCast_add]
    · have hb := of_decide_eq_false hb
      refine (gd_tup (ga_cons (gd_plus (gd_var rfl (.int (t.2 : Int))) (gd_var rfl (.int (W.length : Int)))) (ga_cons (gd_var rfl (.int (t.2 : Int))) ga_nil)) (by simp)).is ?_
      unfold farOf nearOf
      rw [if_neg hb, if_neg hb, Int.natCast_add]
    · cases da
      cases db
      have r5 := r4.step s5
      have lenB : ∀ A, (belowOf (2 * W.length) A).length = 2 * W.length := belowOf_len _
      refine s_ifE (M := Z) (b := decide (way = 1)) exZ s5.gh (gt_test ((gd_eq (gd_var rfl (.int way)) gd_int rfl rfl).is ?_)) (fun hb G6 H6 s6 => ?_) (fun hb G6 H6 s6 => ?_)
      · rw [eqv_int]
        congr 1
      · have hb := of_decide_eq_true hb
        subst hb
        have ea : arr1 W t 1 = [(t.1, farOf W t), (nearOf W t, t.1 + W.length)] := if_pos rfl
        rw [ea] at e lt0
        have l1 := (lt0 _ List.mem_cons_self)
        have l2 := (lt0 _ (List.mem_cons_of_mem _ List.mem_cons_self))
        have r6 := r5.step s6
        refine s_appR r6 s6.gh rfl (gd_var rfl (.int (t.1 : Int))) (gd_var rfl (.int (farOf W t : Int))) (by rw [lenB]; exact l1.1) (by have := bel_small (2 * W.length) (arrsTo W C i) t.1; omega) fun G7 H7 g7 gh7 r7 => ?_
        rw [← belowOf_snoc l1.1] at r7
        refine s_appRE (y := t.1 + W.length) r7 gh7 rfl (gd_var rfl (.int (nearOf W t : Int))) ((gd_plus (gd_var rfl (.int (t.1 : Int))) (gd_var rfl (.int (W.length : Int)))).is (by rw [Int.natCast_add])) (by rw [lenB]; exact l2.1) (Nat.lt_of_le_of_lt (bel_small _ _ _) (by rw [List.length_append, List.length_singleton]; omega)) fun G8 H8 g8 gh8 r8 => ?_
        rw [← belowOf_snoc l2.1, List.append_assoc] at r8
        rw [e]
        exact ⟨G8, s4.g.trans (s5.g.trans (s6.g.trans (g7.trans g8))), gh8, r8, _, _, _, _, _, rfl⟩
      · have hb := of_decide_eq_false hb
        have ea : arr1 W t way = [(farOf W t, t.1), (t.1 + W.length, nearOf W t)] := if_neg hb
        rw [ea] at e lt0
        have l1 := (lt0 _ List.mem_cons_self)
        have l2 := (lt0 _ (List.mem_cons_of_mem _ List.mem_cons_self))
        have r6 := r5.step s6
        refine s_appR r6 s6.gh rfl (gd_var rfl (.int (farOf W t : Int))) (gd_var rfl (.int (t.1 : Int))) (by rw [lenB]; exact l1.1) (by have := bel_small (2 * W.length) (arrsTo W C i) (farOf W t); omega) fun G7 H7 g7 gh7 r7 => ?_
        rw [← belowOf_snoc l1.1] at r7
        refine s_appRE (x := t.1 + W.length) r7 gh7 rfl ((gd_plus (gd_var rfl (.int (t.1 : Int))) (gd_var rfl (.int (W.length : Int)))).is (by rw [Int.natCast_add])) (gd_var rfl (.int (nearOf W t : Int))) (by rw [lenB]; exact l2.1) (Nat.lt_of_le_of_lt (bel_small _ _ _) (by rw [List.length_append, List.length_singleton]; omega)) fun G8 H8 g8 gh8 r8 => ?_
        rw [← belowOf_snoc l2.1, List.append_assoc] at r8
        rw [e]
        exact ⟨G8, s4.g.trans (s5.g.trans (s6.g.trans (g7.trans g8))), gh8, r8, _, _, _, _, _, rfl⟩
  · rintro σ' G3 H3 g3 gh3 ⟨r3, l4, l5, l6, l7, l8, rfl⟩
    rw [List.length_map, arrsTo_all hC.1] at r3
    obtain ⟨G', s', e', dd⟩ := r3.known
    exact ⟨_, rfl, q _ G' H3 s' dd⟩
end
end Sg

/-! webs: is_web, check_web, is_tie -/
namespace Sg
open PySem PySem.Spec PyProof.Rows L2
open Evl (Ex)
theorem kept1_bools (n : Nat) (f : Nat → Bool) : kept1 n (fun _ => true) (fun j => PyData.bool (f j)) = ((List.range n).map f).map PyData.bool := by
  unfold kept1
  rw [List.filter_eq_self.mpr (fun _ _ => rfl), List.map_map]
  rfl
theorem flat_bools (n : Nat) (m : Nat → Nat) (f : Nat → Nat → Bool) : ((List.range n).flatMap fun i => kept1 (m i) (fun _ => true) fun j => PyData.bool (f i j)) = ((List.range n).flatMap fun i => (List.range (m i)).map (f i)).map PyData.bool := by
  rw [List.map_flatMap]
  congr 1
  funext i
  exact kept1_bools (m i) (f i)
theorem row_at {W : Web} {i : Nat} (hi : i < W.length) : (W.map rowD).getD i .none = rowD (W.getD i []) := by
  rw [List.getD_eq_getElem?_getD, List.getElem?_map, List.getD_eq_getElem?_getD, List.getElem?_eq_getElem hi] <;> rfl
theorem ints_getD {r : List Int} {j : Nat} (hj : j < r.length) : (r.map PyData.int).getD j .none = .int (r.getD j 0) := by
  rw [List.getD_eq_getElem?_getD, List.getElem?_map, List.getD_eq_getElem?_getD, List.getElem?_eq_getElem hj] <;> rfl
theorem all_true {bs : List Bool} (h : ∀ b ∈ bs, b = true) : bs.all id = true := List.all_eq_true.mpr h
section
variable {P : Program} {w : World} {K : PySem.W.Frag} {mg : Str → Option Value} {base : Heap} {f : Addr} {fd : FuncData}
def PIsWeb (ds : List PyData) (d : PyData) : Prop := ∃ W, WebOk W ∧ ds = [webD W] ∧ d = .bool true
theorem scIsWeb : FnScope ["value", "line", "places", "even", "x", "y", "sign"] ["value"] (defScope sIsWeb) := ⟨rfl, rfl, rfl, by decide +kernel, rfl, by decide +kernel, by decide +kernel⟩
theorem ok_is_web (D : Df K mg "is_web" sIsWeb ["value"] f fd) (B : Bi mg) (c_is_between : Has P w K mg base 2 "is_between" (Spd PIsBetween)) (c_is_tuple_of : Has P w K mg base 1 "is_tuple_of" (Spd PIsTupleOf)) :
    FnOk P w K mg base CX0 3 f fd ["value"] (Spd PIsWeb) := by
  refine D.F.ok scIsWeb (Spd.len (n := 1) fun ds d ⟨_, _, e, _⟩ => by rw [e]; rfl) (fun cdv A outer s H vs Q E hr h => ?_)
  obtain ⟨G, ds, d, hG, hv, ⟨W, ok, rfl, rfl⟩, q⟩ := h
  obtain ⟨v, rfl, hw⟩ := hv.one
  refine ⟨_, PSs.nox (pss_cons (ps_if (PW.pt (pw_or (pt_not (pt_val (pe_callB (call_isiK2 (K := K) rfl) (by rfl) B.isinstance bb_isinstance (pa_cons (pv 0) (pa_cons (pe_bltn (v := .ty "tuple") (by rfl) B.tuple bb_tuple rfl) pa_nil))))) (pw_or1 (pt_not (pt_chain op_le op_le pe_int (pe_callB (call_lenK (K := K) rfl) (by rfl) B.len bb_len (pa_cons (pv 0) pa_nil)) (pe_globI (by rfl) B.most)))))) (pss_one (ps_ret pe_bl)) pss_nil) (pss_cons (ps_for PassesOwn.never rfl (pi_tupK (K := K) rfl (pv 0)) (pg_name (i := 1) scIsWeb.nd rfl (.inl rfl)) (pss_one (ps_if (PW.pt (pw_or (pt_not (pt_val (pe_has c_is_tuple_of hr (by decide) (by rfl) (pa_cons (pe_callB (call_lenK (K := K) rfl) (by rfl) B.len bb_len (pa_cons (pv 0) pa_nil)) (pa_cons (pv 1) pa_nil))))) (pw_or1 (pt_not (pt_val (pe_callB (call_allK (K := K) rfl rfl) (by rfl) B.all bb_all (pa_cons (pe_lc (own := [("sign", 6)]) rfl scIsWeb.nd (pi_tupK (K := K) rfl (pv 1)) (blkOk_by (own := [("sign", 6)]) (N := ["value", "line", "places", "even", "x", "y", "sign"]) (sc := defScope sIsWeb) (by decide +kernel)) (fun _ _ _ _ _ => (pg_name (i := 6) scIsWeb.nd rfl (.inl rfl))) (fun _ _ _ _ _ => pts_nil) (fun _ _ _ _ _ => (pe_has c_is_between hr (by decide) (by rfl) (pa_cons (pe_un un_neg pe_int) (pa_cons (pv 6) (pa_cons pe_int pa_nil)))))) pa_nil))))))) (pss_one (ps_ret pe_bl)) pss_nil))) (pss_cons (ps_set (i := 2) scIsWeb.nd rfl (.inl rfl) (pe_callTy cr_range1 (by rfl) B.range bb_range (pa_cons (pe_callB (call_lenK (K := K) rfl) (by rfl) B.len bb_len (pa_cons (pv 0) pa_nil)) pa_nil))) (pss_cons (ps_set (i := 3) scIsWeb.nd rfl (.inl rfl) (pe_callB (call_allK (K := K) rfl rfl) (by rfl) B.all bb_all (pa_cons (pe_lc2 (own := [("x", 4), ("y", 5)]) (vs1 := [5]) rfl scIsWeb.nd (pi_rngV (pv 2)) (blkOk_by (own := [("x", 4), ("y", 5)]) (N := ["value", "line", "places", "even", "x", "y", "sign"]) (sc := defScope sIsWeb) (by decide +kernel)) (by decide) (fun _ _ _ _ _ => (pg_name (i := 4) scIsWeb.nd rfl (.inl rfl))) (fun _ _ _ _ _ => pts_nil) (fun _ _ _ _ _ => (pi_range1 (by rfl) B.range (pa_cons (pv 4) pa_nil))) (fun _ _ _ _ _ => (pg_name (i := 5) scIsWeb.nd rfl (.inl rfl))) (fun _ _ _ _ _ => pts_nil) (fun _ _ _ _ _ => (pe_cmpR (op_eqDK (K := K) rfl hr.units) (pe_ix (ix_twoK (K := K) rfl) (pe_ix (ix_twoK (K := K) rfl) (pv 0) (pv 4) (fun _ _ => rfl)) (pv 5) (fun _ _ => rfl)) (pe_ix (ix_twoK (K := K) rfl) (pe_ix (ix_twoK (K := K) rfl) (pv 0) (pv 5) (fun _ _ => rfl)) (pv 4) (fun _ _ => rfl)) (nomark _)))) pa_nil))) (pss_one (ps_ret (pe_and (pv 3) (pe_one (pe_callB (call_allK (K := K) rfl rfl) (by rfl) B.all bb_all (pa_cons (pe_lc (own := [("x", 4)]) rfl scIsWeb.nd (pi_rngV (pv 2)) (blkOk_by (own := [("x", 4)]) (N := ["value", "line", "places", "even", "x", "y", "sign"]) (sc := defScope sIsWeb) (by decide +kernel)) (fun _ _ _ _ _ => (pg_name (i := 4) scIsWeb.nd rfl (.inl rfl))) (fun _ _ _ _ _ => pts_nil) (fun _ _ _ _ _ => (pe_cmpR (op_eqDK (K := K) rfl hr.units) (pe_ix (ix_twoK (K := K) rfl) (pe_ix (ix_twoK (K := K) rfl) (pv 0) (pv 4) (fun _ _ => rfl)) (pv 4) (fun _ _ => rfl)) pe_int (nomark _)))) pa_nil)))))))))), ?_⟩
  have le := ok.le
  have pos := ok.pos
  have wl : ((W.map rowD).length : Int) = W.length := by rw [List.length_map]
  have t1 : ∀ {te : TE} {σ : L2.St} {M G : Hp} {n : Int}, Gd te σ M G (.int n) → n = W.length → Gd (tChain (rI0 fun i j => .bl (decide (i ≤ j))) (rI0 fun i j => .bl (decide (i ≤ j))) (tC (.int 1)) te (tC (.int 10))) σ M G (.bool true) := fun h e => by
    subst e
    refine (gd_chain gd_int h gd_int).is ?_
    rw [decide_eq_true (by omega), decide_eq_true (by omega)]
    rfl
  refine s_unless (M := Z) exZ hG (gt_orF (gt_notT (gt_B (gd_isi (by decide) (gd_var rfl hw)))) (gt_notT (gt_test (t1 (gd_lenT (gd_var rfl hw)) wl)))) fun G1 H1 s1 => ?_
  have hw1 := hw.up s1.g
  refine s_for (M := Z) (fun i σ G' H' => Stp G H G' H' ∧ ∃ l, σ = [some v, l, none, none, none, none, none]) exZ s1.gh (src_tup (gd_var rfl hw1)) (fun _ _ t => ⟨s1.trans t, _, rfl⟩) ?_ ?_
  · rintro i σ' G' H' x G2 H2 hi g1 gh ⟨s0, l, rfl⟩ s2 hx
    rw [List.length_map] at hi
    rw [row_at hi] at hx
    have hw2 := hw1.up (g1.trans s2.g)
    have rl := row_len ok hi
    show tIfS _ _ tNext _ _ _
    refine s_unlessE (M := Z) exZ s2.gh (gt_orF (gt_notT (gt_B (gd_call (ga_cons (gd_lenT (gd_var rfl hw2)) (ga_cons (gd_var rfl hx) ga_nil)) ⟨_, _, rfl, ?_⟩))) (gt_notT (gt_B ((gd_all (bs := (List.range (W.getD i []).length).map fun _ => true) ((gd_lc (fun _ => true) (fun _ => .bool true) (src_tup (gd_var rfl hx)) ?_ fun j G3 z hj e3 hz => ?_).is ?_)).is ?_)))) fun G3 H3 s3 => ⟨G3, (s2.trans s3).g, s3.gh, (s0.trans s2).trans s3, _, rfl⟩
    · show PyData.bool true = .bool (decide (((W.getD i []).map PyData.int).length = (W.map rowD).length))
      rw [List.length_map, List.length_map, rl, decide_eq_true rfl]
    · rw [List.length_map, rl]
      omega
    · rw [List.length_map] at hj
      rw [ints_getD hj] at hz
      refine ⟨_, tg_name, rfl, gt_yes, fun _ => gd_call (ga_cons (gd_neg gd_int) (ga_cons (gd_var rfl hz) (ga_cons gd_int ga_nil))) ⟨_, _, _, rfl, ?_⟩⟩
      have e : (W.getD i []).getD j 0 = -1 ∨ (W.getD i []).getD j 0 = 0 ∨ (W.getD i []).getD j 0 = 1 := ok.ent i j
      show PyData.bool true = .bool (decide (-1 ≤ (W.getD i []).getD j 0) && decide ((W.getD i []).getD j 0 ≤ 1))
      rw [decide_eq_true (by omega), decide_eq_true (by omega)] <;> rfl
    · rw [kept1_bools, List.length_map]
    · exact congrArg PyData.bool (all_true fun b hb => by
        obtain ⟨_, _, rfl⟩ := List.mem_map.mp hb
        rfl)
  · rintro σ' G2 H2 g1 gh ⟨s0, l, rfl⟩
    have hw2 := hw1.up g1
    refine s_rng (M := Z) exZ gh ((gd_lenT (gd_var rfl hw2)).is (by rw [List.length_map])) fun p G3 H3 s3 hp => ?_
    have hw3 := hw2.up s3.g
    refine s_asg (d := .bool true) (M := Z) exZ s3.gh ((gd_all (bs := (List.range W.length).flatMap fun i => (List.range i).map fun j => PyData.eqv (.int (sg W i j)) (.int (sg W j i))) ((gd_lc2 (fun i => i) (fun i j => .int j) (fun _ _ => true) (fun i j => .bool (PyData.eqv (.int (sg W i j)) (.int (sg W j i)))) (src_rngV rfl hp (by omega)) (by omega) (fun i hi => by omega) fun i G4 x hi e4 hx => ?_).is ?_)).is ?_) fun e G4 H4 s4 he => ?_
    · refine ⟨_, tg_name, rfl, src_range1 (gd_var rfl hx) (by omega), fun j G5 y hj e5 hy => ⟨_, tg_name, rfl, gt_yes, fun _ => ?_⟩⟩
      exact gd_eq (gd_web ok hi (by omega) (gd_var rfl (hw3.up (e4.trans e5))) (gd_var rfl (hx.up e5)) (gd_var rfl hy)) (gd_web ok (by omega) hi (gd_var rfl (hw3.up (e4.trans e5))) (gd_var rfl hy) (gd_var rfl (hx.up e5))) rfl rfl
    · rw [flat_bools]
    · refine congrArg PyData.bool (a₂ := true) (all_true fun b hb => ?_)
      obtain ⟨i, _, hb⟩ := List.mem_flatMap.mp hb
      obtain ⟨j, _, rfl⟩ := List.mem_map.mp hb
      rw [eqv_int, ok.sym i j, beq_self_eq_true]
    · have hw4 := hw3.up s4.g
      refine s_ret (d := .bool true) (M := Z) exZ s4.gh (gd_andT (gd_var rfl he) ((gd_all (bs := (List.range W.length).map fun i => PyData.eqv (.int (sg W i i)) (.int 0)) ((gd_lc (fun _ => true) (fun i => .bool (PyData.eqv (.int (sg W i i)) (.int 0))) (src_rngV rfl (s4.g _ _ hp) (by omega)) (by omega) fun i G5 x hi e5 hx => ?_).is ?_)).is ?_)) (q.from ((s0.trans s3).trans s4))
      · exact ⟨_, tg_name, rfl, gt_yes, fun _ => gd_eq (gd_web ok hi hi (gd_var rfl (hw4.up e5)) (gd_var rfl hx) (gd_var rfl hx)) gd_int rfl rfl⟩
      · rw [kept1_bools]
      · refine congrArg PyData.bool (a₂ := true) (all_true fun b hb => ?_)
        obtain ⟨i, _, rfl⟩ := List.mem_map.mp hb
        rw [eqv_int, ok.diag i] <;> rfl
def PCheckWeb (ds : List PyData) (d : PyData) : Prop := ∃ W, WebOk W ∧ ds = [webD W] ∧ d = .none
theorem scCheckWeb : FnScope ["value"] ["value"] (defScope sCheckWeb) := ⟨rfl, rfl, rfl, by decide +kernel, rfl, by decide +kernel, by decide +kernel⟩
theorem ok_check_web (D : Df K mg "check_web" sCheckWeb ["value"] f fd) (c_is_web : Has P w K mg base 3 "is_web" (Spd PIsWeb)) : FnOk P w K mg base CX0 4 f fd ["value"] (Spd PCheckWeb) := by
  refine D.F.ok scCheckWeb (Spd.len (n := 1) fun ds d ⟨_, _, e, _⟩ => by rw [e]; rfl) (fun cdv A outer s H vs Q E hr h => ?_)
  obtain ⟨G, ds, d, hG, hv, ⟨W, ok, rfl, rfl⟩, q⟩ := h
  obtain ⟨v, rfl, hw⟩ := hv.one
  refine ⟨_, PSs.nox (pss_one (ps_if (pt_not (pt_val (pe_has c_is_web hr (by decide) (by rfl) (pa_cons (pv 0) pa_nil)))) (pss_one ps_never) pss_nil)), ?_⟩
  exact s_unlessE (M := Z) exZ hG (gt_notT (gt_B (gd_call (ga_cons (gd_var rfl hw) ga_nil) ⟨W, ok, rfl, rfl⟩))) fun G1 H1 s1 => q _ G1 H1 s1 .non
/-- the tie that a value is, if any -/
def asTie : PyData → Option (Nat × Nat)
  | .tuple [.int a, .int b] => if 0 ≤ a ∧ 0 ≤ b then some (a.toNat, b.toNat) else none
  | _ => none
def isTieB (W : Web) (x : PyData) : Bool := match asTie x with
  | some t => decide (t ∈ ties W)
  | none => false
theorem asTie_tieD (t : Nat × Nat) : asTie (tieD t) = some t := by
  unfold tieD asTie
  simp
theorem asTie_eq {x : PyData} {t : Nat × Nat} (h : asTie x = some t) : x = tieD t := by
  unfold asTie at h
  split at h
  · split at h
    · rename_i a b q
      cases h
      unfold tieD
      rw [Int.toNat_of_nonneg q.1, Int.toNat_of_nonneg q.2]
    · cases h
  · cases h
theorem isTieB_true {W : Web} {x : PyData} (h : isTieB W x = true) : ∃ t, t ∈ ties W ∧ x = tieD t := by
  unfold isTieB at h
  cases e : asTie x with
  | none =>
    rw [e] at h
    cases h
  | some t =>
    rw [e] at h
    exact ⟨t, of_decide_eq_true h, asTie_eq e⟩
theorem isTieB_tie {W : Web} {t : Nat × Nat} (h : t ∈ ties W) : isTieB W (tieD t) = true := by
  unfold isTieB
  rw [asTie_tieD]
  exact decide_eq_true h
def PIsTie (ds : List PyData) (d : PyData) : Prop := ∃ W x, WebOk W ∧ ds = [webD W, x] ∧ d = .bool (isTieB W x)
theorem isTup_two {x : PyData} (h : isTup 2 x = true) : ∃ a b, x = .tuple [a, b] := by
  cases x with
  | tuple xs =>
    match xs, of_decide_eq_true h with
    | [a, b], _ => exact ⟨a, b, rfl⟩
  | _ => exact Bool.noConfusion (show false = true from h)
theorem isTieB_not {W : Web} {x : PyData} (h : isTup 2 x = false) : isTieB W x = false := by
  cases q : isTieB W x with
  | false => rfl
  | true =>
    obtain ⟨t, _, rfl⟩ := isTieB_true q
    exact Bool.noConfusion (show true = false from h)
theorem betw_iff {lo hi : Int} {d : PyData} : betw lo d hi = true ↔ ∃ i, d = .int i ∧ lo ≤ i ∧ i ≤ hi := by
  constructor
  · intro h
    cases d with
    | int i =>
      have h' := Bool.and_eq_true_iff.mp (show (decide (lo ≤ i) && decide (i ≤ hi)) = true from h)
      exact ⟨i, rfl, of_decide_eq_true h'.1, of_decide_eq_true h'.2⟩
    | _ => exact Bool.noConfusion (show false = true from h)
  · rintro ⟨i, rfl, h1, h2⟩
    show (decide (lo ≤ i) && decide (i ≤ hi)) = true
    rw [decide_eq_true h1, decide_eq_true h2] <;> rfl
theorem isTieB_out {W : Web} {a b : PyData} (h : (betw 0 a ((W.length : Int) - 1) && betw 0 b ((W.length : Int) - 1)) = false) : isTieB W (.tuple [a, b]) = false := by
  cases q : isTieB W (.tuple [a, b]) with
  | false => rfl
  | true =>
    obtain ⟨t, ht, e⟩ := isTieB_true q
    unfold tieD at e
    cases e
    obtain ⟨h1, h2, _⟩ := mem_ties.mp ht
    have e1 : betw 0 (.int (t.1 : Int)) ((W.length : Int) - 1) = true := betw_iff.mpr ⟨_, rfl, by omega, by omega⟩
    have e2 : betw 0 (.int (t.2 : Int)) ((W.length : Int) - 1) = true := betw_iff.mpr ⟨_, rfl, by omega, by omega⟩
    rw [e1, e2] at h
    cases h
theorem scIsTie : FnScope ["web", "value", "place"] ["web", "value"] (defScope sIsTie) := ⟨rfl, rfl, rfl, by decide +kernel, rfl, by decide +kernel, by decide +kernel⟩
theorem ok_is_tie (D : Df K mg "is_tie" sIsTie ["web", "value"] f fd) (B : Bi mg) (c_is_between : Has P w K mg base 2 "is_between" (Spd PIsBetween)) (c_is_tuple_of : Has P w K mg base 1 "is_tuple_of" (Spd PIsTupleOf)) :
    FnOk P w K mg base CX0 3 f fd ["web", "value"] (Spd PIsTie) := by
  refine D.F.ok scIsTie (Spd.len (n := 2) fun ds d ⟨_, _, _, e, _⟩ => by rw [e]; rfl) (fun cdv A outer s H vs Q E hr h => ?_)
  obtain ⟨G, ds, d, hG, hv, ⟨W, x, ok, rfl, rfl⟩, q⟩ := h
  obtain ⟨v, u, rfl, hw, hx⟩ := hv.two
  refine ⟨_, PSs.nox (pss_cons (ps_if (PW.pt (pw_or (pt_not (pt_val (pe_has c_is_tuple_of hr (by decide) (by rfl) (pa_cons pe_int (pa_cons (pv 1) pa_nil))))) (pw_or1 (pt_not (pt_val (pe_callB (call_allK (K := K) rfl rfl) (by rfl) B.all bb_all (pa_cons (pe_lc (own := [("place", 2)]) rfl scIsTie.nd (pi_tupK (K := K) rfl (pv 1)) (blkOk_by (own := [("place", 2)]) (N := ["web", "value", "place"]) (sc := defScope sIsTie) (by decide +kernel)) (fun _ _ _ _ _ => (pg_name (i := 2) scIsTie.nd rfl (.inl rfl))) (fun _ _ _ _ _ => pts_nil) (fun _ _ _ _ _ => (pe_has c_is_between hr (by decide) (by rfl) (pa_cons pe_int (pa_cons (pv 2) (pa_cons (pe_op op_sub (pe_callB (call_lenK (K := K) rfl) (by rfl) B.len bb_len (pa_cons (pv 0) pa_nil)) pe_int) pa_nil)))))) pa_nil))))))) (pss_one (ps_ret pe_bl)) pss_nil) (pss_one (ps_ret (pe_and (pe_cmpR op_lt (pe_ix (ix_twoK (K := K) rfl) (pv 1) pe_int (fun _ _ => rfl)) (pe_ix (ix_twoK (K := K) rfl) (pv 1) pe_int (fun _ _ => rfl)) (nomark _)) (pe_one (pe_cmpR (op_neDK (K := K) rfl hr.units) (pe_ix (ix_twoK (K := K) rfl) (pe_ix (ix_twoK (K := K) rfl) (pv 0) (pe_ix (ix_twoK (K := K) rfl) (pv 1) pe_int (fun _ _ => rfl)) (fun _ _ => rfl)) (pe_ix (ix_twoK (K := K) rfl) (pv 1) pe_int (fun _ _ => rfl)) (fun _ _ => rfl)) pe_int (nomark _))))))), ?_⟩
  have le := ok.le
  have t1 : Gd (tCall (Spd PIsTupleOf) [] E0 (tCons (tC (.int 2)) (tCons (tVar 1) tNil))) (start ["web", "value", "place"] [v, u]) Z G (.bool (isTup 2 x)) := gd_call (ga_cons gd_int (ga_cons (gd_var rfl hx) ga_nil)) ⟨2, x, rfl, rfl⟩
  cases ht : isTup 2 x with
  | false =>
    rw [ht] at t1
    rw [isTieB_not ht] at q
    exact s_if (M := Z) exZ hG (gt_orL (gt_notF (gt_B t1))) (fun _ G1 H1 s1 => s_ret (M := Z) exZ s1.gh gd_bl (q.from s1)) (fun z => nomatch z)
  | true =>
    rw [ht] at t1
    obtain ⟨a, b, rfl⟩ := isTup_two ht
    have t2 := gd_all (K := K) (M := Z) (te := tLc (iTup K (tVar 1)) (gName 2) tYes (tCall (Spd PIsBetween) [] E0 (tCons (tC (.int 0)) (tCons (tVar 2) (tCons (tOp (rI0 fun i j => .int (i - j)) (tCB (rLen2 K) (tCons (tVar 0) tNil)) (tC (.int 1))) tNil)))) [2])
      (bs := [betw 0 a ((W.length : Int) - 1), betw 0 b ((W.length : Int) - 1)]) (σ := start ["web", "value", "place"] [v, u]) (G := G) ((gd_lc (fun _ => true) (fun i => .bool (betw 0 ([a, b].getD i .none) ((W.length : Int) - 1))) (src_tup (gd_var rfl hx)) (by simp) fun i G1 z hi e1 hz => ⟨_, tg_name, rfl, gt_yes, fun _ => gd_call (ga_cons gd_int (ga_cons (gd_var rfl hz) (ga_cons (gd_I0 (gd_lenT (gd_var rfl (hw.up e1))) gd_int) ga_nil))) ⟨_, _, _, rfl, by rw [List.length_map]⟩⟩).is rfl)
    have e2 : [betw 0 a ((W.length : Int) - 1), betw 0 b ((W.length : Int) - 1)].all id = (betw 0 a ((W.length : Int) - 1) && betw 0 b ((W.length : Int) - 1)) := by simp
    rw [e2] at t2
    cases hb : betw 0 a ((W.length : Int) - 1) && betw 0 b ((W.length : Int) - 1) with
    | false =>
      rw [hb] at t2
      rw [isTieB_out hb] at q
      exact s_if (M := Z) exZ hG (gt_orR (gt_notT (gt_B t1)) (gt_notF (gt_B t2))) (fun _ G1 H1 s1 => s_ret (M := Z) exZ s1.gh gd_bl (q.from s1)) (fun z => nomatch z)
    | true =>
      rw [hb] at t2
      obtain ⟨b1, b2⟩ := Bool.and_eq_true_iff.mp hb
      obtain ⟨i, rfl, i1, i2⟩ := betw_iff.mp b1
      obtain ⟨j, rfl, j1, j2⟩ := betw_iff.mp b2
      obtain ⟨i, rfl⟩ := Int.eq_ofNat_of_zero_le i1
      obtain ⟨j, rfl⟩ := Int.eq_ofNat_of_zero_le j1
      refine s_unless (M := Z) exZ hG (gt_orF (gt_notT (gt_B t1)) (gt_notT (gt_B t2))) fun G1 H1 s1 => ?_
      have hx1 := hx.up s1.g
      have hw1 := hw.up s1.g
      have g0 : Gd (tOp (rIx2 K) (tVar 1) (tC (.int 0))) (start ["web", "value", "place"] [v, u]) Z G1 (.int i) := gd_ixT (gd_var rfl hx1) gd_int rfl
      have g1 : Gd (tOp (rIx2 K) (tVar 1) (tC (.int 1))) (start ["web", "value", "place"] [v, u]) Z G1 (.int j) := gd_ixT (gd_var rfl hx1) gd_int rfl
      refine s_ret (d := .bool (isTieB W (tieD (i, j)))) (M := Z) exZ s1.gh ((gd_and (a := decide (((i : Nat) : Int) < (j : Nat))) (gd_B0 g0 g1) fun _ => gd_ne (gd_web ok (by omega) (by omega) (gd_var rfl hw1) g0 g1) gd_int rfl rfl).is ?_) (q.from s1)
      congr 1
      rw [eqv_int]
      unfold isTieB
      rw [asTie_tieD]
      show _ = decide ((i, j) ∈ ties W)
      by_cases lt : i < j
      · rw [decide_eq_true (by omega), Bool.true_and]
        by_cases ne : sg W i j = 0
        · rw [ne, decide_eq_false (fun z => (mem_ties.mp z).2.2 ne)] <;> rfl
        · rw [decide_eq_true (mem_ties.mpr ⟨lt, by omega, ne⟩), beq_eq_false_iff_ne.mpr ne] <;> rfl
      · rw [decide_eq_false (by omega), decide_eq_false (fun z => lt (mem_ties.mp z).1)] <;> rfl
end
end Sg

/-! stands_by .. other_way -/
namespace Sg
open PySem PySem.Spec PyProof.Rows L2
open Evl (Ex)
/-! ### shapes -/
def Lay (n : Nat) (d : PyData) : Prop := d.canLay0 = true ∧ d.depth ≤ n
theorem Lay.sh {n : Nat} {d : PyData} (h : Lay n d) (hn : n ≤ 64 := by decide) : SeqAt.shaped d = true := by
  unfold SeqAt.shaped
  rw [h.1, decide_eq_true (Nat.le_trans h.2 hn)]
  rfl
theorem layAll {n : Nat} : ∀ {ds : List PyData}, (∀ d ∈ ds, Lay n d) → PyData.canLayAll0 ds = true ∧ PyData.depthAll ds ≤ n
  | [], _ => ⟨by simp [PyData.canLayAll0], by simp [PyData.depthAll]⟩
  | d :: ds, h => by
    obtain ⟨h1, h2⟩ := h d List.mem_cons_self
    obtain ⟨k1, k2⟩ := layAll (n := n) (ds := ds) fun e he => h e (List.mem_cons_of_mem _ he)
    exact ⟨by simp [PyData.canLayAll0, h1, k1], by simp only [PyData.depthAll]; exact Nat.max_le.mpr ⟨h2, k2⟩⟩
theorem lay_int {n : Nat} (i : Int) : Lay n (.int i) := ⟨rfl, Nat.zero_le _⟩
theorem lay_non {n : Nat} : Lay n .none := ⟨rfl, Nat.zero_le _⟩
theorem lay_bl {n : Nat} (b : Bool) : Lay n (.bool b) := ⟨rfl, Nat.zero_le _⟩
theorem lay_str {n : Nat} {x : Str} (h : (PyData.str x).canLay0 = true) : Lay n (.str x) := ⟨h, Nat.zero_le _⟩
theorem lay_lst {n : Nat} {ds : List PyData} (h : ∀ d ∈ ds, Lay n d) : Lay (n + 1) (.list ds) := by
  obtain ⟨h1, h2⟩ := layAll h
  exact ⟨by simp only [PyData.canLay0]; exact h1, by simp only [PyData.depth]; omega⟩
theorem lay_tup {n : Nat} {ds : List PyData} (h : ∀ d ∈ ds, Lay n d) : Lay (n + 1) (.tuple ds) := by
  obtain ⟨h1, h2⟩ := layAll h
  exact ⟨by simp only [PyData.canLay0]; exact h1, by simp only [PyData.depth]; omega⟩
theorem lay_map {α : Type} {n : Nat} {l : List α} {f : α → PyData} (h : ∀ a, Lay n (f a)) : ∀ d ∈ l.map f, Lay n d := fun d hd => by
  obtain ⟨a, _, rfl⟩ := List.mem_map.mp hd
  exact h a
theorem lay_nD (l : List Nat) : Lay 1 (nD l) := lay_lst (lay_map fun _ => lay_int _)
theorem lay_chD (C : List Int) : Lay 1 (chD C) := lay_tup (lay_map fun _ => lay_int _)
theorem lay_tieD (t : Nat × Nat) : Lay 1 (tieD t) := lay_tup fun d hd => by
  rcases List.mem_cons.mp hd with rfl | hd
  · exact lay_int _
  · rw [List.mem_singleton.mp hd]
    exact lay_int _
theorem lay_tieL (l : List (Nat × Nat)) : Lay 2 (tieL l) := lay_lst (lay_map lay_tieD)
theorem lay_nil : Lay 1 (.list []) := lay_lst (n := 0) fun d hd => nomatch hd
theorem eqv_nil {ds : List PyData} : PyData.eqv (.list ds) (.list []) = ds.isEmpty := by
  cases ds <;> simp [PyData.eqv, PyData.eqvAll]
theorem eqvAll_iff {α : Type} [DecidableEq α] {f : α → PyData} (hf : ∀ a b, PyData.eqv (f a) (f b) = decide (a = b)) : ∀ l m : List α, PyData.eqvAll (l.map f) (m.map f) = decide (l = m)
  | [], [] => by simp [PyData.eqvAll]
  | [], b :: m => by simp [PyData.eqvAll]
  | a :: l, [] => by simp [PyData.eqvAll]
  | a :: l, b :: m => by
    have ih := eqvAll_iff hf l m
    simp only [List.map_cons, PyData.eqvAll, hf, ih]
    by_cases h1 : a = b <;> by_cases h2 : l = m <;> simp [h1, h2]
theorem eqv_ints (a b : Int) : PyData.eqv (.int a) (.int b) = decide (a = b) := by
  rw [eqv_int]
  exact Bool.eq_iff_iff.mpr (by rw [beq_iff_eq, decide_eq_true_iff])
theorem eqv_ch (C C' : List Int) : PyData.eqv (chD C) (chD C') = decide (C = C') := by
  unfold chD
  simp only [PyData.eqv]
  exact eqvAll_iff eqv_ints C C'
theorem eqv_tie (t u : Nat × Nat) : PyData.eqv (tieD t) (tieD u) = decide (t = u) := by
  obtain ⟨a, b⟩ := t
  obtain ⟨c, d⟩ := u
  unfold tieD
  simp only [PyData.eqv, PyData.eqvAll, eqv_ints, Bool.and_true]
  by_cases h1 : a = c <;> by_cases h2 : b = d <;> simp [h1, h2]
  all_goals omega
theorem eqv_ties (l m : List (Nat × Nat)) : PyData.eqv (tieL l) (tieL m) = decide (l = m) := by
  unfold tieL
  simp only [PyData.eqv]
  exact eqvAll_iff eqv_tie l m
/-! ### slices -/
theorem sIx_pos {n k : Nat} (h : k ≤ n) (d : Nat) : HT.sIx n d (some (k : Int)) = k := by
  rw [HT.sIx_nat]
  exact Nat.min_eq_left h
section
variable {K : PySem.W.Frag} {σ : L2.St} {M G : Hp} {te tx : TE} {ds : List PyData}
theorem gd_takeT {k : Nat} (h : Gd te σ M G (.tuple ds)) (hx : Gd tx σ M G (.int k)) (hk : k ≤ ds.length) : Gd (tSl (rSlA K) te (fun σ H Q => Q none H) (tPart tx)) σ M G (.tuple (ds.take k)) := fun H hM hG Q q =>
  h H hM hG _ fun v G1 H1 s1 d1 => (hx.mono s1.g) H1 (hM.trans s1.h) s1.gh _ fun w G2 H2 s2 d2 => by
    obtain ⟨a, xs, rfl, ga, dx⟩ := (d1.up s2.g).tup_of
    cases d2
    have lx := dx.length
    have e : HT.sIx xs.length xs.length (some (k : Int)) = k := sIx_pos (by omega) _
    refine ⟨k, rfl, a, xs, rfl, SqT.of (s2.gh _ _ ga), fun hh => ?_, fun _ p hp => ?_⟩
    · have e2 : k = ds.length := by
        have := hh.2
        rw [e] at this
        omega
      rw [e2, List.take_length] at q
      exact q _ G2 H2 (s1.trans s2) (.tup ga dx)
    · unfold cutV
      rw [e]
      have e0 : HT.sIx xs.length 0 none = 0 := rfl
      rw [e0, List.drop_zero, Nat.sub_zero]
      exact ret_tup s2.gh (dx.take k) (q.from (s1.trans s2)) p hp
theorem gd_dropT {k : Nat} (h : Gd te σ M G (.tuple ds)) (hx : Gd tx σ M G (.int k)) (hk : k ≤ ds.length) : Gd (tSl (rSlA K) te (tPart tx) (fun σ H Q => Q none H)) σ M G (.tuple (ds.drop k)) := fun H hM hG Q q =>
  h H hM hG _ fun v G1 H1 s1 d1 => (hx.mono s1.g) H1 (hM.trans s1.h) s1.gh _ fun w G2 H2 s2 d2 => by
    obtain ⟨a, xs, rfl, ga, dx⟩ := (d1.up s2.g).tup_of
    cases d2
    have lx := dx.length
    have e : HT.sIx xs.length 0 (some (k : Int)) = k := sIx_pos (by omega) _
    refine ⟨k, rfl, a, xs, rfl, SqT.of (s2.gh _ _ ga), fun hh => ?_, fun _ p hp => ?_⟩
    · have e2 : k = 0 := by
        have := hh.1
        rw [e] at this
        omega
      subst e2
      exact q _ G2 H2 (s1.trans s2) (.tup ga dx)
    · unfold cutV
      rw [e]
      have e0 : HT.sIx xs.length xs.length none = xs.length := rfl
      rw [e0]
      have e1 : (xs.drop k).take (xs.length - k) = xs.drop k := List.take_of_length_le (by rw [List.length_drop]; exact Nat.le_refl _)
      rw [e1]
      exact ret_tup s2.gh (dx.drop k) (q.from (s1.trans s2)) p hp
end
theorem flip_cut {C : List Int} {k : Nat} (hk : k < C.length) : flip C k = C.take k ++ [-(C.getD k 0)] ++ C.drop (k + 1) := by
  unfold flip
  rw [List.set_eq_take_append_cons_drop, if_pos hk, List.append_assoc]
  rfl
def PStands (ds : List PyData) (d : PyData) : Prop := ∃ W C, WebOk W ∧ ChOk W C ∧ ds = [webD W, chD C] ∧ d = .bool (standsB W C)
def PStop (ds : List PyData) (d : PyData) : Prop := ∃ W C, WebOk W ∧ Stands W C ∧ ds = [webD W, chD C] ∧ d = .none
def PIsChoice (ds : List PyData) (d : PyData) : Prop := ∃ W C, WebOk W ∧ ChOk W C ∧ ds = [webD W, chD C] ∧ d = .bool true
def PCheckChoice (ds : List PyData) (d : PyData) : Prop := ∃ W C, WebOk W ∧ ChOk W C ∧ ds = [webD W, chD C] ∧ d = .none
def POther (ds : List PyData) (d : PyData) : Prop := ∃ (C : List Int) (k : Nat), k < C.length ∧ C.length ≤ 1000 ∧ ds = [chD C, .int k] ∧ d = chD (flip C k)
theorem sign_at {W : Web} {C : List Int} (hC : ChOk W C) {i : Nat} (hi : i < C.length) : PyData.bool true = .bool (isSg ((C.map PyData.int).getD i .none)) := by
  rw [ints_getD hi]
  have hh : C.getD i 0 = 1 ∨ C.getD i 0 = -1 := hC.2 _ (getD_mem hi)
  rcases hh with e | e
  · rw [e] <;> rfl
  · rw [e] <;> rfl
theorem belowW_small {W : Web} (ok : WebOk W) {C : List Int} (hC : C.length = (ties W).length) : ∀ l ∈ belowW W C, l.length ≤ 1000 := fun l hl => by
  obtain ⟨i, hi, rfl⟩ := List.getElem_of_mem hl
  have h := bel_small (2 * W.length) (arrs W C) i
  have h2 := arrsTo_len W C (ties W).length
  rw [arrsTo_all hC] at h2
  have tl := ties_len ok
  unfold belowW at hi ⊢
  rw [List.getD_eq_getElem?_getD, List.getElem?_eq_getElem hi] at h
  exact Nat.le_trans h (by omega)
theorem left_stands {W : Web} (ok : WebOk W) {C : List Int} (hC : ChOk W C) : ((List.range (belowW W C).length).filter fun b => decide (b ∉ orderK (belowW W C))).isEmpty = standsB W C := by
  have h := leftW_nil ok hC
  unfold leftW at h
  rw [belowW_len]
  refine Bool.eq_iff_iff.mpr ?_
  rw [List.isEmpty_iff, h, standsB_iff]
section
variable {P : Program} {w : World} {K : PySem.W.Frag} {mg : Str → Option Value} {base : Heap} {f : Addr} {fd : FuncData}
theorem scStandsBy : FnScope ["web", "choice"] ["web", "choice"] (defScope sStandsBy) := ⟨rfl, rfl, rfl, by decide +kernel, rfl, by decide +kernel, by decide +kernel⟩
theorem ok_stands_by (D : Df K mg "stands_by" sStandsBy ["web", "choice"] f fd) (B : Bi mg) (c_arrows_by : Has P w K mg base 2 "arrows_by" (Spd PArrows)) (c_downward : Has P w K mg base 1 "downward" (Spd PDownward)) : FnOk P w K mg base CX0 3 f fd ["web", "choice"] (Spd PStands) := by
  refine D.F.ok scStandsBy (Spd.len (n := 2) fun ds d ⟨_, _, _, _, e, _⟩ => by rw [e]; rfl) (fun cdv A outer s H vs Q E hr h => ?_)
  obtain ⟨G, ds, d, hG, hv, ⟨W, C, ok, hC, rfl, rfl⟩, q⟩ := h
  obtain ⟨v, u, rfl, hw, hc⟩ := hv.two
  refine ⟨_, PSs.nox (pss_one (ps_ret (pe_cmpR (op_eqDK (K := K) rfl hr.units) (pe_ix (ix_twoK (K := K) rfl) (pe_has c_downward hr (by decide) (by rfl) (pa_cons (pe_has c_arrows_by hr (by decide) (by rfl) (pa_cons (pv 0) (pa_cons (pv 1) pa_nil))) pa_nil)) pe_int (fun _ _ => rfl)) (pe_lst pa_nil) (nomark _)))), ?_⟩
  have le := ok.le
  refine s_ret (M := Z) exZ hG ((gd_eq (gd_ixT (gd_call (ga_cons (gd_call (ga_cons (gd_var rfl hw) (ga_cons (gd_var rfl hc) ga_nil)) ⟨W, C, ok, hC, rfl, rfl⟩) ga_nil) ⟨belowW W C, belowW_in ok, by rw [belowW_len]; omega, belowW_small ok hC.1, rfl, rfl⟩) gd_int rfl) (gd_lst ga_nil (by simp)) (lay_nD _).sh lay_nil.sh).is ?_) q
  unfold nD
  rw [eqv_nil, List.isEmpty_map, left_stands ok hC]
theorem scStopBy : FnScope ["web", "choice", "below", "left"] ["web", "choice"] (defScope sStopBy) := ⟨rfl, rfl, rfl, by decide +kernel, rfl, by decide +kernel, by decide +kernel⟩
theorem ok_stop_by (D : Df K mg "stop_by" sStopBy ["web", "choice"] f fd) (B : Bi mg) (c_arrows_by : Has P w K mg base 2 "arrows_by" (Spd PArrows)) (c_downward : Has P w K mg base 1 "downward" (Spd PDownward)) : FnOk P w K mg base CX0 3 f fd ["web", "choice"] (Spd PStop) := by
  refine D.F.ok scStopBy (Spd.len (n := 2) fun ds d ⟨_, _, _, _, e, _⟩ => by rw [e]; rfl) (fun cdv A outer s H vs Q E hr h => ?_)
  obtain ⟨G, ds, d, hG, hv, ⟨W, C, ok, st, rfl, rfl⟩, q⟩ := h
  obtain ⟨v, u, rfl, hw, hc⟩ := hv.two
  refine ⟨_, PSs.nox (pss_cons (ps_set (i := 2) scStopBy.nd rfl (.inl rfl) (pe_has c_arrows_by hr (by decide) (by rfl) (pa_cons (pv 0) (pa_cons (pv 1) pa_nil)))) (pss_cons (ps_set (i := 3) scStopBy.nd rfl (.inl rfl) (pe_ix (ix_twoK (K := K) rfl) (pe_has c_downward hr (by decide) (by rfl) (pa_cons (pv 2) pa_nil)) pe_int (fun _ _ => rfl))) (pss_one (ps_ret (pe_ifExp (pt_cmpR (op_neDK (K := K) rfl hr.units) (pv 3) (pe_lst pa_nil) (nomark _)) nd_any pe_non))))), ?_⟩
  have le := ok.le
  have hC := st.ok
  refine s_asg (M := Z) exZ hG (gd_call (ga_cons (gd_var rfl hw) (ga_cons (gd_var rfl hc) ga_nil)) ⟨W, C, ok, hC, rfl, rfl⟩) fun b G1 H1 s1 hb => ?_
  refine s_asg (M := Z) exZ s1.gh (gd_ixT (gd_call (ga_cons (gd_var rfl hb) ga_nil) ⟨belowW W C, belowW_in ok, by rw [belowW_len]; omega, belowW_small ok hC.1, rfl, rfl⟩) gd_int rfl) fun l G2 H2 s2 hl => ?_
  refine s_ret (M := Z) exZ s2.gh (gd_if (b := false) (gt_test ((gd_ne (gd_var rfl hl) (gd_lst ga_nil (by simp)) (lay_nD _).sh lay_nil.sh).is ?_)) (fun z => nomatch z) fun _ => gd_non) (q.from (s1.trans s2))
  unfold nD
  rw [eqv_nil, List.isEmpty_map, left_stands ok hC, standsB_iff.mpr st] <;> rfl
theorem scIsChoiceOf : FnScope ["web", "value", "way"] ["web", "value"] (defScope sIsChoiceOf) := ⟨rfl, rfl, rfl, by decide +kernel, rfl, by decide +kernel, by decide +kernel⟩
theorem ok_is_choice_of (D : Df K mg "is_choice_of" sIsChoiceOf ["web", "value"] f fd) (B : Bi mg) (c_is_sign : Has P w K mg base 3 "is_sign" (Spd PIsSign)) (c_is_tuple_of : Has P w K mg base 1 "is_tuple_of" (Spd PIsTupleOf)) (c_ties_of : Has P w K mg base 1 "ties_of" (Spd PTies)) :
    FnOk P w K mg base CX0 4 f fd ["web", "value"] (Spd PIsChoice) := by
  refine D.F.ok scIsChoiceOf (Spd.len (n := 2) fun ds d ⟨_, _, _, _, e, _⟩ => by rw [e]; rfl) (fun cdv A outer s H vs Q E hr h => ?_)
  obtain ⟨G, ds, d, hG, hv, ⟨W, C, ok, hC, rfl, rfl⟩, q⟩ := h
  obtain ⟨v, u, rfl, hw, hc⟩ := hv.two
  refine ⟨_, PSs.nox (pss_one (ps_ret (pe_and (pe_has c_is_tuple_of hr (by decide) (by rfl) (pa_cons (pe_callB (call_lenK (K := K) rfl) (by rfl) B.len bb_len (pa_cons (pe_has c_ties_of hr (by decide) (by rfl) (pa_cons (pv 0) pa_nil)) pa_nil)) (pa_cons (pv 1) pa_nil))) (pe_one (pe_callB (call_allK (K := K) rfl rfl) (by rfl) B.all bb_all (pa_cons (pe_lc (own := [("way", 2)]) rfl scIsChoiceOf.nd (pi_tupK (K := K) rfl (pv 1)) (blkOk_by (own := [("way", 2)]) (N := ["web", "value", "way"]) (sc := defScope sIsChoiceOf) (by decide +kernel)) (fun _ _ _ _ _ => (pg_name (i := 2) scIsChoiceOf.nd rfl (.inl rfl))) (fun _ _ _ _ _ => pts_nil) (fun _ _ _ _ _ => (pe_has c_is_sign hr (by decide) (by rfl) (pa_cons (pv 2) pa_nil)))) pa_nil)))))), ?_⟩
  have tl := ties_len ok
  have h1 := hC.1
  refine s_ret (d := .bool true) (M := Z) exZ hG (gd_andT ((gd_call (ga_cons (gd_lenL (gd_call (ga_cons (gd_var rfl hw) ga_nil) ⟨W, ok, rfl, rfl⟩)) (ga_cons (gd_var rfl hc) ga_nil)) ⟨_, _, rfl, rfl⟩).is ?_) ((gd_all (bs := (List.range C.length).map fun _ => true) ((gd_lc (fun _ => true) (fun _ => .bool true) (src_tup (gd_var rfl hc)) (by rw [List.length_map]; omega) fun i G1 x hi e1 hx => ⟨_, tg_name, rfl, gt_yes, fun _ => gd_call (ga_cons (gd_var rfl hx) ga_nil) ⟨_, rfl, sign_at hC (by rw [List.length_map] at hi; exact hi)⟩⟩).is ?_)).is ?_)) q
  · show PyData.bool (decide ((C.map PyData.int).length = ((ties W).map tieD).length)) = .bool true
    rw [List.length_map, List.length_map, h1, decide_eq_true rfl]
  · rw [kept1_bools, List.length_map]
  · exact congrArg PyData.bool (a₂ := true) (all_true fun b hb => by
      obtain ⟨_, _, rfl⟩ := List.mem_map.mp hb
      rfl)
theorem scCheckChoice : FnScope ["web", "value"] ["web", "value"] (defScope sCheckChoice) := ⟨rfl, rfl, rfl, by decide +kernel, rfl, by decide +kernel, by decide +kernel⟩
theorem ok_check_choice (D : Df K mg "check_choice" sCheckChoice ["web", "value"] f fd) (c_is_choice_of : Has P w K mg base 4 "is_choice_of" (Spd PIsChoice)) : FnOk P w K mg base CX0 5 f fd ["web", "value"] (Spd PCheckChoice) := by
  refine D.F.ok scCheckChoice (Spd.len (n := 2) fun ds d ⟨_, _, _, _, e, _⟩ => by rw [e]; rfl) (fun cdv A outer s H vs Q E hr h => ?_)
  obtain ⟨G, ds, d, hG, hv, ⟨W, C, ok, hC, rfl, rfl⟩, q⟩ := h
  obtain ⟨v, u, rfl, hw, hc⟩ := hv.two
  refine ⟨_, PSs.nox (pss_one (ps_if (pt_not (pt_val (pe_has c_is_choice_of hr (by decide) (by rfl) (pa_cons (pv 0) (pa_cons (pv 1) pa_nil))))) (pss_one ps_never) pss_nil)), ?_⟩
  exact s_unlessE (M := Z) exZ hG (gt_notT (gt_B (gd_call (ga_cons (gd_var rfl hw) (ga_cons (gd_var rfl hc) ga_nil)) ⟨W, C, ok, hC, rfl, rfl⟩))) fun G1 H1 s1 => q _ G1 H1 s1 .non
theorem scCheckStanding : FnScope ["web", "choice", "weights"] ["web", "choice"] (defScope sCheckStanding) := ⟨rfl, rfl, rfl, by decide +kernel, rfl, by decide +kernel, by decide +kernel⟩
theorem ok_check_standing (D : Df K mg "check_standing" sCheckStanding ["web", "choice"] f fd) (c_stop_by : Has P w K mg base 3 "stop_by" (Spd PStop)) : FnOk P w K mg base CX0 4 f fd ["web", "choice"] (Spd PStop) := by
  refine D.F.ok scCheckStanding (Spd.len (n := 2) fun ds d ⟨_, _, _, _, e, _⟩ => by rw [e]; rfl) (fun cdv A outer s H vs Q E hr h => ?_)
  obtain ⟨G, ds, d, hG, hv, ⟨W, C, ok, hC, rfl, rfl⟩, q⟩ := h
  obtain ⟨v, u, rfl, hw, hc⟩ := hv.two
  refine ⟨_, PSs.nox (pss_cons (ps_set (i := 2) scCheckStanding.nd rfl (.inl rfl) (pe_has c_stop_by hr (by decide) (by rfl) (pa_cons (pv 0) (pa_cons (pv 1) pa_nil)))) (pss_one (ps_if (pt_cmpR op_notN (pv 2) pe_non (nomark _)) (pss_one ps_never) pss_nil))), ?_⟩
  refine s_asg (M := Z) exZ hG (gd_call (ga_cons (gd_var rfl hw) (ga_cons (gd_var rfl hc) ga_nil)) ⟨W, C, ok, hC, rfl, rfl⟩) fun x G1 H1 s1 hx => ?_
  cases hx
  refine s_unlessE (M := Z) exZ s1.gh (gt_test fun H2 hM2 hG2 Q2 q2 => ⟨_, rfl, rfl, q2 _ G1 H2 (Stp.refl hG2) (.bl false)⟩) fun G2 H2 s2 => q _ G2 H2 (s1.trans s2) .non
theorem scOtherWay : FnScope ["choice", "at"] ["choice", "at"] (defScope sOtherWay) := ⟨rfl, rfl, rfl, by decide +kernel, rfl, by decide +kernel, by decide +kernel⟩
theorem ok_other_way (D : Df K mg "other_way" sOtherWay ["choice", "at"] f fd) : FnOk P w K mg base CX0 1 f fd ["choice", "at"] (Spd POther) := by
  refine D.F.ok scOtherWay (Spd.len (n := 2) fun ds d ⟨_, _, _, _, e, _⟩ => by rw [e]; rfl) (fun cdv A outer s H vs Q E hr h => ?_)
  obtain ⟨G, ds, d, hG, hv, ⟨C, k, hk, l1, rfl, rfl⟩, q⟩ := h
  obtain ⟨v, u, rfl, hc, hx⟩ := hv.two
  refine ⟨_, PSs.nox (pss_one (ps_ret (pe_op (op_plusK (K := K) rfl) (pe_op (op_plusK (K := K) rfl) (pe_slice (sl_tupK (K := K) rfl) (pv 0) po_none (po_some (pv 1))) (pe_tup (pa_cons (pe_un un_neg (pe_ix (ix_twoK (K := K) rfl) (pv 0) (pv 1) (fun _ _ => rfl))) pa_nil))) (pe_slice (sl_tupK (K := K) rfl) (pv 0) (po_some (pe_op (op_plusK (K := K) rfl) (pv 1) pe_int)) po_none)))), ?_⟩
  have lm : (C.map PyData.int).length = C.length := List.length_map ..
  have e1 : ((k + 1 : Nat) : Int) = (k : Int) + 1 := by omega
  refine s_ret (M := Z) exZ hG ((gd_catT (gd_catT (gd_takeT (gd_var rfl hc) (gd_var rfl hx) (by omega)) (gd_tup (ga_cons (gd_neg (gd_ixT (gd_var rfl hc) (gd_var rfl hx) (atI_map (getD_get (z := 0) hk)))) ga_nil) (by simp)) ?_) (gd_dropT (k := k + 1) (gd_var rfl hc) ((gd_plus (gd_var rfl hx) gd_int).is (by rw [e1])) (by omega)) ?_).is ?_) q
  · simp only [List.length_take, List.length_map, List.length_singleton]
    omega
  · simp only [List.length_append, List.length_take, List.length_drop, List.length_map, List.length_singleton]
    omega
  · show _ = chD (flip C k)
    rw [flip_cut hk]
    unfold chD
    simp [List.map_take, List.map_drop]
end
end Sg

/-! gates, next_gate, gate_row -/
namespace Sg
open PySem PySem.Spec PyProof.Rows L2
open Evl (Ex)
/-- a new list comes back, which may change -/
def RetM (G H : Hp) (es : List PyData) (Q : VK) : Prop := ∀ p us G' H', Stp G H G' H' → H p = none → Hold G' H' p us → DxA G' us es → Q (.ref p) H'
def Spm (P : List PyData → List PyData → Prop) : Sp := fun vs H Q _ => ∃ G ds es, Ex G H ∧ DxA G vs ds ∧ P ds es ∧ RetM G H es Q
theorem Spm.len {P : List PyData → List PyData → Prop} {n : Nat} (h : ∀ ds d, P ds d → ds.length = n) : ∀ vs H Q E, Spm P vs H Q E → vs.length = n := fun vs H Q E ⟨G, ds, d, _, hv, hp, _⟩ => hv.length.trans (h ds d hp)
theorem RetM.from {G H G1 H1 : Hp} {es : List PyData} {Q : VK} (q : RetM G H es Q) (s : Stp G H G1 H1) : RetM G1 H1 es Q := fun p us G' H' s2 np h d => q p us G' H' (s.trans s2) (fresh_of s.h np) h d
section
variable {K : PySem.W.Frag} {σ : L2.St} {M G H : Hp} {te tx : TE} {ta : TA} {D : Ends} {tz : TS} {ds es : List PyData} {d : PyData}
theorem s_callM {P : List PyData → List PyData → Prop} {E : XK} {Q : VK} (hM : Ex M H) (hG : Ex G H) (h : Ga ta σ M G ds) (hp : P ds es) (q : RetM G H es Q) : tCall (Spm P) [] E ta σ H Q :=
  h H hM hG _ fun vs G1 H1 s1 d1 => ⟨G1, ds, es, s1.gh, by rw [List.append_nil]; exact d1, hp, q.from s1⟩
theorem gd_callM {P : List PyData → List PyData → Prop} {E : XK} (h : Ga ta σ M G ds) (hp : P ds es) : Gd (tCall (Spm P) [] E ta) σ M G (.list es) := fun H hM hG Q q =>
  s_callM hM hG h hp fun p us G' H' s np ho du => q _ (upd G' p (.lst us)) H' (ho.know s np) (.lst upd_same (du.up ho.up))
theorem s_asgE {i : Nat} (hM : Ex M H) (hG : Ex G H) (h : Gd te σ M G d) (k : ∀ v G' H', Stp G H G' H' → Dx G' v d → D.nx (σ.set i (some v)) H') : tAsg te (gName i) D σ H := h H hM hG _ k
/-- an expression whose value is dropped -/
theorem s_drop (hM : Ex M H) (hG : Ex G H) (h : Gd te σ M G d) (k : ∀ G' H', Stp G H G' H' → tz D σ H') : tSeq (tDrop te) tz D σ H := h H hM hG _ fun v G1 H1 s1 _ => k G1 H1 s1
/-- l.index(x) -/
theorem gd_index {l : List (Nat × Nat)} {t : Nat × Nat} (h : Gd te σ M G (tieL l)) (hx : Gd tx σ M G (tieD t)) (ht : t ∈ l) : Gd (tBM K "list" (rIndexD K) te (tCons tx tNil)) σ M G (.int (l.idxOf t : Nat)) := fun H hM hG Q q =>
  h H hM hG _ fun v G1 H1 s1 d1 => by
    obtain ⟨a, xs, rfl, ga, dx⟩ := id d1.lst_of
    refine ⟨.inl ⟨rfl, xs, SqL.of (s1.gh _ _ ga)⟩, (hx.mono s1.g) H1 (hM.trans s1.h) s1.gh _ fun w G2 H2 s2 d2 => ?_⟩
    have lt : l.idxOf t < l.length := List.idxOf_lt_length_of_mem ht
    refine ⟨a, w, tieD t, l.map tieD, l.idxOf t, tieD t, rfl, rfl, ((d1.up s2.g).up s2.gh).dp, (d2.up s2.gh).dp, (lay_tieL l).sh, (lay_tieD t).sh, ?_, ?_, fun m z hm hz => ?_, q _ G2 H2 (s1.trans s2) (.int _)⟩
    · rw [List.getElem?_map, List.getElem?_eq_getElem lt, List.getElem_idxOf] <;> rfl
    · rw [eqv_tie, decide_eq_true rfl]
    · rw [List.getElem?_map, List.getElem?_eq_getElem (by omega)] at hz
      cases hz
      rw [eqv_tie]
      refine decide_eq_false fun e => ?_
      have := List.not_of_lt_findIdx (p := fun x => x == t) (xs := l) (i := m) hm
      simp [e] at this
end
theorem kept1_list {α : Type} (l : List α) (z : α) (p : α → Bool) (g : α → PyData) : kept1 l.length (fun i => p (l.getD i z)) (fun i => g (l.getD i z)) = (l.filter p).map g := by
  have go : ∀ (n : Nat), n ≤ l.length → kept1 n (fun i => p (l.getD i z)) (fun i => g (l.getD i z)) = ((l.take n).filter p).map g := by
    intro n
    induction n with
    | zero => intro _; rfl
    | succ n ih =>
      intro hn
      rw [kept1_succ, ih (by omega), take_snoc (z := z) (by omega), List.filter_append, List.map_append]
      congr 1
      rw [List.filter_cons]
      split <;> rfl
  rw [go l.length (Nat.le_refl _), List.take_length]
def PGates (ds : List PyData) (es : List PyData) : Prop := ∃ W C, WebOk W ∧ Stands W C ∧ ds = [webD W, chD C] ∧ es = (gateIx W C).map fun k => tieD ((ties W).getD k (0, 0))
def PNext (ds : List PyData) (d : PyData) : Prop := ∃ W C C', WebOk W ∧ Stands W C ∧ Stands W C' ∧ C ≠ C' ∧ ds = [webD W, chD C, chD C'] ∧ d = .int (nextK W C C' : Nat)
def PGateRow (ds : List PyData) (es : List PyData) : Prop := ∃ W C C', WebOk W ∧ Stands W C ∧ Stands W C' ∧ ds = [webD W, chD C, chD C'] ∧ es = (gateRow W C C').map tieD
theorem ch_len {W : Web} (ok : WebOk W) {C : List Int} (h : ChOk W C) : C.length ≤ 45 := by
  rw [h.1]
  exact ties_len ok
section
variable {P : Program} {w : World} {K : PySem.W.Frag} {mg : Str → Option Value} {base : Heap} {f : Addr} {fd : FuncData}
theorem scGates : FnScope ["web", "choice", "at", "tie"] ["web", "choice"] (defScope sGates) := ⟨rfl, rfl, rfl, by decide +kernel, rfl, by decide +kernel, by decide +kernel⟩
theorem ok_gates (D : Df K mg "gates" sGates ["web", "choice"] f fd) (B : Bi mg) (c_check_web : Has P w K mg base 4 "check_web" (Spd PCheckWeb)) (c_check_choice : Has P w K mg base 5 "check_choice" (Spd PCheckChoice)) (c_check_standing : Has P w K mg base 4 "check_standing" (Spd PStop))
    (c_ties_of : Has P w K mg base 1 "ties_of" (Spd PTies)) (c_stands_by : Has P w K mg base 3 "stands_by" (Spd PStands)) (c_other_way : Has P w K mg base 1 "other_way" (Spd POther)) : FnOk P w K mg base CX0 6 f fd ["web", "choice"] (Spm PGates) := by
  refine D.F.ok scGates (Spm.len (n := 2) fun ds d ⟨_, _, _, _, e, _⟩ => by rw [e]; rfl) (fun cdv A outer s H vs Q E hr h => ?_)
  obtain ⟨G, ds, d, hG, hv, ⟨W, C, ok, st, rfl, rfl⟩, q⟩ := h
  obtain ⟨v, u, rfl, hw, hc⟩ := hv.two
  refine ⟨_, PSs.nox (pss_cons (ps_expr (pe_has c_check_web hr (by decide) (by rfl) (pa_cons (pv 0) pa_nil))) (pss_cons (ps_expr (pe_has c_check_choice hr (by decide) (by rfl) (pa_cons (pv 0) (pa_cons (pv 1) pa_nil)))) (pss_cons (ps_expr (pe_has c_check_standing hr (by decide) (by rfl) (pa_cons (pv 0) (pa_cons (pv 1) pa_nil)))) (pss_one (ps_ret (pe_lc (own := [("at", 2), ("tie", 3)]) rfl scGates.nd (pi_enumK (K := K) rfl (by rfl) B.enumerate (pa_cons (pe_has c_ties_of hr (by decide) (by rfl) (pa_cons (pv 0) pa_nil)) pa_nil)) (blkOk_by (own := [("at", 2), ("tie", 3)]) (N := ["web", "choice", "at", "tie"]) (sc := defScope sGates) (by decide +kernel)) (fun _ _ _ _ _ => (pg_tupK (K := K) (n := 2) rfl rfl (pgs_cons (pg_name (i := 2) scGates.nd rfl (.inl rfl)) (pgs_cons (pg_name (i := 3) scGates.nd rfl (.inl rfl)) pgs_nil)))) (fun _ _ _ _ _ => (pts_one (pt_val (pe_has c_stands_by hr (by decide) (by rfl) (pa_cons (pv 0) (pa_cons (pe_has c_other_way hr (by decide) (by rfl) (pa_cons (pv 1) (pa_cons (pv 2) pa_nil))) pa_nil)))))) (fun _ _ _ _ _ => (pv 3)))))))), ?_⟩
  have hC := st.ok
  have tl := ties_len ok
  have cl := ch_len ok hC
  refine s_drop (M := Z) exZ hG (gd_call (ga_cons (gd_var rfl hw) ga_nil) ⟨W, ok, rfl, rfl⟩) fun G1 H1 s1 => ?_
  refine s_drop (M := Z) exZ s1.gh (gd_call (ga_cons (gd_var rfl (hw.up s1.g)) (ga_cons (gd_var rfl (hc.up s1.g)) ga_nil)) ⟨W, C, ok, hC, rfl, rfl⟩) fun G2 H2 s2 => ?_
  have s12 := s1.trans s2
  refine s_drop (M := Z) exZ s12.gh (gd_call (ga_cons (gd_var rfl (hw.up s12.g)) (ga_cons (gd_var rfl (hc.up s12.g)) ga_nil)) ⟨W, C, ok, st, rfl, rfl⟩) fun G3 H3 s3 => ?_
  have s13 := s12.trans s3
  have hw3 := hw.up s13.g
  have hc3 := hc.up s13.g
  refine lc_mut (M := Z) (fun k => standsB W (flip C k)) (fun k => tieD ((ties W).getD k (0, 0))) (src_enum (gd_call (ga_cons (gd_var rfl hw3) ga_nil) ⟨W, ok, rfl, rfl⟩)) (by rw [List.length_map]; omega) (fun k G4 x hk e4 hx => ?_) H3 exZ s13.gh Q fun p us G' H' s np gp hp du => q p us G' H' (s13.trans s) (fresh_of s13.h np) ⟨gp, hp⟩ (by rw [List.length_map] at du; exact du)
  rw [List.length_map] at hk
  rw [getD_map (z := (0, 0)) hk] at hx
  obtain ⟨a, b, da, db, tg⟩ := tg_two (K := K) (i := 2) (j := 3) (σ1 := wipe (start ["web", "choice", "at", "tie"] [v, u]) [2, 3]) hx
  exact ⟨_, tg, rfl, gt_B (gd_call (ga_cons (gd_var rfl (hw3.up e4)) (ga_cons (gd_call (ga_cons (gd_var rfl (hc3.up e4)) (ga_cons (gd_var rfl da) ga_nil)) ⟨C, k, by rw [hC.1]; exact hk, by omega, rfl, rfl⟩) ga_nil)) ⟨W, flip C k, ok, flip_ok hC k, rfl, rfl⟩), fun _ => gd_var rfl db⟩
theorem scNextGate : FnScope ["web", "choice", "other_choice", "unlike", "at"] ["web", "choice", "other_choice"] (defScope sNextGate) := ⟨rfl, rfl, rfl, by decide +kernel, rfl, by decide +kernel, by decide +kernel⟩
theorem ok_next_gate (D : Df K mg "next_gate" sNextGate ["web", "choice", "other_choice"] f fd) (B : Bi mg) (c_stands_by : Has P w K mg base 3 "stands_by" (Spd PStands)) (c_other_way : Has P w K mg base 1 "other_way" (Spd POther)) : FnOk P w K mg base CX0 4 f fd ["web", "choice", "other_choice"] (Spd PNext) := by
  refine D.F.ok scNextGate (Spd.len (n := 3) fun ds d ⟨_, _, _, _, _, _, _, e, _⟩ => by rw [e]; rfl) (fun cdv A outer s H vs Q E hr h => ?_)
  obtain ⟨G, ds, d, hG, hv, ⟨W, C, C', ok, st, st', ne, rfl, rfl⟩, q⟩ := h
  obtain ⟨v, u, z, rfl, hw, hc, hd⟩ := hv.three
  refine ⟨_, PSs.nox (pss_cons (ps_setLc (i := 3) (own := [("at", 4)]) rfl scNextGate.nd rfl rfl (sw_true rfl rfl rfl (by decide +kernel)) (pi_range1 (by rfl) B.range (pa_cons (pe_callB (call_lenK (K := K) rfl) (by rfl) B.len bb_len (pa_cons (pv 1) pa_nil)) pa_nil)) (blkOk_by (own := [("at", 4)]) (N := ["web", "choice", "other_choice", "unlike", "at"]) (sc := defScope sNextGate) (by decide +kernel)) (fun _ _ _ _ _ => (pg_name (i := 4) scNextGate.nd rfl (.inl rfl))) (fun _ _ _ _ _ => (pts_one (pt_cmpR (op_neDK (K := K) rfl hr.units) (pe_ix (ix_twoK (K := K) rfl) (pv 1) (pv 4) (fun _ _ => rfl)) (pe_ix (ix_twoK (K := K) rfl) (pv 2) (pv 4) (fun _ _ => rfl)) (nomark _)))) (fun _ _ _ _ _ => (pv 4))) (pss_one (ps_ret (pe_ix (ix_twoK (K := K) rfl) (pe_lc (own := [("at", 4)]) rfl scNextGate.nd (pi_lstK (K := K) rfl (pv 3)) (blkOk_by (own := [("at", 4)]) (N := ["web", "choice", "other_choice", "unlike", "at"]) (sc := defScope sNextGate) (by decide +kernel)) (fun _ _ _ _ _ => (pg_name (i := 4) scNextGate.nd rfl (.inl rfl))) (fun _ _ _ _ _ => (pts_one (pt_val (pe_has c_stands_by hr (by decide) (by rfl) (pa_cons (pv 0) (pa_cons (pe_has c_other_way hr (by decide) (by rfl) (pa_cons (pv 1) (pa_cons (pv 4) pa_nil))) pa_nil)))))) (fun _ _ _ _ _ => (pv 4))) pe_int (fun _ _ => rfl))))), ?_⟩
  have hC := st.ok
  have hC' := st'.ok
  have cl := ch_len ok hC
  have e1 := hC.1
  have e2 := hC'.1
  refine s_asg (M := Z) exZ hG ((gd_lc (n := C.length) (fun k => decide (C.getD k 0 ≠ C'.getD k 0)) (fun k => .int (k : Int)) (src_range1 ((gd_lenT (gd_var rfl hc)).is (by rw [List.length_map])) (by omega)) (by omega) fun k G1 x hk e1 hx => ⟨_, tg_name, rfl, gt_test ((gd_ne (gd_ixT (gd_var rfl (hc.up e1)) (gd_var rfl hx) (atI_map (getD_get (z := 0) hk))) (gd_ixT (gd_var rfl (hd.up e1)) (gd_var rfl hx) (atI_map (getD_get (z := 0) (by omega)))) rfl rfl).is ?_), fun _ => gd_var rfl hx⟩).is (show _ = nD (unlike C C') from rfl)) fun l G1 H1 s1 hl => ?_
  · rw [eqv_ints]
    congr 1
    by_cases h : C.getD k 0 = C'.getD k 0 <;> simp [h]
  · obtain ⟨n1, n2, n3⟩ := nextK_ok ok st st' ne
    have hw1 := hw.up s1.g
    have hc1 := hc.up s1.g
    have ul : (unlike C C').length ≤ 45 := by
      have h := List.length_filter_le (fun k => decide (C.getD k 0 ≠ C'.getD k 0)) (List.range C.length)
      rw [List.length_range] at h
      unfold unlike
      omega
    refine s_ret (M := Z) exZ s1.gh (gd_ixL (i := ((0 : Nat) : Int)) ((gd_lc (fun i => standsB W (flip C ((unlike C C').getD i 0))) (fun i => .int ((unlike C C').getD i 0 : Nat)) (src_list (gd_var rfl hl)) (by rw [List.length_map]; omega) fun i G2 x hi e2 hx => ?_).is ?_) gd_int (atI_map (g := fun k : Nat => PyData.int k) n1)) (q.from s1)
    · rw [List.length_map] at hi
      rw [getD_map (z := 0) hi] at hx
      have hk : (unlike C C').getD i 0 < C.length := (mem_unlike.mp (getD_mem hi)).1
      exact ⟨_, tg_name, rfl, gt_B (gd_call (ga_cons (gd_var rfl (hw1.up e2)) (ga_cons (gd_call (ga_cons (gd_var rfl (hc1.up e2)) (ga_cons (gd_var rfl hx) ga_nil)) ⟨C, _, hk, by omega, rfl, rfl⟩) ga_nil)) ⟨W, _, ok, flip_ok hC _, rfl, rfl⟩), fun _ => gd_var rfl hx⟩
    · rw [List.length_map]
      exact congrArg PyData.list (kept1_list (unlike C C') 0 (fun k => standsB W (flip C k)) fun k : Nat => PyData.int k)
theorem scGateRow : FnScope ["web", "choice", "other_choice", "found", "here", "at"] ["web", "choice", "other_choice"] (defScope sGateRow) := ⟨rfl, rfl, rfl, by decide +kernel, rfl, by decide +kernel, by decide +kernel⟩
theorem ok_gate_row (D : Df K mg "gate_row" sGateRow ["web", "choice", "other_choice"] f fd) (B : Bi mg) (c_check_web : Has P w K mg base 4 "check_web" (Spd PCheckWeb)) (c_check_choice : Has P w K mg base 5 "check_choice" (Spd PCheckChoice)) (c_check_standing : Has P w K mg base 4 "check_standing" (Spd PStop))
    (c_ties_of : Has P w K mg base 1 "ties_of" (Spd PTies)) (c_next_gate : Has P w K mg base 4 "next_gate" (Spd PNext)) (c_other_way : Has P w K mg base 1 "other_way" (Spd POther)) : FnOk P w K mg base CX0 6 f fd ["web", "choice", "other_choice"] (Spm PGateRow) := by
  refine D.F.ok scGateRow (Spm.len (n := 3) fun ds d ⟨_, _, _, _, _, _, e, _⟩ => by rw [e]; rfl) (fun cdv A outer s H vs Q E hr h => ?_)
  obtain ⟨G, ds, d, hG, hv, ⟨W, C, C', ok, st, st', rfl, rfl⟩, q⟩ := h
  obtain ⟨v, u, z, rfl, hw, hc, hd⟩ := hv.three
  refine ⟨_, PSs.nox (pss_cons (ps_expr (pe_has c_check_web hr (by decide) (by rfl) (pa_cons (pv 0) pa_nil))) (pss_cons (ps_expr (pe_has c_check_choice hr (by decide) (by rfl) (pa_cons (pv 0) (pa_cons (pv 1) pa_nil)))) (pss_cons (ps_expr (pe_has c_check_choice hr (by decide) (by rfl) (pa_cons (pv 0) (pa_cons (pv 2) pa_nil)))) (pss_cons (ps_expr (pe_has c_check_standing hr (by decide) (by rfl) (pa_cons (pv 0) (pa_cons (pv 1) pa_nil)))) (pss_cons (ps_expr (pe_has c_check_standing hr (by decide) (by rfl) (pa_cons (pv 0) (pa_cons (pv 2) pa_nil)))) (pss_cons (ps_par (i := 3) (j := 4) rfl scGateRow.nd rfl rfl (by decide) rfl rfl (pa_cons (pe_lst pa_nil) (pa_cons (pv 1) pa_nil)) (by rfl)) (pss_cons (ps_while PassesOwn.never (pt_cmpR (op_neDK (K := K) rfl hr.units) (pv 4) (pv 2) (nomark _)) (pss_cons (ps_set (i := 5) scGateRow.nd rfl (.inl rfl) (pe_has c_next_gate hr (by decide) (by rfl) (pa_cons (pv 0) (pa_cons (pv 4) (pa_cons (pv 2) pa_nil))))) (pss_cons (ps_expr (pe_bm PySem.F.plainAttrs_list PySem.F.slot_list_append PySem.F.type_list_append mt_append (pv 3) (pa_cons (pe_ix (ix_twoK (K := K) rfl) (pe_has c_ties_of hr (by decide) (by rfl) (pa_cons (pv 0) pa_nil)) (pv 5) (fun _ _ => rfl)) pa_nil))) (pss_one (ps_set (i := 4) scGateRow.nd rfl (.inl rfl) (pe_has c_other_way hr (by decide) (by rfl) (pa_cons (pv 4) (pa_cons (pv 5) pa_nil)))))))) (pss_one (ps_ret (pv 3)))))))))), ?_⟩
  have hC := st.ok
  have hC' := st'.ok
  have tl := ties_len ok
  have e2 := hC'.1
  refine s_drop (M := Z) exZ hG (gd_call (ga_cons (gd_var rfl hw) ga_nil) ⟨W, ok, rfl, rfl⟩) fun G1 H1 s1 => ?_
  refine s_drop (M := Z) exZ s1.gh (gd_call (ga_cons (gd_var rfl (hw.up s1.g)) (ga_cons (gd_var rfl (hc.up s1.g)) ga_nil)) ⟨W, C, ok, hC, rfl, rfl⟩) fun G2 H2 s2 => ?_
  have s12 := s1.trans s2
  refine s_drop (M := Z) exZ s12.gh (gd_call (ga_cons (gd_var rfl (hw.up s12.g)) (ga_cons (gd_var rfl (hd.up s12.g)) ga_nil)) ⟨W, C', ok, hC', rfl, rfl⟩) fun G3 H3 s3 => ?_
  have s13 := s12.trans s3
  refine s_drop (M := Z) exZ s13.gh (gd_call (ga_cons (gd_var rfl (hw.up s13.g)) (ga_cons (gd_var rfl (hc.up s13.g)) ga_nil)) ⟨W, C, ok, st, rfl, rfl⟩) fun G4 H4 s4 => ?_
  have s14 := s13.trans s4
  refine s_drop (M := Z) exZ s14.gh (gd_call (ga_cons (gd_var rfl (hw.up s14.g)) (ga_cons (gd_var rfl (hd.up s14.g)) ga_nil)) ⟨W, C', ok, st', rfl, rfl⟩) fun G5 H5 s5 => ?_
  have s15 := s14.trans s5
  refine ⟨Nat.zero_le _, fun p np => ⟨u, rfl, _, _, rfl, ?_⟩⟩
  have s16 := s15.new (o := .lst []) np
  refine s_while (unlike C C').length (fun t σ G' H' => ∃ (Ct : List Int) (rows : List (Nat × Nat)) (h : V) (us : List V) (l : Option V), Stp G H G' H' ∧ Stands W Ct ∧ Dx G' h (chD Ct) ∧ Hold G' H' p us ∧ DxA G' us (rows.map tieD) ∧ gateRow W C C' = rows ++ rowFrom W C' (unlike Ct C').length Ct ∧ (unlike Ct C').length + t = (unlike C C').length ∧ rows.length = t ∧ σ = [some v, some u, some z, some (.ref p), some h, l])
    s16.gh ⟨C, [], u, [], none, s16, st, hc.up s16.g, Hold.made s15.gh np, .nil, rfl, rfl, rfl, rfl⟩ ?_
  rintro t σ' G6 H6 ht gh6 ⟨Ct, rows, h, us, l, s6, stt, dh, ho, du, eg, en, er, rfl⟩
  have ul : (unlike C C').length ≤ 45 := by
    have h := List.length_filter_le (fun k => decide (C.getD k 0 ≠ C'.getD k 0)) (List.range C.length)
    rw [List.length_range] at h
    have := ch_len ok hC
    unfold unlike
    omega
  refine ⟨decide (Ct ≠ C'), Z, exZ, gt_test ((gd_ne (gd_var rfl dh) (gd_var rfl (hd.up s6.g)) (lay_chD _).sh (lay_chD _).sh).is ?_), fun hb => ?_, fun hb => ?_⟩
  · rw [eqv_ch]
    congr 1
    by_cases h : Ct = C' <;> simp [h]
  · have ne : Ct ≠ C' := of_decide_eq_true hb
    obtain ⟨n1, n2, n3⟩ := nextK_ok ok stt st' ne
    have pos : 0 < (unlike Ct C').length := List.length_pos_of_mem n2
    have hk : nextK W Ct C' < Ct.length := (mem_unlike.mp n2).1
    have hkt : nextK W Ct C' < (ties W).length := by rw [← stt.ok.1]; exact hk
    have clt := ch_len ok stt.ok
    refine ⟨by omega, fun G7 H7 s7 => ?_⟩
    have s67 := s6.trans s7
    refine s_asg (M := Z) exZ s7.gh (gd_call (ga_cons (gd_var rfl (hw.up s67.g)) (ga_cons (gd_var rfl (dh.up s7.g)) (ga_cons (gd_var rfl (hd.up s67.g)) ga_nil))) ⟨W, Ct, C', ok, stt, st', ne, rfl, rfl⟩) fun a G8 H8 s8 da => ?_
    have s68 := s67.trans s8
    have ho8 := (ho.step s7).step s8
    have lus : us.length = t := by
      have := du.length
      rw [List.length_map] at this
      omega
    refine s_app (M := Z) exZ s8.gh ho8 rfl (by omega) (gd_ixL (gd_call (ga_cons (gd_var rfl (hw.up s68.g)) ga_nil) ⟨W, ok, rfl, rfl⟩) (gd_var rfl da) (atI_map (getD_get (z := (0, 0)) hkt))) fun x G9 H9 s9 ho9 dx => ?_
    have s69 := s68.trans s9
    have np0 : H p = none := fresh_of s15.h np
    have sA := ho9.stp (o := .lst (us ++ [x])) s69 np0
    have duA : DxA G9 (us ++ [x]) ((rows ++ [(ties W).getD (nextK W Ct C') (0, 0)]).map tieD) := by
      rw [List.map_append]
      exact (du.up ((s7.g.trans s8.g).trans s9.g)).append (.cons dx .nil)
    refine s_asgE (M := Z) exZ (ho9.ex s9.gh) (gd_call (ga_cons (gd_var rfl (dh.up ((s7.g.trans s8.g).trans s9.g))) (ga_cons (gd_var rfl (da.up s9.g)) ga_nil)) ⟨Ct, _, hk, by omega, rfl, rfl⟩) fun y G10 H10 s10 dy => ?_
    have hoA : Hold G9 (upd H9 p (.lst (us ++ [x]))) p (us ++ [x]) := ho9.put
    have hl := unlike_flip_len stt.ok st'.ok n2
    exact ⟨G10, s10.gh, flip Ct (nextK W Ct C'), rows ++ [(ties W).getD (nextK W Ct C') (0, 0)], y, us ++ [x], _, sA.trans s10, n3, dy, hoA.step s10, duA.up s10.g, by
      rw [eg, rowFrom_step ok stt st' ne, List.append_assoc]
      rfl, by omega, by rw [List.length_append, er]; rfl, rfl⟩
  · have e : Ct = C' := Decidable.byContradiction fun z => of_decide_eq_false hb z
    subst e
    have e0 : unlike Ct Ct = [] := (unlike_nil stt.ok st'.ok).mpr rfl
    rw [e0] at eg
    have er2 : gateRow W C Ct = rows := eg.trans (List.append_nil _)
    rw [er2] at q
    exact fun G7 H7 s7 => ⟨_, rfl, q p us G7 H7 (s6.trans s7) (fresh_of s15.h np) (ho.step s7) (du.up s7.g)⟩
end
end Sg

/-! len(set(xs)), xs a list of tuples of ints of any length with few distinct ones -/
namespace Sg
open PySem PySem.Spec PyProof.Rows L2
open Evl (Ex)
abbrev Keyed := List (Addr × List Int)
/-- whatever comes together from ks without one twice stays small -/
def Few (ks : Keyed) : Prop := ∀ M : Keyed, (∀ p ∈ M, p ∈ ks) → (M.map (·.2)).Nodup → M.length < 63
section
variable {P : Program} {w : World} {A : Around} {E : Value → Shared → Prop} {u : Shared}
/-- the loop of set.update, counted by the distinct ones -/
theorem update_few {I : Addr} {fp wr : List Addr} {Gn : Array GenState → Array GenState → Prop} {n : Nat} {Pv : Nat → Value → Prop} {Sn : Nat → Shared → Prop} {R : Result → Shared → Prop}
    (W : WalksS P w A.in1 I fp wr Gn n Pv Sn) (S : Addr) (nfp : S ∉ fp) (ks : Keyed) (len : n = ks.length) (few : Few ks) (val : ∀ i v, Pv i v → ∃ p, ks[i]? = some p ∧ v = .ref p.1)
    (g0 : Heap) (tups : ∀ p ∈ ks, IsT P w g0 p.2 p.1) (fresh : g0.get? S = none) (frw : ∀ b ∈ wr, g0.get? b = none) (room : A.in1.units < cLine) :
    ∀ (k i : Nat) (u : Shared), n - i = k → i ≤ n → Sn i u → (∀ b o, g0.get? b = some o → u.heap.get? b = some o) → (∃ M es ep t, SetTR P w u.heap S M es ep t ∧ Got ks i M) →
      (∀ u' M es ep t, Moved (S :: wr) Gn u u' → SetTR P w u'.heap S M es ep t → Got ks n M → (∀ b o, g0.get? b = some o → u'.heap.get? b = some o) → R (.ok (.ret .none)) u') →
      codeAny (model P w) A (.builtin "set.update.loop" ⟨[.ref S, .ref I], []⟩) R u := by
  have nwr : S ∉ wr := fun q => nfp (W.sub _ q)
  have wider : ∀ b ∈ wr, b ∈ S :: wr := fun b hb => List.mem_cons_of_mem _ hb
  have stay : ∀ {u u' : Shared}, Moved wr Gn u u' → (∀ b o, g0.get? b = some o → u.heap.get? b = some o) → ∀ b o, g0.get? b = some o → u'.heap.get? b = some o := fun mv kp b o e =>
    mv.heap b o (fun hb => by rw [frw b hb] at e; cases e) (kp b o e)
  intro k
  induction k with
  | zero =>
    intro i u hk hi st kp ⟨M, es, ep, t, hS, got⟩ fin
    obtain rfl : i = n := by omega
    refine codeAny_builtin F.entry_set_update_loop ?_
    rw [Around.under_plainId F.plain_set_update_loop _]
    show wpAny _ A.in1 (pyNext (.ref I) >>= _) _ _ u
    refine wpAny_bind (W.done u _ _ st fun u' mv => ?_)
    show wpAny _ A.in1 (ret Value.none) _ _ u'
    have kp' := stay mv kp
    have sub : ∀ p ∈ M, p ∈ ks := fun p hp => List.mem_of_mem_take (got.sub p hp)
    exact wpAny_pure (fin u' M es ep t (mv.mono wider) (hS.keep (fun o e => mv.heap S o nwr e) fun p hp => isT_keep (tups p (sub p hp)) kp') got kp')
  | succ k ih =>
    intro i u hk hi st kp ⟨M, es, ep, t, hS, got⟩ fin
    have lt : i < n := by omega
    refine codeAny_builtin F.entry_set_update_loop ?_
    rw [Around.under_plainId F.plain_set_update_loop _]
    show wpAny _ A.in1 (pyNext (.ref I) >>= _) _ _ u
    refine wpAny_bind (W.item i u _ _ lt st fun v u' hv st' mv => ?_)
    obtain ⟨p, hp, rfl⟩ := val i v hv
    have kp' := stay mv kp
    have sub : ∀ p ∈ M, p ∈ ks := fun p hp => List.mem_of_mem_take (got.sub p hp)
    have hS' : SetTR P w u'.heap S M es ep t := hS.keep (fun o e => mv.heap S o nwr e) fun q hq => isT_keep (tups q (sub q hq)) kp'
    have hx : IsT P w u'.heap p.2 p.1 := isT_keep (tups p (List.mem_of_getElem? hp)) kp'
    show wpAny _ A.in1 (holding [Value.ref p.1] (setAdd S (.ref p.1)) >>= _) _ _ u'
    refine wpAny_bind (wpAny_holding ?_)
    unfold setAdd
    refine wpAny_holding (wpAny_bind (wpAny_pyHash_tuple room hx ?_))
    refine add_at (s := { u' with toks := u'.toks + (p.2.length + 1) }) hS' hx room (Nat.succ_lt_succ (few M sub hS.nd)) fun b g1 M1 es1 ep1 t1 sb hS1 c1 c2 => ?_
    have got1 : Got ks (i + 1) M1 := (Classical.em (p.2 ∈ M.map (·.2))).elim (fun c => by rw [c1 c]; exact got.same hp c) fun c => got.more hp (c2 c)
    have kp1 : ∀ b o, g0.get? b = some o → g1.get? b = some o := fun b o e => (sb.2 b (fun z => by rw [z, fresh] at e; cases e)).trans (kp' b o e)
    refine wpAny_pure ⟨plainId_quiet F.plain_set_update_loop _, ih (i + 1) _ (by omega) lt (W.frame _ u' _ _ st' (Nat.le_add_right _ _) fun b hb o e => ?_) kp1 ⟨M1, es1, ep1, t1, hS1, got1⟩ fun u2 M2 es2 ep2 t2 mv2 hS2 got2 kp2 => ?_⟩
    · exact (sb.2 b fun q : b = S => nfp (by rw [← q]; exact hb)).trans e
    · refine fin u2 M2 es2 ep2 t2 (Moved.trans W.gtrans ((mv.mono wider).then_heap (Nat.le_add_right _ _) fun b o hb e => ?_) mv2) hS2 got2 kp2
      exact (sb.2 b fun q : b = S => hb (by rw [q]; exact List.mem_cons_self)).trans e
/-- a set as it is made -/
abbrev setNew (w : World) : Obj := { cls := .type "set", dict := none, data := .set #[] 0 (.fresh 0 0 (!w.params.followText "set-order")) }
set_option maxHeartbeats 3200000 in
theorem set_few {l : Addr} {items : Array Value} (ks : Keyed) {Q : Value → Shared → Prop} (off : A.handled = none) (lst : u.heap.IsList l items) (its : items.toList = ks.map fun p => Value.ref p.1)
    (tups : ∀ p ∈ ks, IsT P w u.heap p.2 p.1) (few : Few ks) (room : A.units + 3 < cLine)
    (fin : ∀ (g' : Heap) (tk : Nat) M es ep t, SetTR P w g' u.heap.objs.size M es ep t → Got ks ks.length M → (∀ b o, u.heap.get? b = some o → g'.get? b = some o) → Q (.ref u.heap.objs.size) { u with heap := g', toks := tk }) :
    wpAny (model P w) A (call (.type "set") [.ref l]) Q E u := by
  have sz : items.size = ks.length := by
    have q := congrArg List.length its
    rwa [Array.length_toList, List.length_map] at q
  obtain ⟨c, tl, hmro⟩ := F.called_set.mro
  have hmade := F.called_set.made
  have hsub := F.called_set.sub
  refine wpAny_call (codeAny_of_tree ?_)
  show wpAny _ _ (callAny (.type "set") _) _ _ _
  refine wpAny_pure ⟨Code.quiet_builtin _ (by decide +kernel), codeAny_builtin F.entry_type_call ?_⟩
  rw [Around.under_plain (weight_type_call_type "set" [.ref l] []) rfl]
  have r1 := F.called_set.notType
  have r2 := F.called_set.canCreate
  have rt := F.typeCall_set_1 (.ref l)
  repeat (any_goals (first | assumption | wp_step))
  refine codeAny_mono (code_set_led1 (.ref l) (E := E) (Q₁ := fun obj u1 => obj = .ref u.heap.objs.size ∧ u1 = { u with heap := u.heap.push (setNew w) }) ⟨rfl, rfl⟩) fun r u1 hr => ?_
  cases r with
  | error e => exact hr
  | ok fl =>
    cases fl with
    | ret obj =>
      obtain ⟨rfl, rfl⟩ := hr
      have hS : (u.heap.push (setNew w)).get? u.heap.objs.size = some (setNew w) := Heap.get?_push_size _ rfl
      have hT : Shared.TypeIs { u with heap := u.heap.push (setNew w) } (.ref u.heap.objs.size) "set" := ⟨_, hS, rfl⟩
      have hli := F.called_set.init.lookup
      have hbi := F.called_set.init.bind (.ref u.heap.objs.size)
      repeat (any_goals (first | assumption | wp_step))
      refine codeAny_mono (codeAny_call_builtin (R := wants (fun r u2 => r = .none ∧ ∃ g' tk M es ep t, u2 = { u with heap := g', toks := tk } ∧ SetTR P w g' u.heap.objs.size M es ep t ∧ Got ks ks.length M ∧
          (∀ b o, u.heap.get? b = some o → g'.get? b = some o)) E) F.called_set.init.plain F.entry_set_init (check_set_init_1 hT ?_)) fun r₂ u2 hr₂ => ?_
      · obtain ⟨⟨ocls, odict, odata, oslots⟩, hol, hcl, nl, hdl⟩ := id lst
        simp only at hcl hdl
        subst hcl
        subst hdl
        have hol' : (u.heap.push (setNew w)).get? l = some { cls := .type "list", dict := odict, data := .seq items nl, slots := oslots } := Heap.get?_push_of_some _ hol
        have hsls := F.sub_list_set
        have hslf := F.sub_list_frozenset
        have hne : (Value.type "list" == Value.type "dict") = false := by decide
        have lst1 : (u.heap.push (setNew w)).IsList l items := ⟨_, hol', rfl, nl, rfl⟩
        unfold Builtin.«set.__init__» noKeywords Builtin.Frozenset.updateFrom
        generalize hPI : pyIter = PI
        wp_walk
        subst hPI
        refine wpAny_pyIter_list lst1 (wpAny_bind (wpAny_runValue ?_))
        have ltl : l < u.heap.objs.size := Heap.lt_size hol
        have off3 : A.in1.in1.in1.handled = none := by simp [off]
        have neI : l ≠ (u.heap.push (setNew w)).objs.size := by
          rw [Heap.size_push]
          exact Nat.ne_of_lt (Nat.lt_succ_of_lt ltl)
        have nS : u.heap.objs.size ∉ [(u.heap.push (setNew w)).objs.size, l] := by
          rw [Heap.size_push]
          intro q
          rcases List.mem_cons.mp q with q | q
          · exact absurd q (Nat.ne_of_lt (Nat.lt_succ_self _))
          · exact absurd (List.mem_singleton.mp q) (Nat.ne_of_gt ltl)
        have val : ∀ (i : Nat) (v : Value), items[i]? = some v → ∃ p, ks[i]? = some p ∧ v = .ref p.1 := fun i v hv => by
          have q : items.toList[i]? = some v := by rw [Array.getElem?_toList]; exact hv
          rw [its, List.getElem?_map] at q
          obtain ⟨p, hp, e⟩ := Option.map_eq_some_iff.mp q
          exact ⟨p, hp, e.symm⟩
        have gone : ∀ b, u.heap.objs.size ≤ b → u.heap.get? b = none := fun b hb => by
          cases q : u.heap.get? b with
          | none => rfl
          | some o => exact absurd (Nat.lt_of_lt_of_le (Heap.lt_size q) hb) (Nat.lt_irrefl _)
        refine update_few ((Walks.list off3 _ l neI items).toS) u.heap.objs.size nS ks sz few val u.heap tups (gone _ (Nat.le_refl _)) (fun b hb => gone b ?below) room (items.size - 0) 0 _ (by omega) (Nat.zero_le _)
          ⟨⟨_, Heap.get?_push_size _ rfl, rfl, rfl⟩, (lst1.push _)⟩ (fun b o e => Heap.get?_push_of_some _ (Heap.get?_push_of_some _ e)) ?begin ?finish
        case below =>
          rw [List.mem_singleton.mp hb, Heap.size_push]
          exact Nat.le_succ _
        case begin => exact ⟨[], #[], 0, _, setTR_fresh (Heap.get?_push_of_some _ hS), Got.zero ks⟩
        case finish =>
          intro u' M es ep t mv hS' got kp
          obtain ⟨g', g2, d', tk', os'⟩ := u'
          have e1 : g2 = u.gens := mv.gens
          have e2 : d' = u.drawn := mv.drawn
          have e3 : os' = u.os := mv.os
          subst e1 e2 e3
          show wpAny _ _ _ _ _ _
          refine wpAny_pure ?_
          show wpAny _ _ (ret Value.none) _ _ _
          rw [sz] at got
          exact wpAny_pure ⟨rfl, g', tk', M, es, ep, t, rfl, hS', got, kp⟩
      · cases r₂ with
        | error e => exact hr₂
        | ok fl₂ =>
          cases fl₂ with
          | ret r =>
            obtain ⟨rfl, g', tk, M, es, ep, t, rfl, hS', got, kp⟩ := hr₂
            repeat (any_goals (first | assumption | wp_step))
            exact fin _ _ _ _ _ _ hS' got kp
          | _ => exact hr₂.elim
    | _ => exact hr.elim
end
/-- len(set(xs)) -/
def tLenSetT (K : PySem.W.Frag) (ta : TE) : TE := fun σ H Q => ta σ H fun x H1 => ∃ (l : Addr) (ks : Keyed), x = V.ref l ∧ SqL K H1 l (ks.map fun p => V.ref p.1) ∧ (∀ p ∈ ks, SqT K H1 p.1 (p.2.map V.int)) ∧ Few ks ∧
  ∀ M : Keyed, (∀ p ∈ M, p ∈ ks) → (∀ p ∈ ks, p.2 ∈ M.map (·.2)) → (M.map (·.2)).Nodup → Q (.int M.length) H1
theorem pe_lenSetT {X : Cx} {K : PySem.W.Frag} {a : Expr} {ta : TE} {p p2 q pos : Pos} (eK : X.K = K) (calm : X.calm = true) (hu : X.A.units + 64 < cLine) (hg : Gl X "len") (hm : X.mg "len" = none) (hg2 : Gl X "set") (hm2 : X.mg "set" = none) (ha : PE X a ta)
    (na : starEach [a] X.env = (false, eval a X.env) :: starEach [] X.env := by rfl) : PE X (.Call (.Name "len" p) [.Call (.Name "set" p2) [a] [] q] [] pos) (tLenSetT K ta) := by
  subst eK
  refine ⟨fun pins u σ H Q I h => Call_ (ld_blt I hg hm PySem.boot_len (PyProof.Rows.callWith_builtin1 (PyProof.Rows.args_cons (Call_ (ld_blt I hg2 hm2 PyProof.Rows.boot_set ?_)) rfl) rfl rfl))⟩
  refine PyProof.Rows.callWith_type1 (PyProof.Rows.args_cons (thn (ha.run pins u σ H _ I h) fun v u1 ⟨x, H1, I1, r1, q1⟩ => PyProof.Rows.args_nil ?_) na) na rfl
  obtain ⟨l, ks, rfl, hq, hk, few, q1⟩ := q1
  cases r1
  obtain ⟨its, rv, pl, hz⟩ := I1.list hq
  refine set_few (P := X.prog) (w := X.w) ks (I1.ok.hd calm) pl.isList (by simpa using refs_of_vals rv) (fun p hp => I1.isT (hk p hp)) few (by omega) fun g' tk M es ep t R got kp => PyProof.Rows.args_nil ?_
  obtain ⟨o, ho, hex, hd⟩ := R.ob
  have I2 : Inv X pins σ H1 { u1 with heap := g', toks := tk } := I1.kept fun b o e => kp b o e
  have hn := SetTR.size (s := { u1 with heap := g', toks := tk }) R
  have hf := R.few
  have small : M.length < 63 := few M (fun p hp => List.mem_of_mem_take (got.sub p hp)) R.nd
  refine call_len_set (s := { u1 with heap := g', toks := tk }) ho hex hd (SetTR.fits (s := { u1 with heap := g', toks := tk }) R) (by omega) ⟨.int M.length, H1, I2.tok _, ⟨_, by rw [hn]⟩, q1 M (fun p hp => List.mem_of_mem_take (got.sub p hp)) (fun p hp => got.all p (by rw [List.take_length]; exact hp)) R.nd⟩
end Sg

/-! is_gate_row -/
namespace Sg
open PySem PySem.Spec PyProof.Rows L2
open Evl (Ex)
theorem not_nodup {α : Type} [DecidableEq α] : ∀ {m : List α}, ¬ m.Nodup → ∃ r : List α, r.length < m.length ∧ ∀ x ∈ m, x ∈ r
  | [], h => absurd List.nodup_nil h
  | a :: m, h => by
    by_cases ha : a ∈ m
    · refine ⟨m, by rw [List.length_cons]; omega, fun x hx => ?_⟩
      rcases List.mem_cons.mp hx with rfl | hx
      · exact ha
      · exact hx
    · have hm : ¬ m.Nodup := fun n => h (List.nodup_cons.mpr ⟨ha, n⟩)
      obtain ⟨r, h1, h2⟩ := not_nodup hm
      refine ⟨a :: r, by rw [List.length_cons, List.length_cons]; omega, fun x hx => ?_⟩
      rcases List.mem_cons.mp hx with rfl | hx
      · exact List.mem_cons_self
      · exact List.mem_cons_of_mem _ (h2 x hx)
/-- fewer, told apart: some stand twice -/
theorem len_apart {α : Type} [DecidableEq α] {l m : List α} (h : l.Nodup) (h1 : ∀ x ∈ l, x ∈ m) (h2 : ∀ x ∈ m, x ∈ l) : l.length < m.length ↔ ¬ m.Nodup := by
  constructor
  · intro lt n
    have := nodup_le n h2
    omega
  · intro n
    obtain ⟨r, r1, r2⟩ := not_nodup n
    have := nodup_le h (m := r) fun x hx => r2 x (h1 x hx)
    omega
def prI (t : Nat × Nat) : List Int := [t.1, t.2]
theorem prI_inj {t u : Nat × Nat} (h : prI t = prI u) : t = u := by
  unfold prI at h
  obtain ⟨a, b⟩ := t
  obtain ⟨c, d⟩ := u
  simp only [List.cons.injEq, and_true] at h
  exact Prod.ext (by show a = c; omega) (by show b = d; omega)
theorem nodup_prI {l : List (Nat × Nat)} : (l.map prI).Nodup ↔ l.Nodup := ⟨fun h => List.Pairwise.of_map prI (fun a b n e => n (congrArg prI e)) h, fun h => List.Pairwise.map prI (fun a b n e => n (prI_inj e)) h⟩
theorem keys_of {G : Hp} : ∀ {l : List (Nat × Nat)} {vs : List V}, DxA G vs (l.map tieD) → ∃ ks : Keyed, vs = ks.map (fun p => V.ref p.1) ∧ ks.map (·.2) = l.map prI ∧ ∀ p ∈ ks, G p.1 = some (.tup (p.2.map V.int))
  | [], _, .nil => ⟨[], rfl, rfl, fun p hp => nomatch hp⟩
  | t :: l, _, .cons h hs => by
    obtain ⟨a, xs, rfl, ga, hx⟩ := h.tup_of
    obtain ⟨x, y, rfl, d1, d2⟩ := hx.two
    cases d1
    cases d2
    obtain ⟨ks, rfl, e2, k⟩ := keys_of hs
    refine ⟨(a, prI t) :: ks, rfl, by rw [List.map_cons, e2]; rfl, fun p hp => ?_⟩
    rcases List.mem_cons.mp hp with rfl | hp
    · exact ga
    · exact k p hp
section
variable {K : PySem.W.Frag} {σ : L2.St} {M G : Hp} {te : TE}
/-- len(set(l)) < len(l) -/
theorem gd_twice {W : Web} (ok : WebOk W) {ts : List (Nat × Nat)} {i : Nat} {v : V} (h : σ[i]? = some (some v)) (hd : Dx G v (tieL ts)) (ht : ∀ t ∈ ts, t ∈ ties W) :
    Gd (tOp (rI0 fun i j => .bl (decide (i < j))) (tLenSetT K (tVar i)) (tCB (rLen2 K) (tCons (tVar i) tNil))) σ M G (.bool (!decide ts.Nodup)) := fun H hM hG Q q => by
  obtain ⟨a, xs, rfl, ga, hx⟩ := hd.lst_of
  obtain ⟨ks, rfl, e2, k⟩ := keys_of hx
  refine ⟨_, h, a, ks, rfl, SqL.of (hG _ _ ga), fun p hp => SqT.of (hG _ _ (k p hp)), fun L hL nd => ?_, fun L hL1 hL2 nd => ⟨_, h, a, _, rfl, .inl (SqL.of (hG _ _ ga)), _, _, rfl, rfl, ?_⟩⟩
  · have tl := ties_len ok
    have le := nodup_le nd (m := (ties W).map prI) fun x hx => by
      obtain ⟨p, hp, rfl⟩ := List.mem_map.mp hx
      have hm : p.2 ∈ ks.map (·.2) := List.mem_map.mpr ⟨p, hL p hp, rfl⟩
      rw [e2] at hm
      obtain ⟨t, h1, h2⟩ := List.mem_map.mp hm
      rw [← h2]
      exact List.mem_map.mpr ⟨t, ht t h1, rfl⟩
    rw [List.length_map, List.length_map] at le
    omega
  · have ap := len_apart nd (m := ks.map (·.2)) (fun x hx => by
      obtain ⟨p, hp, rfl⟩ := List.mem_map.mp hx
      exact List.mem_map.mpr ⟨p, hL1 p hp, rfl⟩) fun x hx => by
      obtain ⟨p, hp, rfl⟩ := List.mem_map.mp hx
      exact hL2 p hp
    rw [List.length_map, List.length_map, e2, nodup_prI] at ap
    have e : decide (((L.length : Nat) : Int) < ((ks.map fun p => V.ref p.1).length : Nat)) = !decide ts.Nodup := by
      rw [List.length_map]
      by_cases n : ts.Nodup
      · have : ¬ L.length < ks.length := fun z => ap.mp z n
        rw [decide_eq_false (by omega), decide_eq_true n] <;> rfl
      · have : L.length < ks.length := ap.mpr n
        rw [decide_eq_true (by omega), decide_eq_false n] <;> rfl
    show Q (.bl (decide (((L.length : Nat) : Int) < ((ks.map fun p => V.ref p.1).length : Nat)))) H
    rw [e]
    exact q _ G H (Stp.refl hG) (.bl _)
end
noncomputable def leadsB (W : Web) (C C' : List Int) (x : PyData) : Bool := @decide (∃ ts : List (Nat × Nat), x = tieL ts ∧ Leads W C C' ts) (Classical.propDecidable _)
theorem leadsB_true {W : Web} {C C' : List Int} {x : PyData} : leadsB W C C' x = true ↔ ∃ ts : List (Nat × Nat), x = tieL ts ∧ Leads W C C' ts := by
  unfold leadsB
  exact @decide_eq_true_iff _ (Classical.propDecidable _)
theorem leadsB_false {W : Web} {C C' : List Int} {x : PyData} (h : ¬ ∃ ts : List (Nat × Nat), x = tieL ts ∧ Leads W C C' ts) : leadsB W C C' x = false := by
  cases q : leadsB W C C' x with
  | false => rfl
  | true => exact absurd (leadsB_true.mp q) h
theorem map_tieD_inj : ∀ {l m : List (Nat × Nat)}, l.map tieD = m.map tieD → l = m
  | [], [], _ => rfl
  | [], b :: m, h => by cases h
  | a :: l, [], h => by cases h
  | a :: l, b :: m, h => by
    rw [List.map_cons, List.map_cons] at h
    injection h with h1 h2
    have e : some a = some b := by rw [← asTie_tieD a, ← asTie_tieD b, h1]
    rw [Option.some.inj e, map_tieD_inj h2]
theorem tieL_inj {l m : List (Nat × Nat)} (h : tieL l = tieL m) : l = m := by
  unfold tieL at h
  injection h with h
  exact map_tieD_inj h
/-- a list of nothing but ties -/
theorem all_ties {W : Web} : ∀ {xs : List PyData}, (∀ x ∈ xs, isTieB W x = true) → ∃ ts : List (Nat × Nat), xs = ts.map tieD ∧ ∀ t ∈ ts, t ∈ ties W
  | [], _ => ⟨[], rfl, fun t ht => nomatch ht⟩
  | x :: xs, h => by
    obtain ⟨t, ht, rfl⟩ := isTieB_true (h x List.mem_cons_self)
    obtain ⟨ts, rfl, hts⟩ := all_ties (W := W) (xs := xs) fun y hy => h y (List.mem_cons_of_mem _ hy)
    refine ⟨t :: ts, rfl, fun u hu => ?_⟩
    rcases List.mem_cons.mp hu with rfl | hu
    · exact ht
    · exact hts u hu
/-- the values that are judged -/
def OkL (x : PyData) : Prop := ∀ xs, x = .list xs → xs.length ≤ 200
def PIsRow (ds : List PyData) (d : PyData) : Prop := ∃ W C C' x, WebOk W ∧ ChOk W C ∧ ChOk W C' ∧ OkL x ∧ ds = [webD W, chD C, chD C', x] ∧ d = .bool (leadsB W C C' x)
theorem is_list_no {x : PyData} (h : isA "list" x = false) : ∀ ts, x ≠ tieL ts := fun ts e => by
  subst e
  exact Bool.noConfusion (show true = false from h)
theorem is_list_yes {x : PyData} (h : isA "list" x = true) : ∃ xs, x = .list xs := by
  cases x with
  | list xs => exact ⟨xs, rfl⟩
  | _ => exact Bool.noConfusion (show false = true from h)
theorem map_getD {α β : Type} (l : List α) (z : α) (f : α → β) : (List.range l.length).map (fun i => f (l.getD i z)) = l.map f := by
  refine List.ext_getElem (by simp) fun i h1 h2 => ?_
  rw [List.length_map] at h2
  simp [h2]
section
variable {P : Program} {w : World} {K : PySem.W.Frag} {mg : Str → Option Value} {base : Heap} {f : Addr} {fd : FuncData}
theorem scIsGateRow : FnScope ["web", "choice", "other_choice", "value", "tie", "here"] ["web", "choice", "other_choice", "value"] (defScope sIsGateRow) := ⟨rfl, rfl, rfl, by decide +kernel, rfl, by decide +kernel, by decide +kernel⟩
theorem ok_is_gate_row (D : Df K mg "is_gate_row" sIsGateRow ["web", "choice", "other_choice", "value"] f fd) (B : Bi mg) (c_check_web : Has P w K mg base 4 "check_web" (Spd PCheckWeb)) (c_check_choice : Has P w K mg base 5 "check_choice" (Spd PCheckChoice)) (c_is_tie : Has P w K mg base 3 "is_tie" (Spd PIsTie))
    (c_ties_of : Has P w K mg base 1 "ties_of" (Spd PTies)) (c_stands_by : Has P w K mg base 3 "stands_by" (Spd PStands)) (c_other_way : Has P w K mg base 1 "other_way" (Spd POther)) : FnOk P w K mg base CX0 6 f fd ["web", "choice", "other_choice", "value"] (Spd PIsRow) := by
  refine D.F.ok scIsGateRow (Spd.len (n := 4) fun ds d ⟨_, _, _, _, _, _, _, _, e, _⟩ => by rw [e]; rfl) (fun cdv A outer s H vs Q E hr h => ?_)
  obtain ⟨G, ds, d, hG, hv, ⟨W, C, C', x, ok, hC, hC', okx, rfl, rfl⟩, q⟩ := h
  obtain ⟨v, u, z, y, rfl, hw, hc, hd, hx⟩ := hv.four
  refine ⟨_, PSs.nox (pss_cons (ps_expr (pe_has c_check_web hr (by decide) (by rfl) (pa_cons (pv 0) pa_nil))) (pss_cons (ps_expr (pe_has c_check_choice hr (by decide) (by rfl) (pa_cons (pv 0) (pa_cons (pv 1) pa_nil)))) (pss_cons (ps_expr (pe_has c_check_choice hr (by decide) (by rfl) (pa_cons (pv 0) (pa_cons (pv 2) pa_nil)))) (pss_cons (ps_if (PW.pt (pw_or (pt_not (pt_val (pe_callB (call_isiK2 (K := K) rfl) (by rfl) B.isinstance bb_isinstance (pa_cons (pv 3) (pa_cons (pe_bltn (v := .ty "list") (by rfl) B.list bb_list rfl) pa_nil))))) (pw_or (pt_not (pt_val (pe_callB (call_allK (K := K) rfl rfl) (by rfl) B.all bb_all (pa_cons (pe_lc (own := [("tie", 4)]) rfl scIsGateRow.nd (pi_lstK (K := K) rfl (pv 3)) (blkOk_by (own := [("tie", 4)]) (N := ["web", "choice", "other_choice", "value", "tie", "here"]) (sc := defScope sIsGateRow) (by decide +kernel)) (fun _ _ _ _ _ => (pg_name (i := 4) scIsGateRow.nd rfl (.inl rfl))) (fun _ _ _ _ _ => pts_nil) (fun _ _ _ _ _ => (pe_has c_is_tie hr (by decide) (by rfl) (pa_cons (pv 0) (pa_cons (pv 4) pa_nil))))) pa_nil)))) (pw_or1 (pt_cmpR op_lt (pe_lenSetT (K := K) rfl rfl hr.units (by rfl) B.len (by rfl) B.set (pv 3)) (pe_callB (call_lenK (K := K) rfl) (by rfl) B.len bb_len (pa_cons (pv 3) pa_nil)) (nomark _)))))) (pss_one (ps_ret pe_bl)) pss_nil) (pss_cons (ps_set (i := 5) scIsGateRow.nd rfl (.inl rfl) (pv 1)) (pss_cons (ps_for PassesOwn.never rfl (pi_lstK (K := K) rfl (pv 3)) (pg_name (i := 4) scIsGateRow.nd rfl (.inl rfl)) (pss_cons (ps_if (pt_not (pt_val (pe_has c_stands_by hr (by decide) (by rfl) (pa_cons (pv 0) (pa_cons (pv 5) pa_nil))))) (pss_one (ps_ret pe_bl)) pss_nil) (pss_one (ps_set (i := 5) scIsGateRow.nd rfl (.inl rfl) (pe_has c_other_way hr (by decide) (by rfl) (pa_cons (pv 5) (pa_cons (pe_bm PySem.F.plainAttrs_list PySem.F.slot_list_index PySem.F.type_list_index (mt_indexK (K := K) rfl (room65 hr)) (pe_has c_ties_of hr (by decide) (by rfl) (pa_cons (pv 0) pa_nil)) (pa_cons (pv 4) pa_nil)) pa_nil))))))) (pss_one (ps_ret (pe_and (pe_cmpR (op_eqDK (K := K) rfl hr.units) (pv 5) (pv 2) (nomark _)) (pe_one (pe_has c_stands_by hr (by decide) (by rfl) (pa_cons (pv 0) (pa_cons (pv 5) pa_nil))))))))))))), ?_⟩
  have tl := ties_len ok
  refine s_drop (M := Z) exZ hG (gd_call (ga_cons (gd_var rfl hw) ga_nil) ⟨W, ok, rfl, rfl⟩) fun G1 H1 s1 => ?_
  refine s_drop (M := Z) exZ s1.gh (gd_call (ga_cons (gd_var rfl (hw.up s1.g)) (ga_cons (gd_var rfl (hc.up s1.g)) ga_nil)) ⟨W, C, ok, hC, rfl, rfl⟩) fun G2 H2 s2 => ?_
  have s12 := s1.trans s2
  refine s_drop (M := Z) exZ s12.gh (gd_call (ga_cons (gd_var rfl (hw.up s12.g)) (ga_cons (gd_var rfl (hd.up s12.g)) ga_nil)) ⟨W, C', ok, hC', rfl, rfl⟩) fun G3 H3 s3 => ?_
  have s13 := s12.trans s3
  have hw3 := hw.up s13.g
  have hx3 := hx.up s13.g
  have hc3 := hc.up s13.g
  have ti := gd_isi (K := K) (M := Z) (T := "list") (by decide) (gd_var (σ := start ["web", "choice", "other_choice", "value", "tie", "here"] [v, u, z, y]) (i := 3) (M := Z) rfl hx3)
  cases hl : isA "list" x with
  | false =>
    rw [leadsB_false fun ⟨ts, e, _⟩ => is_list_no hl ts e] at q
    rw [hl] at ti
    exact s_if (M := Z) exZ s13.gh (gt_orL (gt_notF (gt_B ti))) (fun _ G4 H4 s4 => s_ret (M := Z) exZ s4.gh gd_bl (q.from (s13.trans s4))) fun e => nomatch e
  | true =>
    rw [hl] at ti
    obtain ⟨xs, rfl⟩ := is_list_yes hl
    have l200 := okx xs rfl
    have ta := gd_all (K := K) (M := Z) (te := tLc (iList K (tVar 3)) (gName 4) tYes (tCall (Spd PIsTie) [] E0 (tCons (tVar 0) (tCons (tVar 4) tNil))) [4]) (bs := xs.map (isTieB W)) (σ := start ["web", "choice", "other_choice", "value", "tie", "here"] [v, u, z, y]) (G := G3)
      ((gd_lc (fun _ => true) (fun i => .bool (isTieB W (xs.getD i .none))) (src_list (gd_var rfl hx3)) (by omega) fun i G4 t hi e4 ht => ⟨_, tg_name, rfl, gt_yes, fun _ => gd_call (ga_cons (gd_var rfl (hw3.up e4)) (ga_cons (gd_var rfl ht) ga_nil)) ⟨W, _, ok, rfl, rfl⟩⟩).is (by
        rw [kept1_bools, map_getD]))
    cases ha : (xs.map (isTieB W)).all id with
    | false =>
      rw [ha] at ta
      rw [leadsB_false fun ⟨ts, e, hL⟩ => by
        have e' : xs = ts.map tieD := by
          unfold tieL at e
          injection e
        have : (xs.map (isTieB W)).all id = true := all_true fun b hb => by
          obtain ⟨y, hy, rfl⟩ := List.mem_map.mp hb
          rw [e'] at hy
          obtain ⟨t, ht, rfl⟩ := List.mem_map.mp hy
          exact isTieB_tie (hL.1 t ht)
        rw [this] at ha
        cases ha] at q
      exact s_if (M := Z) exZ s13.gh (gt_orR (gt_notT (gt_B ti)) (gt_orL (gt_notF (gt_B ta)))) (fun _ G4 H4 s4 => s_ret (M := Z) exZ s4.gh gd_bl (q.from (s13.trans s4))) fun e => nomatch e
    | true =>
      rw [ha] at ta
      obtain ⟨ts, rfl, hts⟩ := all_ties (W := W) (xs := xs) fun y hy => List.all_eq_true.mp ha _ (List.mem_map.mpr ⟨y, hy, rfl⟩)
      have tw := gd_twice (K := K) (M := Z) ok (i := 3) (σ := start ["web", "choice", "other_choice", "value", "tie", "here"] [v, u, z, y]) rfl hx3 hts
      have hL : ∀ {b : Bool}, (b = true ↔ (ts.Nodup ∧ Path W C' C ts)) → leadsB W C C' (.list (ts.map tieD)) = b := fun {b} hb => by
        refine Bool.eq_iff_iff.mpr ?_
        rw [leadsB_true, hb]
        constructor
        · rintro ⟨ts', e, h1, h2, h3⟩
          have := tieL_inj (l := ts) e
          subst this
          exact ⟨h2, h3⟩
        · rintro ⟨h2, h3⟩
          exact ⟨ts, rfl, hts, h2, h3⟩
      by_cases nd : ts.Nodup
      · rw [decide_eq_true nd] at tw
        refine s_unless (M := Z) exZ s13.gh (gt_orF (gt_notT (gt_B ti)) (gt_orF (gt_notT (gt_B ta)) (gt_test tw))) fun G4 H4 s4 => ?_
        have s14 := s13.trans s4
        refine s_asg (M := Z) exZ s14.gh (gd_var rfl (hc.up s14.g)) fun h0 G5 H5 s5 dh => ?_
        have s15 := s14.trans s5
        refine s_for (M := Z) (fun i σ G' H' => ∃ Ci h l4, Stp G H G' H' ∧ ChOk W Ci ∧ Dx G' h (chD Ci) ∧ (Path W C' C ts ↔ Path W C' Ci (ts.drop i)) ∧ σ = [some v, some u, some z, some y, l4, some h]) exZ s15.gh (src_list (gd_var rfl (hx.up s15.g))) (fun G6 H6 s6 => ⟨C, h0, none, s15.trans s6, hC, dh.up s6.g, Iff.rfl, rfl⟩) ?_ ?_
        · rintro i σ' G6 H6 tv G7 H7 hi g6 gh6 ⟨Ci, h, l4, s6, hCi, dh6, hp, rfl⟩ s7 ht
          rw [List.length_map] at hi
          rw [getD_map (z := (0, 0)) hi] at ht
          have s67 := s6.trans s7
          have hw7 := hw.up s67.g
          have dh7 := dh6.up s7.g
          have ed : ts.drop i = ts.getD i (0, 0) :: ts.drop (i + 1) := by
            rw [List.getD_eq_getElem?_getD, List.getElem?_eq_getElem hi]
            exact List.drop_eq_getElem_cons hi
          have ht' := hts _ (getD_mem (z := (0, 0)) hi)
          rw [ed] at hp
          cases hs : standsB W Ci with
          | false =>
            rw [hL (b := false) ⟨(fun e => nomatch e), fun e => by
              have := standsB_iff.mpr (hp.mp e.2).1
              rw [hs] at this
              cases this⟩] at q
            exact s_if (M := Z) exZ s7.gh (gt_notF (gt_B ((gd_call (ga_cons (gd_var rfl hw7) (ga_cons (gd_var rfl dh7) ga_nil)) ⟨W, Ci, ok, hCi, rfl, rfl⟩).is (by rw [hs])))) (fun _ G8 H8 s8 => s_ret (M := Z) exZ s8.gh gd_bl (q.from (s67.trans s8))) fun e => nomatch e
          | true =>
            refine s_unless (M := Z) exZ s7.gh (gt_notT (gt_B ((gd_call (ga_cons (gd_var rfl hw7) (ga_cons (gd_var rfl dh7) ga_nil)) ⟨W, Ci, ok, hCi, rfl, rfl⟩).is (by rw [hs])))) fun G8 H8 s8 => ?_
            have lt : (ties W).idxOf (ts.getD i (0, 0)) < Ci.length := by
              rw [hCi.1]
              exact List.idxOf_lt_length_of_mem ht'
            have cl := ch_len ok hCi
            refine s_asgE (M := Z) exZ s8.gh (gd_call (ga_cons (gd_var rfl (dh7.up s8.g)) (ga_cons (gd_index (gd_call (ga_cons (gd_var rfl (hw7.up s8.g)) ga_nil) ⟨W, ok, rfl, rfl⟩) (gd_var rfl (ht.up s8.g)) ht') ga_nil)) ⟨Ci, _, lt, by omega, rfl, rfl⟩) fun h' G9 H9 s9 dh9 => ?_
            refine ⟨G9, s7.g.trans (s8.g.trans s9.g), s9.gh, flip Ci ((ties W).idxOf (ts.getD i (0, 0))), h', _, (s67.trans s8).trans s9, flip_ok hCi _, dh9, ?_, rfl⟩
            rw [hp]
            exact ⟨fun e => e.2, fun e => ⟨standsB_iff.mp hs, e⟩⟩
        · rintro σ' G6 H6 g6 gh6 ⟨Ci, h, l4, s6, hCi, dh6, hp, rfl⟩
          rw [List.length_map, List.drop_length] at hp
          refine s_ret (M := Z) exZ gh6 ((gd_and (gd_eq (gd_var rfl dh6) (gd_var rfl (hd.up s6.g)) (lay_chD _).sh (lay_chD _).sh) fun _ => gd_call (ga_cons (gd_var rfl (hw.up s6.g)) (ga_cons (gd_var rfl dh6) ga_nil)) ⟨W, Ci, ok, hCi, rfl, rfl⟩).is ?_) (q.from s6)
          rw [eqv_ch, hL]
          rw [hp, Bool.and_eq_true_iff, decide_eq_true_iff, standsB_iff]
          exact ⟨fun e => ⟨nd, e.2, e.1⟩, fun e => ⟨e.2.2, e.2.1⟩⟩
      · rw [decide_eq_false nd] at tw
        rw [hL (b := false) ⟨(fun e => nomatch e), fun e => absurd e.1 nd⟩] at q
        exact s_if (M := Z) exZ s13.gh (gt_orR (gt_notT (gt_B ti)) (gt_orR (gt_notT (gt_B ta)) (gt_test tw))) (fun _ G4 H4 s4 => s_ret (M := Z) exZ s4.gh gd_bl (q.from (s13.trans s4))) fun e => nomatch e
end
end Sg

/-! l.count(x) where items are data of any depth -/
namespace Sg
open PySem PySem.Spec PyProof.Rows L2
open Evl (Ex)
def rCountD (K : PySem.W.Frag) : V → List V → Hp → VK → Prop := fun x xs H Q => ∃ (a : Addr) (y : V) (d : PyData) (ds : List PyData), x = V.ref a ∧ xs = [y] ∧ Dp K H (V.ref a) (.list ds) ∧ Dp K H y d ∧
  SeqAt.shaped (.list ds) = true ∧ SeqAt.shaped d = true ∧ Q (.int (ds.countP fun z => PyData.eqv z d : Nat)) H
theorem mt_countK {X : Cx} {K : PySem.W.Frag} (eK : X.K = K) (hu : X.A.units + 65 < cLine) : MtR X "list.count" (rCountD K) := fun pins u σ H x xs v us Q I rx rxs h => by
  subst eK
  obtain ⟨a, y, d, ds, rfl, rfl, hl, hy, sl, sd, q⟩ := h
  cases rx
  cases rxs with
  | cons ry rt =>
    rename_i uy ut
    cases rt
    obtain ⟨bs, r1⟩ := Dp.reads I d y uy hy ry
    have lay : PyData.canLayAll0 ds = true := SeqAt.canLay_of_shaped sl
    have room : X.A.units + 1 + min (PyData.depthAll ds) d.depth < cLine := room_in_shaped sd hu
    cases hl with
    | lst hs ha =>
      obtain ⟨its, rv, ⟨⟨cls, dd, data, sls⟩, n, ho, hc, hdn, hdt⟩, hlen⟩ := I.list hs
      simp only at hc hdt
      subst hc hdt
      obtain ⟨as, h4⟩ := Dp.readsAll I ds _ its ha rv
      have hmap : its.map (SeqAt.readOf u.heap) = ds := SeqAt.readsAll_map ds its as lay h4
      refine call_meets PySem.F.slot_list_count ⟨_, ho, rfl⟩ PySem.F.entry_list_count (PySem.F.args_list_count_2 _ _)
        (SeqAt.list_countAt a its.toArray n dd sls uy fun c => PyData.eqv (SeqAt.readOf u.heap c) d) ⟨ho, SeqAt.items_eqAt (vs := its.toArray) (show ReadsAll u.heap its.toArray.toList ds as from h4) r1 lay (SeqAt.canLay_of_shaped sd) room, ?_⟩
      have e : (its.toArray.toList.countP fun c => PyData.eqv (SeqAt.readOf u.heap c) d) = ds.countP fun z => PyData.eqv z d := by
        rw [← hmap, List.countP_map]
        rfl
      rw [e]
      exact ⟨.int _, H, I.tok _, ⟨_, rfl⟩, q⟩
/-- o.m(e, ..), the written part by its name -/
theorem pe_bmK {X : Cx} {K : PySem.W.Frag} {o e : Expr} {es : List Expr} {to : TE} {t : TA} {name : Str} {apos cpos : Pos} {T id : String} {r : V → List V → Hp → VK → Prop} (eK : X.K = K) (pa : PlainAttrs T) (slot : Slot T name id) (hty : typeOf (.builtin id) = pure (.type "method_descriptor")) (hm : MtR X id r) (ho : PE X o to) (ha : PA X (e :: es) t)
    (ab : attributeBase o name X.env (eval o X.env) = eval o X.env := by rfl)
    (few : ((backTo cpos (starEach (e :: es) X.env)).all (fun x => !x.1) && (backToKw cpos (keywordEach [] X.env)).all (fun x => x.1.isSome)
      && decide ((e :: es).length + ([] : List Keyword).length + (if ([] : List Keyword).isEmpty then 0 else 1) < 30)) = true := by rfl)
    (line : (apos.endLine == cpos.line) = true := by rfl) (st : starEach (e :: es) X.env = (false, eval e X.env) :: starEach es X.env := by rfl) (pl : (backTo cpos (starEach es X.env)).any (·.1) = false := by rfl) :
    PE X (.Call (.Attribute o name apos) (e :: es) [] cpos) (tBM K T r to t) := by
  subst eK
  exact pe_bm pa slot hty hm ho ha ab few line st pl
end Sg

/-! the law's own: ties, numbers, other, is_tie, kept -/
namespace Sg
open PySem PySem.Spec PyProof.Rows L2
open Evl (Ex)
theorem flat_snoc {α : Type} (n : Nat) (f : Nat → List α) : (List.range (n + 1)).flatMap f = (List.range n).flatMap f ++ f n := by
  rw [List.range_succ, List.flatMap_append]
  simp
/-- small items: what a value may hold -/
def OkItem (d : PyData) : Prop := Lay 2 d ∧ ∀ xs, (d = .list xs ∨ d = .tuple xs) → xs.length ≤ 200
def isNums (d : PyData) : Bool := match d with
  | .tuple xs => xs.all isInt
  | _ => false
def PNumbers (ds : List PyData) (d : PyData) : Prop := ∃ x, OkItem x ∧ ds = [x] ∧ d = .bool (isNums x)
def PLIsTie (ds : List PyData) (d : PyData) : Prop := ∃ W x, WebOk W ∧ OkItem x ∧ ds = [tieL (ties W), x] ∧ d = .bool (isTieB W x)
def PKept (ds : List PyData) (d : PyData) : Prop := ∃ (W : Web) (r : List Int), WebOk W ∧ r.length = W.length ∧ ds = [webD W, rowD r] ∧ d = chD (kept W fun x => r.getD x 0)
theorem lay_items {d : PyData} {xs : List PyData} {n : Nat} (h : Lay (n + 1) d) (e : d = .list xs ∨ d = .tuple xs) : ∀ y ∈ xs, Lay n y := by
  have go : ∀ (xs : List PyData), PyData.canLayAll0 xs = true → PyData.depthAll xs ≤ n → ∀ y ∈ xs, Lay n y := by
    intro xs
    induction xs with
    | nil => intro _ _ y hy; cases hy
    | cons x xs ih =>
      intro h1 h2 y hy
      simp only [PyData.canLayAll0, Bool.and_eq_true] at h1
      simp only [PyData.depthAll] at h2
      rcases List.mem_cons.mp hy with rfl | hy
      · exact ⟨h1.1, Nat.le_trans (Nat.le_max_left _ _) h2⟩
      · exact ih h1.2 (Nat.le_trans (Nat.le_max_right _ _) h2) y hy
  obtain ⟨h1, h2⟩ := h
  rcases e with rfl | rfl
  · simp only [PyData.canLay0] at h1
    simp only [PyData.depth] at h2
    exact go xs h1 (by omega)
  · simp only [PyData.canLay0] at h1
    simp only [PyData.depth] at h2
    exact go xs h1 (by omega)
theorem isInt_nums : ∀ {xs : List PyData}, (∀ x ∈ xs, isInt x = true) → ∃ ns : List Int, xs = ns.map PyData.int
  | [], _ => ⟨[], rfl⟩
  | x :: xs, h => by
    obtain ⟨v, rfl⟩ := isInt_int (h x List.mem_cons_self)
    obtain ⟨ns, rfl⟩ := isInt_nums (xs := xs) fun y hy => h y (List.mem_cons_of_mem _ hy)
    exact ⟨v :: ns, rfl⟩
theorem nums_tie {W : Web} {x : PyData} (h : isNums x = true) : ((ties W).map tieD).any (fun z => PyData.eqv z x) = isTieB W x := by
  cases x with
  | tuple xs =>
    obtain ⟨ns, rfl⟩ := isInt_nums fun y hy => List.all_eq_true.mp h y hy
    have e : ∀ t : Nat × Nat, PyData.eqv (tieD t) (.tuple (ns.map PyData.int)) = decide ([(t.1 : Int), (t.2 : Int)] = ns) := fun t => by
      have := eqv_ch [(t.1 : Int), (t.2 : Int)] ns
      exact this
    refine Bool.eq_iff_iff.mpr ?_
    constructor
    · intro q
      obtain ⟨z, hz, hq⟩ := List.any_eq_true.mp q
      obtain ⟨t, ht, rfl⟩ := List.mem_map.mp hz
      rw [e] at hq
      have := of_decide_eq_true hq
      subst this
      exact isTieB_tie ht
    · intro q
      obtain ⟨t, ht, ex⟩ := isTieB_true q
      rw [ex]
      exact List.any_eq_true.mpr ⟨tieD t, List.mem_map.mpr ⟨t, ht, rfl⟩, by rw [eqv_tie, decide_eq_true rfl]⟩
  | _ => exact Bool.noConfusion (show false = true from h)
theorem nums_not {W : Web} {x : PyData} (h : isNums x = false) : isTieB W x = false := by
  cases q : isTieB W x with
  | false => rfl
  | true =>
    obtain ⟨t, _, rfl⟩ := isTieB_true q
    exact Bool.noConfusion (show true = false from h)
theorem filter_empty {α : Type} (l : List α) (p : α → Bool) : (l.filter fun a => !p a).isEmpty = l.all p := by
  induction l with
  | nil => rfl
  | cons a l ih =>
    rw [List.filter_cons, List.all_cons]
    cases h : p a with
    | true => simp [ih]
    | false => simp
section
variable {P : Program} {w : World} {K : PySem.W.Frag} {mg : Str → Option Value} {base : Heap} {f : Addr} {fd : FuncData}
theorem scLawTies : FnScope ["_law_web_here", "_law_found", "_law_x", "_law_y"] ["_law_web_here"] (defScope sLawTies) := ⟨rfl, rfl, rfl, by decide +kernel, rfl, by decide +kernel, by decide +kernel⟩
theorem ok_law_ties (D : Df K mg "_law_ties" sLawTies ["_law_web_here"] f fd) (B : Bi mg) : FnOk P w K mg base CX0 1 f fd ["_law_web_here"] (Spd PTies) := by
  refine D.F.ok scLawTies (Spd.len (n := 1) fun ds d ⟨_, _, e, _⟩ => by rw [e]; rfl) (fun cdv A outer s H vs Q E hr h => ?_)
  obtain ⟨G, ds, d, hG, hv, ⟨W, ok, rfl, rfl⟩, q⟩ := h
  obtain ⟨v, rfl, hw⟩ := hv.one
  refine ⟨_, PSs.nox (pss_cons (ps_set (i := 1) scLawTies.nd rfl (.inl rfl) (pe_lst pa_nil)) (pss_cons (ps_for PassesOwn.never rfl (pi_range1 (by rfl) B.range (pa_cons (pe_callB (call_lenK (K := K) rfl) (by rfl) B.len bb_len (pa_cons (pv 0) pa_nil)) pa_nil)) (pg_name (i := 2) scLawTies.nd rfl (.inr rfl)) (pss_one (ps_set (i := 1) scLawTies.nd rfl (.inl rfl) (pe_op (op_plusK (K := K) rfl) (pv 1) (pe_lc (own := [("_law_y", 3)]) rfl scLawTies.nd (pi_range2 (by rfl) B.range (pa_cons (pe_op (op_plusK (K := K) rfl) (pv 2) pe_int) (pa_cons (pe_callB (call_lenK (K := K) rfl) (by rfl) B.len bb_len (pa_cons (pv 0) pa_nil)) pa_nil))) (blkOk_by (own := [("_law_y", 3)]) (N := ["_law_web_here", "_law_found", "_law_x", "_law_y"]) (sc := defScope sLawTies) (by decide +kernel)) (fun _ _ _ _ _ => (pg_name (i := 3) scLawTies.nd rfl (.inl rfl))) (fun _ _ _ _ _ => (pts_one (pt_cmpR (op_neDK (K := K) rfl hr.units) (pe_ix (ix_twoK (K := K) rfl) (pe_ix (ix_twoK (K := K) rfl) (pv 0) (pv 2) (fun _ _ => rfl)) (pv 3) (fun _ _ => rfl)) pe_int (nomark _)))) (fun _ _ _ _ _ => (pe_tup (pa_cons (pv 2) (pa_cons (pv 3) pa_nil))))))))) (pss_one (ps_ret (pv 1))))), ?_⟩
  have le := ok.le
  have tl := ties_len ok
  have wl : ((W.map rowD).length : Int) = W.length := by rw [List.length_map]
  refine s_asg (M := Z) exZ hG (gd_lst ga_nil (by simp)) fun l G1 H1 s1 hl => ?_
  refine s_for (n := W.length) (M := Z) (fun x σ G' H' => ∃ l a, Stp G H G' H' ∧ Dx G' l (.list (((List.range x).flatMap (tiesAt W)).map tieD)) ∧ σ = [some v, some l, a, none]) exZ s1.gh (src_range1 ((gd_lenT (gd_var rfl (hw.up s1.g))).is (by rw [wl])) (by omega)) (fun G2 H2 s2 => ⟨l, none, s1.trans s2, hl.up s2.g, rfl⟩) ?_ ?_
  · rintro x σ' G2 H2 a G3 H3 hx g2 gh2 ⟨l2, a2, s2, hl2, rfl⟩ s3 ha
    have s23 := s2.trans s3
    have hw3 := hw.up s23.g
    have small : (((List.range x).flatMap (tiesAt W)).map tieD).length ≤ 45 := by
      rw [List.length_map]
      have : ((List.range x).flatMap (tiesAt W)).length ≤ (ties W).length := by
        unfold ties
        obtain ⟨j, hj⟩ := Nat.le.dest (Nat.le_of_lt hx)
        rw [← hj, List.range_add, List.flatMap_append, List.length_append]
        omega
      omega
    refine s_asgE (M := Z) exZ s3.gh (gd_catL (gd_var rfl (hl2.up s3.g)) (gd_lc (fun j => sg W x (x + 1 + j) != 0) (fun j => .tuple [.int x, .int ((x : Int) + 1 + j)]) (src_eq (src_range2 (gd_plus (gd_var rfl ha) gd_int) ((gd_lenT (gd_var rfl hw3)).is (by rw [wl])) (by omega)) (by omega) (fun _ _ => rfl)) (n := W.length - (x + 1)) (by omega) fun j G4 y hj e4 hy => ?_) ?_) fun l4 G4 H4 s4 hl4 => ⟨G4, s3.g.trans s4.g, s4.gh, l4, _, s23.trans s4, ?_, rfl⟩
    · have hyd : Dx G4 y (.int ((x + 1 + j : Nat) : Int)) := by
        rw [show ((x + 1 + j : Nat) : Int) = (x : Int) + 1 + j by omega]
        exact hy
      exact ⟨_, tg_name, rfl, gt_test (gd_ne (gd_web ok (by omega) (by omega) (gd_var rfl (hw3.up e4)) (gd_var rfl (ha.up e4)) (gd_var rfl hyd)) gd_int rfl rfl), fun _ => gd_tup (ga_cons (gd_var rfl (ha.up e4)) (ga_cons (gd_var rfl hy) ga_nil)) (by simp)⟩
    · have := kept1_len (W.length - (x + 1)) (fun j => sg W x (x + 1 + j) != 0) (fun j => .tuple [.int x, .int ((x : Int) + 1 + j)])
      omega
    · rw [← tiesAt_data, ← List.map_append, ← flat_snoc] at hl4
      exact hl4
  · rintro σ' G2 H2 g2 gh2 ⟨l2, a2, s2, hl2, rfl⟩
    exact s_ret (M := Z) exZ gh2 (gd_var rfl hl2) (q.from s2)
theorem scLawNumber : FnScope ["_law_value"] ["_law_value"] (defScope sLawNumber) := ⟨rfl, rfl, rfl, by decide +kernel, rfl, by decide +kernel, by decide +kernel⟩
theorem ok_law_number (D : Df K mg "_law_number" sLawNumber ["_law_value"] f fd) (B : Bi mg) : FnOk P w K mg base CX0 1 f fd ["_law_value"] (Spd PIsInteger) := by
  refine D.F.ok scLawNumber (Spd.len (n := 1) fun ds d ⟨x, e, _⟩ => by rw [e]; rfl) (fun cdv A outer s H vs Q E hr h => ?_)
  obtain ⟨G, ds, d, hG, hv, ⟨x, rfl, rfl⟩, q⟩ := h
  obtain ⟨v, rfl, hx⟩ := hv.one
  refine ⟨_, PSs.nox (pss_one (ps_ret (pe_and (pe_callB (call_isiK2 (K := K) rfl) (by rfl) B.isinstance bb_isinstance (pa_cons (pv 0) (pa_cons (pe_bltn (v := .ty "int") (by rfl) B.int bb_int rfl) pa_nil))) (pe_one (pe_not (pe_callB (call_isiK2 (K := K) rfl) (by rfl) B.isinstance bb_isinstance (pa_cons (pv 0) (pa_cons (pe_bltn (v := .ty "bool") (by rfl) B.bool bb_bool rfl) pa_nil)))))))), ?_⟩
  exact s_ret (M := Z) exZ hG (gd_and (gd_isi (by decide) (gd_var rfl hx)) fun _ => gd_not (gd_isi (by decide) (gd_var rfl hx))) q
theorem scLawNumbers : FnScope ["_law_value", "_law_one"] ["_law_value"] (defScope sLawNumbers) := ⟨rfl, rfl, rfl, by decide +kernel, rfl, by decide +kernel, by decide +kernel⟩
theorem ok_law_numbers (D : Df K mg "_law_numbers" sLawNumbers ["_law_value"] f fd) (B : Bi mg) (c_law_number : Has P w K mg base 1 "_law_number" (Spd PIsInteger)) : FnOk P w K mg base CX0 2 f fd ["_law_value"] (Spd PNumbers) := by
  refine D.F.ok scLawNumbers (Spd.len (n := 1) fun ds d ⟨x, _, e, _⟩ => by rw [e]; rfl) (fun cdv A outer s H vs Q E hr h => ?_)
  obtain ⟨G, ds, d, hG, hv, ⟨x, okx, rfl, rfl⟩, q⟩ := h
  obtain ⟨v, rfl, hx⟩ := hv.one
  refine ⟨_, PSs.nox (pss_one (ps_ret (pe_and (pe_callB (call_isiK2 (K := K) rfl) (by rfl) B.isinstance bb_isinstance (pa_cons (pv 0) (pa_cons (pe_bltn (v := .ty "tuple") (by rfl) B.tuple bb_tuple rfl) pa_nil))) (pe_one (pe_cmpR (op_eqDK (K := K) rfl hr.units) (pe_lc (own := [("_law_one", 1)]) rfl scLawNumbers.nd (pi_tupK (K := K) rfl (pv 0)) (blkOk_by (own := [("_law_one", 1)]) (N := ["_law_value", "_law_one"]) (sc := defScope sLawNumbers) (by decide +kernel)) (fun _ _ _ _ _ => (pg_name (i := 1) scLawNumbers.nd rfl (.inl rfl))) (fun _ _ _ _ _ => (pts_one (pt_not (pt_val (pe_has c_law_number hr (by decide) (by rfl) (pa_cons (pv 1) pa_nil)))))) (fun _ _ _ _ _ => (pv 1))) (pe_lst pa_nil) (nomark _)))))), ?_⟩
  have t1 : Gd (tCB (rIsi K) (tCons (tVar 0) (tCons (tC (.ty "tuple")) tNil))) (start ["_law_value", "_law_one"] [v]) Z G (.bool (isA "tuple" x)) := gd_isi (by decide) (gd_var rfl hx)
  cases x with
  | tuple xs =>
    have l200 := okx.2 xs (.inr rfl)
    have li := lay_items okx.1 (.inr rfl)
    refine s_ret (d := .bool (isNums (.tuple xs))) (M := Z) exZ hG (gd_andT t1 ((gd_eq ((gd_lc (fun i => !isInt (xs.getD i .none)) (fun i => xs.getD i .none) (src_tup (gd_var rfl hx)) (by omega) fun i G1 y hi e1 hy => ⟨_, tg_name, rfl, gt_not (gt_B (gd_call (ga_cons (gd_var rfl hy) ga_nil) ⟨_, rfl, rfl⟩)), fun _ => gd_var rfl hy⟩).is (congrArg PyData.list (kept1_list xs .none (fun y => !isInt y) fun y => y))) (gd_lst ga_nil (by simp)) (lay_lst (n := 1) ?_).sh lay_nil.sh).is ?_)) q
    · intro y hy
      rw [List.map_id'] at hy
      exact li y (List.mem_filter.mp hy).1
    · rw [eqv_nil, List.map_id', filter_empty]
      rfl
  | _ => exact s_ret (M := Z) exZ hG (gd_and (b := false) t1 (fun z => Bool.noConfusion (show false = true from z))) q
theorem scLawIsTie : FnScope ["_law_ties_here", "_law_value"] ["_law_ties_here", "_law_value"] (defScope sLawIsTie) := ⟨rfl, rfl, rfl, by decide +kernel, rfl, by decide +kernel, by decide +kernel⟩
theorem ok_law_is_tie (D : Df K mg "_law_is_tie" sLawIsTie ["_law_ties_here", "_law_value"] f fd) (B : Bi mg) (c_law_numbers : Has P w K mg base 2 "_law_numbers" (Spd PNumbers)) : FnOk P w K mg base CX0 3 f fd ["_law_ties_here", "_law_value"] (Spd PLIsTie) := by
  refine D.F.ok scLawIsTie (Spd.len (n := 2) fun ds d ⟨_, x, _, _, e, _⟩ => by rw [e]; rfl) (fun cdv A outer s H vs Q E hr h => ?_)
  obtain ⟨G, ds, d, hG, hv, ⟨W, x, ok, okx, rfl, rfl⟩, q⟩ := h
  obtain ⟨v, u, rfl, ht, hx⟩ := hv.two
  refine ⟨_, PSs.nox (pss_one (ps_ret (pe_and (pe_has c_law_numbers hr (by decide) (by rfl) (pa_cons (pv 1) pa_nil)) (pe_one (pe_cmpR (op_inDK (K := K) rfl (room65 hr)) (pv 1) (pv 0) rfl))))), ?_⟩
  have t1 : Gd (tCall (Spd PNumbers) [] E0 (tCons (tVar 1) tNil)) (start ["_law_ties_here", "_law_value"] [v, u]) Z G (.bool (isNums x)) := gd_call (ga_cons (gd_var rfl hx) ga_nil) ⟨x, okx, rfl, rfl⟩
  cases hn : isNums x with
  | false =>
    rw [nums_not hn] at q
    rw [hn] at t1
    exact s_ret (M := Z) exZ hG (gd_andF t1) q
  | true =>
    rw [hn] at t1
    exact s_ret (M := Z) exZ hG (gd_andT t1 ((gd_inD (gd_var rfl hx) (gd_var rfl ht) okx.1.sh (lay_tieL _).sh).is (by rw [nums_tie hn]))) q
theorem scLawOther : FnScope ["_law_choice", "_law_at"] ["_law_choice", "_law_at"] (defScope sLawOther) := ⟨rfl, rfl, rfl, by decide +kernel, rfl, by decide +kernel, by decide +kernel⟩
theorem ok_law_other (D : Df K mg "_law_other" sLawOther ["_law_choice", "_law_at"] f fd) : FnOk P w K mg base CX0 1 f fd ["_law_choice", "_law_at"] (Spd POther) := by
  refine D.F.ok scLawOther (Spd.len (n := 2) fun ds d ⟨_, _, _, _, e, _⟩ => by rw [e]; rfl) (fun cdv A outer s H vs Q E hr h => ?_)
  obtain ⟨G, ds, d, hG, hv, ⟨C, k, hk, l1, rfl, rfl⟩, q⟩ := h
  obtain ⟨v, u, rfl, hc, hx⟩ := hv.two
  refine ⟨_, PSs.nox (pss_one (ps_ret (pe_op (op_plusK (K := K) rfl) (pe_op (op_plusK (K := K) rfl) (pe_slice (sl_tupK (K := K) rfl) (pv 0) po_none (po_some (pv 1))) (pe_tup (pa_cons (pe_un un_neg (pe_ix (ix_twoK (K := K) rfl) (pv 0) (pv 1) (fun _ _ => rfl))) pa_nil))) (pe_slice (sl_tupK (K := K) rfl) (pv 0) (po_some (pe_op (op_plusK (K := K) rfl) (pv 1) pe_int)) po_none)))), ?_⟩
  have lm : (C.map PyData.int).length = C.length := List.length_map ..
  have e1 : ((k + 1 : Nat) : Int) = (k : Int) + 1 := by omega
  refine s_ret (M := Z) exZ hG ((gd_catT (gd_catT (gd_takeT (gd_var rfl hc) (gd_var rfl hx) (by omega)) (gd_tup (ga_cons (gd_neg (gd_ixT (gd_var rfl hc) (gd_var rfl hx) (atI_map (getD_get (z := 0) hk)))) ga_nil) (by simp)) ?_) (gd_dropT (k := k + 1) (gd_var rfl hc) ((gd_plus (gd_var rfl hx) gd_int).is (by rw [e1])) (by omega)) ?_).is ?_) q
  · simp only [List.length_take, List.length_map, List.length_singleton]
    omega
  · simp only [List.length_append, List.length_take, List.length_drop, List.length_map, List.length_singleton]
    omega
  · show _ = chD (flip C k)
    rw [flip_cut hk]
    unfold chD
    simp [List.map_take, List.map_drop]
theorem scLawKept : FnScope ["_law_web_here", "_law_row_here", "_law_x", "_law_y"] ["_law_web_here", "_law_row_here"] (defScope sLawKept) := ⟨rfl, rfl, rfl, by decide +kernel, rfl, by decide +kernel, by decide +kernel⟩
theorem ok_law_kept (D : Df K mg "_law_kept" sLawKept ["_law_web_here", "_law_row_here"] f fd) (B : Bi mg) (c_law_ties : Has P w K mg base 1 "_law_ties" (Spd PTies)) : FnOk P w K mg base CX0 2 f fd ["_law_web_here", "_law_row_here"] (Spd PKept) := by
  refine D.F.ok scLawKept (Spd.len (n := 2) fun ds d ⟨_, x, _, _, e, _⟩ => by rw [e]; rfl) (fun cdv A outer s H vs Q E hr h => ?_)
  obtain ⟨G, ds, d, hG, hv, ⟨W, r, ok, lr, rfl, rfl⟩, q⟩ := h
  obtain ⟨v, u, rfl, hw, hx⟩ := hv.two
  refine ⟨_, PSs.nox (pss_one (ps_ret (pe_callTy (call_tupK (K := K) rfl) (by rfl) B.tuple bb_tuple (pa_cons (pe_lc (own := [("_law_x", 2), ("_law_y", 3)]) rfl scLawKept.nd (pi_lstK (K := K) rfl (pe_has c_law_ties hr (by decide) (by rfl) (pa_cons (pv 0) pa_nil))) (blkOk_by (own := [("_law_x", 2), ("_law_y", 3)]) (N := ["_law_web_here", "_law_row_here", "_law_x", "_law_y"]) (sc := defScope sLawKept) (by decide +kernel)) (fun _ _ _ _ _ => (pg_tupK (K := K) (n := 2) rfl rfl (pgs_cons (pg_name (i := 2) scLawKept.nd rfl (.inl rfl)) (pgs_cons (pg_name (i := 3) scLawKept.nd rfl (.inl rfl)) pgs_nil)))) (fun _ _ _ _ _ => pts_nil) (fun _ _ _ _ _ => (pe_ifExp (pt_cmpR op_gt (pe_op op_sub (pe_ix (ix_twoK (K := K) rfl) (pv 1) (pv 2) (fun _ _ => rfl)) (pe_op op_times (pe_ix (ix_twoK (K := K) rfl) (pe_ix (ix_twoK (K := K) rfl) (pv 0) (pv 2) (fun _ _ => rfl)) (pv 3) (fun _ _ => rfl)) (pe_ix (ix_twoK (K := K) rfl) (pv 1) (pv 3) (fun _ _ => rfl)))) pe_int (nomark _)) pe_int (pe_un un_neg pe_int)))) pa_nil)))), ?_⟩
  have tl := ties_len ok
  have hk : (kept W fun x => r.getD x 0).map PyData.int = (ties W).map fun t => .int (way W (fun x => r.getD x 0) t) := by
    unfold kept
    rw [List.map_map]
    rfl
  refine s_ret (d := chD (kept W fun x => r.getD x 0)) (M := Z) exZ hG (gd_tupleL (ds := (kept W fun x => r.getD x 0).map PyData.int) ((gd_lc (fun _ => true) (fun i => .int (way W (fun x => r.getD x 0) ((ties W).getD i (0, 0)))) (src_list (gd_call (ga_cons (gd_var rfl hw) ga_nil) ⟨W, ok, rfl, rfl⟩)) (by rw [List.length_map]; omega) fun i G1 t hi e1 ht => ?_).is ?_)) q
  · rw [List.length_map] at hi
    rw [getD_map (z := (0, 0)) hi] at ht
    obtain ⟨h1, h2, _⟩ := mem_ties.mp (getD_mem (z := (0, 0)) hi)
    generalize (ties W).getD i (0, 0) = t' at ht h1 h2
    obtain ⟨x, y, dx, dy, tg⟩ := tg_two (K := K) (i := 2) (j := 3) (σ1 := wipe (start ["_law_web_here", "_law_row_here", "_law_x", "_law_y"] [v, u]) [2, 3]) ht
    have hw1 := hw.up e1
    have hx1 := hx.up e1
    have sgs : -1 ≤ sg W t'.1 t'.2 ∧ sg W t'.1 t'.2 ≤ 1 := by
      rcases ok.ent t'.1 t'.2 with h | h | h <;> omega
    refine ⟨_, tg, rfl, gt_yes, fun _ => gd_if (b := decide (0 < dif W (fun x => r.getD x 0) t')) (gt_test ((gd_B0 (gd_I0 (gd_ixT (gd_var rfl hx1) (gd_var rfl dx) (atI_map (getD_get (z := 0) (by omega)))) (gd_times (gd_web ok (by omega) h2 (gd_var rfl hw1) (gd_var rfl dx) (gd_var rfl dy)) (gd_ixT (gd_var rfl hx1) (gd_var rfl dy) (atI_map (getD_get (z := 0) (by omega)))) (cmul_l (by omega) (by omega)))) gd_int).is rfl)) (fun hb => gd_int.is ?_) (fun hb => (gd_neg gd_int).is ?_)⟩
    · unfold way
      rw [if_pos (of_decide_eq_true hb)]
    · unfold way
      rw [if_neg (of_decide_eq_false hb)]
  · rw [hk, List.length_map]
    have := kept1_list (ties W) (0, 0) (fun _ => true) fun t => PyData.int (way W (fun x => r.getD x 0) t)
    rw [List.filter_eq_self.mpr (fun _ _ => rfl)] at this
    exact congrArg PyData.list this
end
end Sg

/-! the law's judge of a row, its gates -/
namespace Sg
open PySem PySem.Spec PyProof.Rows L2
open Evl (Ex)
/-- values that are judged -/
def OkV (x : PyData) : Prop := Lay 3 x ∧ ∀ xs, x = .list xs → xs.length ≤ 200 ∧ ∀ y ∈ xs, OkItem y
theorem OkV.l {x : PyData} (h : OkV x) : OkL x := fun xs e => (h.2 xs e).1
def PLeads (ds : List PyData) (d : PyData) : Prop := ∃ W C C' x, WebOk W ∧ ChOk W C ∧ ChOk W C' ∧ OkV x ∧ ds = [webD W, chD C, chD C', x] ∧ d = .bool (leadsB W C C' x)
def PLGates (ds : List PyData) (d : PyData) : Prop := ∃ W C, WebOk W ∧ ChOk W C ∧ ds = [webD W, chD C] ∧ d = .list ((gateIx W C).map fun k => tieD ((ties W).getD k (0, 0)))
theorem once_iff (ts : List (Nat × Nat)) : (ts.filter fun t => decide (1 < ts.count t)).isEmpty = decide ts.Nodup := by
  refine Bool.eq_iff_iff.mpr ?_
  rw [List.isEmpty_iff, decide_eq_true_iff, List.nodup_iff_count, List.filter_eq_nil_iff]
  constructor
  · intro h a
    by_cases ha : a ∈ ts
    · have := h a ha
      rw [decide_eq_true_iff] at this
      omega
    · rw [List.count_eq_zero_of_not_mem ha]
      omega
  · intro h a _
    rw [decide_eq_true_iff]
    have := h a
    omega
theorem count_ties (ts : List (Nat × Nat)) (t : Nat × Nat) : ((ts.map tieD).countP fun z => PyData.eqv z (tieD t)) = ts.count t := by
  rw [List.countP_map, List.count_eq_countP]
  refine List.countP_congr fun x _ => ?_
  show PyData.eqv (tieD x) (tieD t) = true ↔ (x == t) = true
  rw [eqv_tie, decide_eq_true_iff, beq_iff_eq]
section
variable {K : PySem.W.Frag} {σ : L2.St} {M G : Hp} {te tx : TE}
theorem gd_count {ts : List (Nat × Nat)} {t : Nat × Nat} (h : Gd te σ M G (tieL ts)) (hx : Gd tx σ M G (tieD t)) : Gd (tBM K "list" (rCountD K) te (tCons tx tNil)) σ M G (.int (ts.count t : Nat)) := fun H hM hG Q q =>
  h H hM hG _ fun v G1 H1 s1 d1 => by
    obtain ⟨a, xs, rfl, ga, dx⟩ := id d1.lst_of
    refine ⟨.inl ⟨rfl, xs, SqL.of (s1.gh _ _ ga)⟩, (hx.mono s1.g) H1 (hM.trans s1.h) s1.gh _ fun w G2 H2 s2 d2 => ?_⟩
    refine ⟨a, w, tieD t, ts.map tieD, rfl, rfl, ((d1.up s2.g).up s2.gh).dp, (d2.up s2.gh).dp, (lay_tieL ts).sh, (lay_tieD t).sh, ?_⟩
    rw [count_ties]
    exact q _ G2 H2 (s1.trans s2) (.int _)
end
section
variable {P : Program} {w : World} {K : PySem.W.Frag} {mg : Str → Option Value} {base : Heap} {f : Addr} {fd : FuncData}
theorem scLawLeads : FnScope ["_law_web_here", "_law_choice", "_law_other_here", "_law_value", "_law_ties_here", "_law_tie", "_law_here"] ["_law_web_here", "_law_choice", "_law_other_here", "_law_value"] (defScope sLawLeads) := ⟨rfl, rfl, rfl, by decide +kernel, rfl, by decide +kernel, by decide +kernel⟩
theorem ok_law_leads (D : Df K mg "_law_leads" sLawLeads ["_law_web_here", "_law_choice", "_law_other_here", "_law_value"] f fd) (B : Bi mg) (c_law_ties : Has P w K mg base 1 "_law_ties" (Spd PTies)) (c_law_is_tie : Has P w K mg base 3 "_law_is_tie" (Spd PLIsTie))
    (c_law_downward : Has P w K mg base 2 "_law_downward" (Spd PStands)) (c_law_other : Has P w K mg base 1 "_law_other" (Spd POther)) : FnOk P w K mg base CX0 4 f fd ["_law_web_here", "_law_choice", "_law_other_here", "_law_value"] (Spd PLeads) := by
  refine D.F.ok scLawLeads (Spd.len (n := 4) fun ds d ⟨_, _, _, _, _, _, _, _, e, _⟩ => by rw [e]; rfl) (fun cdv A outer s H vs Q E hr h => ?_)
  obtain ⟨G, ds, d, hG, hv, ⟨W, C, C', x, ok, hC, hC', okx, rfl, rfl⟩, q⟩ := h
  obtain ⟨v, u, z, y, rfl, hw, hc, hd, hx⟩ := hv.four
  refine ⟨_, PSs.nox (pss_cons (ps_set (i := 4) scLawLeads.nd rfl (.inr rfl) (pe_has c_law_ties hr (by decide) (by rfl) (pa_cons (pv 0) pa_nil))) (pss_cons (ps_if (PW.pt (pw_or (pt_not (pt_val (pe_callB (call_isiK2 (K := K) rfl) (by rfl) B.isinstance bb_isinstance (pa_cons (pv 3) (pa_cons (pe_bltn (v := .ty "list") (by rfl) B.list bb_list rfl) pa_nil))))) (pw_or1 (pt_cmpR (op_neDK (K := K) rfl hr.units) (pe_lc (own := [("_law_tie", 5)]) rfl scLawLeads.nd (pi_lstK (K := K) rfl (pv 3)) (blkOk_by (own := [("_law_tie", 5)]) (N := ["_law_web_here", "_law_choice", "_law_other_here", "_law_value", "_law_ties_here", "_law_tie", "_law_here"]) (sc := defScope sLawLeads) (by decide +kernel)) (fun _ _ _ _ _ => (pg_name (i := 5) scLawLeads.nd rfl (.inl rfl))) (fun _ _ _ _ _ => (pts_one (pt_not (pt_val (pe_has c_law_is_tie hr (by decide) (by rfl) (pa_cons (pv 4) (pa_cons (pv 5) pa_nil))))))) (fun _ _ _ _ _ => (pv 5))) (pe_lst pa_nil) (nomark _))))) (pss_one (ps_ret pe_bl)) pss_nil) (pss_cons (ps_if (PW.pt (pw_or (pt_cmpR (op_neDK (K := K) rfl hr.units) (pe_lc (own := [("_law_tie", 5)]) rfl scLawLeads.nd (pi_lstK (K := K) rfl (pv 3)) (blkOk_by (own := [("_law_tie", 5)]) (N := ["_law_web_here", "_law_choice", "_law_other_here", "_law_value", "_law_ties_here", "_law_tie", "_law_here"]) (sc := defScope sLawLeads) (by decide +kernel)) (fun _ _ _ _ _ => (pg_name (i := 5) scLawLeads.nd rfl (.inl rfl))) (fun _ _ _ _ _ => (pts_one (pt_cmpR op_gt (pe_bmK (K := K) rfl PySem.F.plainAttrs_list PySem.F.slot_list_count PySem.F.type_list_count (mt_countK (K := K) rfl (room65 hr)) (pv 3) (pa_cons (pv 5) pa_nil)) pe_int (nomark _)))) (fun _ _ _ _ _ => (pv 5))) (pe_lst pa_nil) (nomark _)) (pw_or1 (pt_not (pt_val (pe_has c_law_downward hr (by decide) (by rfl) (pa_cons (pv 0) (pa_cons (pv 1) pa_nil)))))))) (pss_one (ps_ret pe_bl)) pss_nil) (pss_cons (ps_set (i := 6) scLawLeads.nd rfl (.inl rfl) (pv 1)) (pss_cons (ps_for PassesOwn.never rfl (pi_lstK (K := K) rfl (pv 3)) (pg_name (i := 5) scLawLeads.nd rfl (.inl rfl)) (pss_cons (ps_set (i := 6) scLawLeads.nd rfl (.inl rfl) (pe_has c_law_other hr (by decide) (by rfl) (pa_cons (pv 6) (pa_cons (pe_bm PySem.F.plainAttrs_list PySem.F.slot_list_index PySem.F.type_list_index (mt_indexK (K := K) rfl (room65 hr)) (pv 4) (pa_cons (pv 5) pa_nil)) pa_nil)))) (pss_one (ps_if (pt_not (pt_val (pe_has c_law_downward hr (by decide) (by rfl) (pa_cons (pv 0) (pa_cons (pv 6) pa_nil))))) (pss_one (ps_ret pe_bl)) pss_nil)))) (pss_one (ps_ret (pe_cmpR (op_eqDK (K := K) rfl hr.units) (pv 6) (pv 2) (nomark _))))))))), ?_⟩
  have tl := ties_len ok
  refine s_asg (M := Z) exZ hG (gd_call (ga_cons (gd_var rfl hw) ga_nil) ⟨W, ok, rfl, rfl⟩) fun tt G3 H3 s13 htt => ?_
  have hw3 := hw.up s13.g
  have hx3 := hx.up s13.g
  have hc3 := hc.up s13.g
  have ti := gd_isi (K := K) (M := Z) (T := "list") (by decide) (gd_var (σ := [some v, some u, some z, some y, some tt, none, none]) (i := 3) (M := Z) rfl hx3)
  cases hl : isA "list" x with
  | false =>
    rw [leadsB_false fun ⟨ts, e, _⟩ => is_list_no hl ts e] at q
    rw [hl] at ti
    exact s_if (M := Z) exZ s13.gh (gt_orL (gt_notF (gt_B ti))) (fun _ G4 H4 s4 => s_ret (M := Z) exZ s4.gh gd_bl (q.from (s13.trans s4))) fun e => nomatch e
  | true =>
    rw [hl] at ti
    obtain ⟨xs, rfl⟩ := is_list_yes hl
    obtain ⟨l200, itm⟩ := okx.2 xs rfl
    have li := lay_items okx.1 (.inl rfl)
    have ta : Gd (tOp (rNeD K) (tLc (iList K (tVar 3)) (gName 5) (tNot (tB (tCall (Spd PLIsTie) [] E0 (tCons (tVar 4) (tCons (tVar 5) tNil))))) (tVar 5) [5]) (tLst tNil)) [some v, some u, some z, some y, some tt, none, none] Z G3 (.bool (!(xs.all (isTieB W)))) :=
      (gd_ne ((gd_lc (fun i => !isTieB W (xs.getD i .none)) (fun i => xs.getD i .none) (src_list (gd_var rfl hx3)) (by omega) fun i G4 t hi e4 ht => ⟨_, tg_name, rfl, gt_not (gt_B (gd_call (ga_cons (gd_var rfl (htt.up e4)) (ga_cons (gd_var rfl ht) ga_nil)) ⟨W, _, ok, itm _ (getD_mem hi), rfl, rfl⟩)), fun _ => gd_var rfl ht⟩).is (congrArg PyData.list (kept1_list xs .none (fun y => !isTieB W y) fun y => y)))
        (gd_lst ga_nil (by simp)) (lay_lst (n := 2) fun y hy => by
          rw [List.map_id'] at hy
          exact li y (List.mem_filter.mp hy).1).sh lay_nil.sh).is (by rw [eqv_nil, List.map_id', filter_empty])
    cases ha : xs.all (isTieB W) with
    | false =>
      rw [ha] at ta
      rw [leadsB_false fun ⟨ts, e, hL⟩ => by
        have e' : xs = ts.map tieD := by
          unfold tieL at e
          injection e
        have : xs.all (isTieB W) = true := List.all_eq_true.mpr fun y hy => by
          rw [e'] at hy
          obtain ⟨t, ht, rfl⟩ := List.mem_map.mp hy
          exact isTieB_tie (hL.1 t ht)
        rw [this] at ha
        cases ha] at q
      exact s_if (M := Z) exZ s13.gh (gt_orR (gt_notT (gt_B ti)) (gt_test ta)) (fun _ G4 H4 s4 => s_ret (M := Z) exZ s4.gh gd_bl (q.from (s13.trans s4))) fun e => nomatch e
    | true =>
      rw [ha] at ta
      obtain ⟨ts, rfl, hts⟩ := all_ties (W := W) (xs := xs) fun y hy => List.all_eq_true.mp ha _ hy
      rw [List.length_map] at l200
      have hL : ∀ {b : Bool}, (b = true ↔ (ts.Nodup ∧ Path W C' C ts)) → leadsB W C C' (.list (ts.map tieD)) = b := fun {b} hb => by
        refine Bool.eq_iff_iff.mpr ?_
        rw [leadsB_true, hb]
        constructor
        · rintro ⟨ts', e, h1, h2, h3⟩
          have := tieL_inj (l := ts) e
          subst this
          exact ⟨h2, h3⟩
        · rintro ⟨h2, h3⟩
          exact ⟨ts, rfl, hts, h2, h3⟩
      refine s_unless (M := Z) exZ s13.gh (gt_orF (gt_notT (gt_B ti)) (gt_test ta)) fun G4 H4 s4 => ?_
      have s14 := s13.trans s4
      have hx4 := hx.up s14.g
      have hc4 := hc.up s14.g
      have tw : Gd (tOp (rNeD K) (tLc (iList K (tVar 3)) (gName 5) (tTest (tOp (rI0 fun i j => .bl (decide (j < i))) (tBM K "list" (rCountD K) (tVar 3) (tCons (tVar 5) tNil)) (tC (.int 1)))) (tVar 5) [5]) (tLst tNil)) [some v, some u, some z, some y, some tt, none, none] Z G4 (.bool (!decide ts.Nodup)) :=
        (gd_ne ((gd_lc (fun i => decide (1 < ts.count (ts.getD i (0, 0)))) (fun i => tieD (ts.getD i (0, 0))) (src_list (gd_var rfl hx4)) (by rw [List.length_map]; omega) fun i G5 t hi e5 ht => by
          rw [List.length_map] at hi
          rw [getD_map (z := (0, 0)) hi] at ht
          refine ⟨_, tg_name, rfl, gt_test ((gd_B0 (gd_count (gd_var rfl (hx4.up e5)) (gd_var rfl ht)) gd_int).is ?_), fun _ => gd_var rfl ht⟩
          congr 1
          exact Bool.eq_iff_iff.mpr (by rw [decide_eq_true_iff, decide_eq_true_iff]; omega)).is (by
            rw [List.length_map]
            exact congrArg PyData.list (kept1_list ts (0, 0) (fun t => decide (1 < ts.count t)) tieD))) (gd_lst ga_nil (by simp)) (lay_tieL _).sh lay_nil.sh).is (by unfold tieL; rw [eqv_nil, List.isEmpty_map, once_iff])
      have dw := gd_call (M := Z) (σ := [some v, some u, some z, some y, some tt, none, none]) (E := E0) (ga_cons (gd_var (i := 0) rfl (hw.up s14.g)) (ga_cons (gd_var (i := 1) rfl hc4) ga_nil)) (show PStands [webD W, chD C] (.bool (standsB W C)) from ⟨W, C, ok, hC, rfl, rfl⟩)
      by_cases nd : ts.Nodup
      · rw [decide_eq_true nd] at tw
        cases hst : standsB W C with
        | false =>
          rw [hst] at dw
          rw [hL (b := false) ⟨(fun e => nomatch e), fun e => by
            have hs : Stands W C := by
              cases ts with
              | nil => exact e.2.1
              | cons t r => exact e.2.1
            have := standsB_iff.mpr hs
            rw [hst] at this
            cases this⟩] at q
          exact s_if (M := Z) exZ s14.gh (gt_orR (gt_test tw) (gt_notF (gt_B dw))) (fun _ G5 H5 s5 => s_ret (M := Z) exZ s5.gh gd_bl (q.from (s14.trans s5))) fun e => nomatch e
        | true =>
          rw [hst] at dw
          refine s_unless (M := Z) exZ s14.gh (gt_orF (gt_test tw) (gt_notT (gt_B dw))) fun G5 H5 s5 => ?_
          have s15 := s14.trans s5
          refine s_asg (M := Z) exZ s15.gh (gd_var rfl (hc.up s15.g)) fun h0 G6 H6 s6 dh => ?_
          have s16 := s15.trans s6
          have tt6 := htt.up ((s4.g.trans s5.g).trans s6.g)
          refine s_for (M := Z) (fun i σ G' H' => ∃ Ci h l5, Stp G H G' H' ∧ Stands W Ci ∧ Dx G' h (chD Ci) ∧ (Path W C' C ts ↔ Path W C' Ci (ts.drop i)) ∧ σ = [some v, some u, some z, some y, some tt, l5, some h]) exZ s16.gh (src_list (gd_var rfl (hx.up s16.g))) (fun G7 H7 s7 => ⟨C, h0, none, s16.trans s7, standsB_iff.mp hst, dh.up s7.g, Iff.rfl, rfl⟩) ?_ ?_
          · rintro i σ' G7 H7 tv G8 H8 hi g7 gh7 ⟨Ci, h, l5, s7, hCi, dh7, hp, rfl⟩ s8 ht
            rw [List.length_map] at hi
            rw [getD_map (z := (0, 0)) hi] at ht
            have s78 := s7.trans s8
            have hw8 := hw.up s78.g
            have dh8 := dh7.up s8.g
            have ed : ts.drop i = ts.getD i (0, 0) :: ts.drop (i + 1) := by
              rw [List.getD_eq_getElem?_getD, List.getElem?_eq_getElem hi]
              exact List.drop_eq_getElem_cons hi
            have ht' := hts _ (getD_mem (z := (0, 0)) hi)
            rw [ed] at hp
            have lt : (ties W).idxOf (ts.getD i (0, 0)) < Ci.length := by
              rw [hCi.ok.1]
              exact List.idxOf_lt_length_of_mem ht'
            have cl := ch_len ok hCi.ok
            have hp' : Path W C' C ts ↔ Path W C' (flip Ci ((ties W).idxOf (ts.getD i (0, 0)))) (ts.drop (i + 1)) := by
              rw [hp]
              exact ⟨fun e => e.2, fun e => ⟨hCi, e⟩⟩
            refine s_asg (M := Z) exZ s8.gh (gd_call (ga_cons (gd_var rfl dh8) (ga_cons (gd_index (gd_var rfl (tt6.up (g7.trans s8.g))) (gd_var rfl ht) ht') ga_nil)) ⟨Ci, _, lt, by omega, rfl, rfl⟩) fun h' G9 H9 s9 dh9 => ?_
            have s79 := s78.trans s9
            have hf := flip_ok hCi.ok ((ties W).idxOf (ts.getD i (0, 0)))
            have dwi := gd_call (M := Z) (σ := [some v, some u, some z, some y, some tt, some tv, some h']) (E := E0) (ga_cons (gd_var (i := 0) rfl (hw8.up s9.g)) (ga_cons (gd_var (i := 6) rfl dh9) ga_nil)) (show PStands [webD W, chD (flip Ci ((ties W).idxOf (ts.getD i (0, 0))))] (.bool (standsB W (flip Ci ((ties W).idxOf (ts.getD i (0, 0)))))) from ⟨W, _, ok, hf, rfl, rfl⟩)
            cases hs : standsB W (flip Ci ((ties W).idxOf (ts.getD i (0, 0)))) with
            | false =>
              rw [hs] at dwi
              rw [hL (b := false) ⟨(fun e => nomatch e), fun e => by
                have hs' : Stands W (flip Ci ((ties W).idxOf (ts.getD i (0, 0)))) := by
                  have := hp'.mp e.2
                  cases hq : ts.drop (i + 1) with
                  | nil =>
                    rw [hq] at this
                    exact this.1
                  | cons t r =>
                    rw [hq] at this
                    exact this.1
                have := standsB_iff.mpr hs'
                rw [hs] at this
                cases this⟩] at q
              exact s_ifE (M := Z) exZ s9.gh (gt_notF (gt_B dwi)) (fun _ G10 H10 s10 => s_ret (M := Z) exZ s10.gh gd_bl (q.from (s79.trans s10))) fun e => nomatch e
            | true =>
              rw [hs] at dwi
              exact s_unlessE (M := Z) exZ s9.gh (gt_notT (gt_B dwi)) fun G10 H10 s10 => ⟨G10, s8.g.trans (s9.g.trans s10.g), s10.gh, _, h', _, s79.trans s10, standsB_iff.mp hs, dh9.up s10.g, hp', rfl⟩
          · rintro σ' G7 H7 g7 gh7 ⟨Ci, h, l5, s7, hCi, dh7, hp, rfl⟩
            rw [List.length_map, List.drop_length] at hp
            refine s_ret (M := Z) exZ gh7 ((gd_eq (gd_var rfl dh7) (gd_var rfl (hd.up s7.g)) (lay_chD _).sh (lay_chD _).sh).is ?_) (q.from s7)
            rw [eqv_ch, hL]
            rw [hp, decide_eq_true_iff]
            exact ⟨fun e => ⟨nd, hCi, e⟩, fun e => e.2.2⟩
      · rw [decide_eq_false nd] at tw
        rw [hL (b := false) ⟨(fun e => nomatch e), fun e => absurd e.1 nd⟩] at q
        exact s_if (M := Z) exZ s14.gh (gt_orL (gt_test tw)) (fun _ G5 H5 s5 => s_ret (M := Z) exZ s5.gh gd_bl (q.from (s14.trans s5))) fun e => nomatch e
theorem scLawGates : FnScope ["_law_web_here", "_law_choice", "_law_ties_here", "_law_k"] ["_law_web_here", "_law_choice"] (defScope sLawGates) := ⟨rfl, rfl, rfl, by decide +kernel, rfl, by decide +kernel, by decide +kernel⟩
theorem ok_law_gates (D : Df K mg "_law_gates" sLawGates ["_law_web_here", "_law_choice"] f fd) (B : Bi mg) (c_law_ties : Has P w K mg base 1 "_law_ties" (Spd PTies)) (c_law_downward : Has P w K mg base 2 "_law_downward" (Spd PStands)) (c_law_other : Has P w K mg base 1 "_law_other" (Spd POther)) :
    FnOk P w K mg base CX0 3 f fd ["_law_web_here", "_law_choice"] (Spd PLGates) := by
  refine D.F.ok scLawGates (Spd.len (n := 2) fun ds d ⟨_, _, _, _, e, _⟩ => by rw [e]; rfl) (fun cdv A outer s H vs Q E hr h => ?_)
  obtain ⟨G, ds, d, hG, hv, ⟨W, C, ok, hC, rfl, rfl⟩, q⟩ := h
  obtain ⟨v, u, rfl, hw, hc⟩ := hv.two
  refine ⟨_, PSs.nox (pss_cons (ps_set (i := 2) scLawGates.nd rfl (.inr rfl) (pe_has c_law_ties hr (by decide) (by rfl) (pa_cons (pv 0) pa_nil))) (pss_one (ps_ret (pe_lc (own := [("_law_k", 3)]) rfl scLawGates.nd (pi_range1 (by rfl) B.range (pa_cons (pe_callB (call_lenK (K := K) rfl) (by rfl) B.len bb_len (pa_cons (pv 2) pa_nil)) pa_nil)) (blkOk_by (own := [("_law_k", 3)]) (N := ["_law_web_here", "_law_choice", "_law_ties_here", "_law_k"]) (sc := defScope sLawGates) (by decide +kernel)) (fun _ _ _ _ _ => (pg_name (i := 3) scLawGates.nd rfl (.inl rfl))) (fun _ _ _ _ _ => (pts_one (pt_val (pe_has c_law_downward hr (by decide) (by rfl) (pa_cons (pv 0) (pa_cons (pe_has c_law_other hr (by decide) (by rfl) (pa_cons (pv 1) (pa_cons (pv 3) pa_nil))) pa_nil)))))) (fun _ _ _ _ _ => (pe_ix (ix_twoK (K := K) rfl) (pv 2) (pv 3) (fun _ _ => rfl))))))), ?_⟩
  have tl := ties_len ok
  have cl := ch_len ok hC
  refine s_asg (M := Z) exZ hG (gd_call (ga_cons (gd_var rfl hw) ga_nil) ⟨W, ok, rfl, rfl⟩) fun tt G1 H1 s1 htt => ?_
  have hw1 := hw.up s1.g
  have hc1 := hc.up s1.g
  refine s_ret (M := Z) exZ s1.gh (gd_lc (n := (ties W).length) (fun k => standsB W (flip C k)) (fun k => tieD ((ties W).getD k (0, 0))) (src_range1 ((gd_lenL (gd_var rfl htt)).is (by rw [List.length_map])) (by omega)) (by omega) fun k G2 x hk e2 hx => ?_) (q.from s1)
  exact ⟨_, tg_name, rfl, gt_B (gd_call (ga_cons (gd_var rfl (hw1.up e2)) (ga_cons (gd_call (ga_cons (gd_var rfl (hc1.up e2)) (ga_cons (gd_var rfl hx) ga_nil)) ⟨C, k, by rw [hC.1]; exact hk, by omega, rfl, rfl⟩) ga_nil)) ⟨W, flip C k, ok, flip_ok hC k, rfl, rfl⟩), fun _ => gd_ixL (gd_var rfl (htt.up e2)) (gd_var rfl hx) (atI_map (getD_get (z := (0, 0)) hk))⟩
end
end Sg

/-! the law's downward -/
namespace Sg
open PySem PySem.Spec PyProof.Rows L2
open Evl (Ex)
theorem DxA.set {G : Hp} : ∀ {vs : List V} {ds : List PyData} {v : V} {d : PyData} (c : Nat), DxA G vs ds → Dx G v d → DxA G (vs.set c v) (ds.set c d)
  | _, _, _, _, _, .nil, _ => .nil
  | _, _, _, _, 0, .cons _ hs, h => .cons h hs
  | _, _, _, _, c + 1, .cons a hs, h => .cons a (DxA.set c hs h)
section
variable {K : PySem.W.Frag} {σ : L2.St} {M G H : Hp} {te ta tb tx : TE} {D : Ends} {tz : TS}
theorem ixN_nat {n c : Nat} (h : c < n) : ixN n (c : Int) = some c := by
  unfold ixN
  simp [h]
/-- l[c] = e -/
theorem s_sub {i j : Nat} {p : Addr} {us : List V} {c : Nat} {d : PyData} (hM : Ex M H) (hG : Ex G H) (hp : Hold G H p us) (h : σ[i]? = some (some (.ref p))) (hj : σ[j]? = some (some (.int c))) (hc : c < us.length) (hx : Gd te σ M G d)
    (k : ∀ v G' H', Stp G H G' H' → Hold G' H' p us → Dx G' v d → tz D σ (upd H' p (.lst (us.set c v)))) : tSeq (tAsg te (gSub (tVar i) (tVar j) rSetL)) tz D σ H := hx H hM hG _ fun v G1 H1 s1 d1 =>
  ⟨_, h, _, hj, p, us, c, c, rfl, rfl, (hp.step s1).h, ixN_nat hc, k v G1 H1 s1 (hp.step s1) d1⟩
theorem s_subE {i j : Nat} {p : Addr} {us : List V} {c : Nat} {d : PyData} (hM : Ex M H) (hG : Ex G H) (hp : Hold G H p us) (h : σ[i]? = some (some (.ref p))) (hj : σ[j]? = some (some (.int c))) (hc : c < us.length) (hx : Gd te σ M G d)
    (k : ∀ v G' H', Stp G H G' H' → Hold G' H' p us → Dx G' v d → D.nx σ (upd H' p (.lst (us.set c v)))) : tAsg te (gSub (tVar i) (tVar j) rSetL) D σ H := s_sub (tz := tNext) (D := D) hM hG hp h hj hc hx k
theorem iv_set (ns : List Int) (c : Nat) (z : Int) : (iv ns).set c (.int z) = iv (ns.set c z) := by
  unfold iv
  rw [List.map_set]
theorem iv_len (ns : List Int) : (iv ns).length = ns.length := by
  unfold iv
  rw [List.length_map]
/-- an item, known, of a list that may change -/
theorem gd_ixU {i : Nat} {p : Addr} {us : List V} {ds : List PyData} {d : PyData} {c : Nat} (h : σ[i]? = some (some (.ref p))) (hp : M p = some (.lst us)) (hu : DxA G us ds) (hd : ds[c]? = some d) (hx : Gd tx σ M G (.int c)) : Gd (tOp (rIx2 K) (tVar i) tx) σ M G d := fun H hM hG Q q =>
  ⟨_, h, hx H hM hG _ fun v G1 H1 s1 d1 => by
    cases d1
    obtain ⟨z, hz, dz⟩ := hu.get hd
    exact .inl ⟨p, us, c, z, rfl, rfl, SqL.of (s1.h _ _ (hM _ _ hp)), atI_nat hz, q z G1 H1 s1 (dz.up s1.g)⟩⟩
/-- x, y = (a, b), raw -/
theorem s_tup2 {i j : Nat} (h : ta σ H fun x H1 => tb σ H1 fun y H2 => 2 ≤ sizeLine ∧ ∀ p, H2 p = none → gTup K 2 (gCons (gName i) (gCons (gName j) gNil)) (.ref p) σ (upd H2 p (.tup [x, y])) fun σ2 H3 => tz D σ2 H3) :
    tSeq (tAsg (tTup (tCons ta (tCons tb tNil))) (gTup K 2 (gCons (gName i) (gCons (gName j) gNil)))) tz D σ H := h
/-- a, b = e, f by two stores; three -/
theorem s_par2 {i j : Nat} {t2 : TA} {d e : PyData} (hM : Ex M H) (hG : Ex G H) (h : Ga t2 σ M G [d, e]) (k : ∀ v w G' H', Stp G H G' H' → Dx G' v d → Dx G' w e → tz D ((σ.set i (some v)).set j (some w)) H') : tSeq (tPar i j t2) tz D σ H := h H hM hG _ fun vs G1 H1 s1 dv => by
  obtain ⟨v, w, rfl, d1, d2⟩ := dv.two
  exact ⟨v, w, rfl, k v w G1 H1 s1 d1 d2⟩
theorem s_par3 {i j l : Nat} {t2 : TA} {d e c : PyData} (hM : Ex M H) (hG : Ex G H) (h : Ga t2 σ M G [d, e, c]) (k : ∀ v w z G' H', Stp G H G' H' → Dx G' v d → Dx G' w e → Dx G' z c → tz D (((σ.set i (some v)).set j (some w)).set l (some z)) H') : tSeq (tPar3 i j l t2) tz D σ H := h H hM hG _ fun vs G1 H1 s1 dv => by
  obtain ⟨v, w, z, rfl, d1, d2, d3⟩ := dv.three
  exact ⟨v, w, z, rfl, k v w z G1 H1 s1 d1 d2 d3⟩
end
theorem kept1_rows (m : Nat) : kept1 m (fun _ => true) (fun _ => PyData.list []) = (belowOf m []).map nD := by
  rw [belowOf_nil]
  unfold kept1
  rw [List.filter_eq_self.mpr (fun _ _ => rfl), List.map_replicate]
  exact List.ext_getElem (by simp) fun i h1 h2 => by simp [nD]
def arrL (A : List (Nat × Nat)) : PyData := tieL A
section
variable {P : Program} {w : World} {K : PySem.W.Frag} {mg : Str → Option Value} {base : Heap} {f : Addr} {fd : FuncData}
theorem scLawDownward : FnScope ["_law_web_here", "_law_choice", "_law_many", "_law_ties_here", "_law_spot", "_law_below", "_law_above", "_law_k", "_law_x", "_law_y", "_law_far", "_law_near", "_law_arrows", "_law_one", "_law_other_here", "_law_here", "_law_turn"] ["_law_web_here", "_law_choice"] (defScope sLawDownward) := ⟨rfl, rfl, rfl, by decide +kernel, rfl, by decide +kernel, by decide +kernel⟩
theorem ok_law_downward (D : Df K mg "_law_downward" sLawDownward ["_law_web_here", "_law_choice"] f fd) (B : Bi mg) (c_law_ties : Has P w K mg base 1 "_law_ties" (Spd PTies)) : FnOk P w K mg base CX0 2 f fd ["_law_web_here", "_law_choice"] (Spd PStands) := by
  refine D.F.ok scLawDownward (Spd.len (n := 2) fun ds d ⟨_, _, _, _, e, _⟩ => by rw [e]; rfl) (fun cdv A outer s H vs Q E hr h => ?_)
  obtain ⟨G, ds, d, hG, hv, ⟨W, C, ok, hC, rfl, rfl⟩, q⟩ := h
  obtain ⟨v, u, rfl, hw, hc⟩ := hv.two
  refine ⟨_, PSs.nox (pss_cons (ps_par (i := 2) (j := 3) rfl scLawDownward.nd rfl rfl (by decide) rfl rfl (pa_cons (pe_callB (call_lenK (K := K) rfl) (by rfl) B.len bb_len (pa_cons (pv 0) pa_nil)) (pa_cons (pe_has c_law_ties hr (by decide) (by rfl) (pa_cons (pv 0) pa_nil)) pa_nil)) (by rfl)) (pss_cons (ps_asg (pe_tup (pa_cons (pe_lc (own := [("_law_spot", 4)]) rfl scLawDownward.nd (pi_range1 (by rfl) B.range (pa_cons (pe_op op_times pe_int (pv 2)) pa_nil)) (blkOk_by (own := [("_law_spot", 4)]) (N := ["_law_web_here", "_law_choice", "_law_many", "_law_ties_here", "_law_spot", "_law_below", "_law_above", "_law_k", "_law_x", "_law_y", "_law_far", "_law_near", "_law_arrows", "_law_one", "_law_other_here", "_law_here", "_law_turn"]) (sc := defScope sLawDownward) (by decide +kernel)) (fun _ _ _ _ _ => (pg_name (i := 4) scLawDownward.nd rfl (.inl rfl))) (fun _ _ _ _ _ => pts_nil) (fun _ _ _ _ _ => (pe_lst pa_nil))) (pa_cons (pe_op op_times (pe_lst (pa_cons pe_int pa_nil)) (pe_op op_times pe_int (pv 2))) pa_nil))) (pg_tupK (K := K) (n := 2) rfl rfl (pgs_cons (pg_name (i := 5) scLawDownward.nd rfl (.inl rfl)) (pgs_cons (pg_name (i := 6) scLawDownward.nd rfl (.inr rfl)) pgs_nil)))) (pss_cons (ps_for PassesOwn.never rfl (pi_range1 (by rfl) B.range (pa_cons (pe_callB (call_lenK (K := K) rfl) (by rfl) B.len bb_len (pa_cons (pv 3) pa_nil)) pa_nil)) (pg_name (i := 7) scLawDownward.nd rfl (.inl rfl)) (pss_cons (ps_asg (pe_ix (ix_twoK (K := K) rfl) (pv 3) (pv 7) (fun _ _ => rfl)) (pg_tupK (K := K) (n := 2) rfl rfl (pgs_cons (pg_name (i := 8) scLawDownward.nd rfl (.inl rfl)) (pgs_cons (pg_name (i := 9) scLawDownward.nd rfl (.inl rfl)) pgs_nil)))) (pss_cons (ps_asg (pe_ifExp (pt_cmpR (op_eqDK (K := K) rfl hr.units) (pe_ix (ix_twoK (K := K) rfl) (pe_ix (ix_twoK (K := K) rfl) (pv 0) (pv 8) (fun _ _ => rfl)) (pv 9) (fun _ _ => rfl)) pe_int (nomark _)) (pe_tup (pa_cons (pv 9) (pa_cons (pe_op (op_plusK (K := K) rfl) (pv 9) (pv 2)) pa_nil))) (pe_tup (pa_cons (pe_op (op_plusK (K := K) rfl) (pv 9) (pv 2)) (pa_cons (pv 9) pa_nil)))) (pg_tupK (K := K) (n := 2) rfl rfl (pgs_cons (pg_name (i := 10) scLawDownward.nd rfl (.inl rfl)) (pgs_cons (pg_name (i := 11) scLawDownward.nd rfl (.inl rfl)) pgs_nil)))) (pss_cons (ps_set (i := 12) scLawDownward.nd rfl (.inl rfl) (pe_ifExp (pt_cmpR (op_eqDK (K := K) rfl hr.units) (pe_ix (ix_twoK (K := K) rfl) (pv 1) (pv 7) (fun _ _ => rfl)) pe_int (nomark _)) (pe_lst (pa_cons (pe_tup (pa_cons (pv 8) (pa_cons (pv 10) pa_nil))) (pa_cons (pe_tup (pa_cons (pv 11) (pa_cons (pe_op (op_plusK (K := K) rfl) (pv 8) (pv 2)) pa_nil))) pa_nil))) (pe_lst (pa_cons (pe_tup (pa_cons (pv 10) (pa_cons (pv 8) pa_nil))) (pa_cons (pe_tup (pa_cons (pe_op (op_plusK (K := K) rfl) (pv 8) (pv 2)) (pa_cons (pv 11) pa_nil))) pa_nil))))) (pss_one (ps_for PassesOwn.never rfl (pi_lstK (K := K) rfl (pv 12)) (pg_tupK (K := K) (n := 2) rfl rfl (pgs_cons (pg_name (i := 13) scLawDownward.nd rfl (.inl rfl)) (pgs_cons (pg_name (i := 14) scLawDownward.nd rfl (.inl rfl)) pgs_nil))) (pss_cons (ps_asg (pe_op (op_plusK (K := K) rfl) (pe_ix (ix_twoK (K := K) rfl) (pv 5) (pv 13) (fun _ _ => rfl)) (pe_lst (pa_cons (pv 14) pa_nil))) (pg_sub (pv 5) (pv 13) set_list)) (pss_one (ps_asg (pe_op (op_plusK (K := K) rfl) (pe_ix (ix_twoK (K := K) rfl) (pv 6) (pv 14) (fun _ _ => rfl)) pe_int) (pg_sub (pv 6) (pv 14) set_list)))))))))) (pss_cons (ps_setLc (i := 15) (own := [("_law_spot", 4)]) rfl scLawDownward.nd rfl rfl (sw_true rfl rfl rfl (by decide +kernel)) (pi_range1 (by rfl) B.range (pa_cons (pe_op op_times pe_int (pv 2)) pa_nil)) (blkOk_by (own := [("_law_spot", 4)]) (N := ["_law_web_here", "_law_choice", "_law_many", "_law_ties_here", "_law_spot", "_law_below", "_law_above", "_law_k", "_law_x", "_law_y", "_law_far", "_law_near", "_law_arrows", "_law_one", "_law_other_here", "_law_here", "_law_turn"]) (sc := defScope sLawDownward) (by decide +kernel)) (fun _ _ _ _ _ => (pg_name (i := 4) scLawDownward.nd rfl (.inl rfl))) (fun _ _ _ _ _ => (pts_one (pt_cmpR (op_eqDK (K := K) rfl hr.units) (pe_ix (ix_twoK (K := K) rfl) (pv 6) (pv 4) (fun _ _ => rfl)) pe_int (nomark _)))) (fun _ _ _ _ _ => (pv 4))) (pss_cons (ps_for PassesOwn.never rfl (pi_range1 (by rfl) B.range (pa_cons (pe_op op_times pe_int (pv 2)) pa_nil)) (pg_name (i := 16) scLawDownward.nd rfl (.inl rfl)) (pss_one (ps_if (pt_cmpR op_lt (pv 16) (pe_callB (call_lenK (K := K) rfl) (by rfl) B.len bb_len (pa_cons (pv 15) pa_nil)) (nomark _)) (pss_one (ps_for PassesOwn.never rfl (pi_lstK (K := K) rfl (pe_ix (ix_twoK (K := K) rfl) (pv 5) (pe_ix (ix_twoK (K := K) rfl) (pv 15) (pv 16) (fun _ _ => rfl)) (fun _ _ => rfl))) (pg_name (i := 4) scLawDownward.nd rfl (.inl rfl)) (pss_cons (ps_asg (pe_op op_sub (pe_ix (ix_twoK (K := K) rfl) (pv 6) (pv 4) (fun _ _ => rfl)) pe_int) (pg_sub (pv 6) (pv 4) set_list)) (pss_one (ps_if (pt_cmpR (op_eqDK (K := K) rfl hr.units) (pe_ix (ix_twoK (K := K) rfl) (pv 6) (pv 4) (fun _ _ => rfl)) pe_int (nomark _)) (pss_one (ps_expr (pe_bm PySem.F.plainAttrs_list PySem.F.slot_list_append PySem.F.type_list_append mt_append (pv 15) (pa_cons (pv 4) pa_nil)))) pss_nil))))) pss_nil))) (pss_one (ps_ret (pe_cmpR (op_eqDK (K := K) rfl hr.units) (pe_callB (call_lenK (K := K) rfl) (by rfl) B.len bb_len (pa_cons (pv 15) pa_nil)) (pe_op op_times pe_int (pv 2)) (nomark _))))))))), ?_⟩
  have le := ok.le
  have pos := ok.pos
  have tl := ties_len ok
  have wl : ((W.map rowD).length : Int) = W.length := by rw [List.length_map]
  have two : ∀ n : Nat, (2 : Int) * (n : Int) = ((2 * n : Nat) : Int) := fun n => by rw [Int.natCast_mul]; rfl
  refine s_par2 (M := Z) exZ hG (ga_cons ((gd_lenT (gd_var rfl hw)).is (by rw [wl])) (ga_cons (gd_call (ga_cons (gd_var rfl hw) ga_nil) ⟨W, ok, rfl, rfl⟩) ga_nil)) fun nW tt G1 H1 s1 dn dt => ?_
  cases dn
  have m2 : ∀ {σ : L2.St} {G : Hp}, σ[2]? = some (some (.int W.length)) → Gd (tOp rTimes (tC (.int 2)) (tVar 2)) σ Z G (.int (2 * W.length : Nat)) := fun h => (gd_times gd_int (gd_var h (.int _)) (cmul_l (by decide) (by decide))).is (by rw [two])
  refine s_tup2 ?_
  refine lc_mut (M := Z) (fun _ => true) (fun _ => .list []) (src_range1 (m2 rfl) (by omega)) (by omega) (fun i G2 x hi e2 hx => ⟨_, tg_name, rfl, gt_yes, fun _ => gd_lst ga_nil (by simp)⟩) H1 exZ s1.gh _ fun pb us G2 H2 s2 nb gb hb du => ?_
  rw [kept1_rows] at du
  refine rep_raw (M := Z) exZ s2.gh (m2 rfl) (by omega) fun pa G3 H3 s3 na ha => ⟨by decide, fun p hp => ⟨p, _, rfl, SqT.of upd_same, rfl, _, _, rfl, _, _, rfl, rfl, ?_⟩⟩
  have s13 := (s1.trans s2).trans s3
  have s14 := s13.new (o := .tup [.ref pb, .ref pa]) hp
  have s34 : Stp G3 H3 G3 (upd H3 p (.tup [.ref pb, .ref pa])) := (Stp.refl s3.gh).new hp
  have hb2 : Hold G2 H2 pb us := ⟨gb, hb⟩
  have hb4 := (hb2.step s3).step s34
  have ha4 := ha.step s34
  have ne : pa ≠ pb := fun e => by
    rw [e, hb] at na
    cases na
  have na0 : H pa = none := fresh_of (s1.trans s2).h na
  have nb0 : H pb = none := fresh_of s1.h nb
  have dt4 := dt.up (s2.g.trans s3.g)
  refine s_for (n := (ties W).length) (M := Z) (fun i σ G' H' => ∃ us l7 l8 l9 l10 l11 l12 l13 l14, Stp G H G' H' ∧ Dx G' tt (tieL (ties W)) ∧ Hold G' H' pb us ∧ DxA G' us ((belowOf (2 * W.length) (arrsTo W C i)).map nD) ∧ Hold G' H' pa (iv (cntL (2 * W.length) ((arrsTo W C i).map (·.2)))) ∧
    σ = [some v, some u, some (.int W.length), some tt, none, some (.ref pb), some (.ref pa), l7, l8, l9, l10, l11, l12, l13, l14, none, none]) exZ s14.gh (src_range1 ((gd_lenL (gd_var rfl dt4)).is (by rw [List.length_map])) (by omega)) (fun G4 H4 s4 => ⟨us, none, none, none, none, none, none, none, none, s14.trans s4, dt4.up s4.g, hb4.step s4, ?_, ?_, rfl⟩) ?_ ?_
  · exact du.up (s3.g.trans s4.g)
  · have := ha4.step s4
    rw [← cntL_nil] at this
    exact this
  · rintro i σ' G4 H4 kv G5 H5 hi g4 gh4 ⟨us4, l7, l8, l9, l10, l11, l12, l13, l14, s4, dt5, hb5, du5, ha5, rfl⟩ s5 hk
    have hiC : i < C.length := by rw [hC.1]; exact hi
    have tm : (ties W).getD i (0, 0) ∈ ties W := getD_mem hi
    have e := arrsTo_next hC.1 hi
    have wy : C.getD i 0 = 1 ∨ C.getD i 0 = -1 := hC.2 _ (getD_mem hiC)
    have lt0 := arr1_lt ok tm (C.getD i 0)
    have sm := arrsTo_len W C i
    have atT : (ties W)[i]? = some ((ties W).getD i (0, 0)) := getD_get hi
    have atC : C[i]? = some (C.getD i 0) := getD_get hiC
    generalize (ties W).getD i (0, 0) = t at tm e lt0 atT
    generalize C.getD i 0 = way at e wy lt0 atC
    obtain ⟨h1, h2, h3⟩ := mem_ties.mp tm
    have s45 := s4.trans s5
    refine s_asg2 (M := Z) (a := .int (t.1 : Int)) (b := .int (t.2 : Int)) exZ s5.gh (gd_ixL (gd_var rfl (dt5.up s5.g)) (gd_var rfl hk) (atI_map atT)) fun x y G6 H6 s6 dx dy => ?_
    cases dx
    cases dy
    have s46 := s45.trans s6
    refine s_asg2 (M := Z) (a := .int (farOf W t)) (b := .int (nearOf W t)) exZ s6.gh (gd_if (b := decide (sg W t.1 t.2 = 1)) (gt_test ((gd_eq (gd_web ok (by omega) h2 (gd_var rfl (hw.up s46.g)) (gd_var rfl (.int _)) (gd_var rfl (.int _))) gd_int rfl rfl).is ?_)) (fun hb => ?_) (fun hb => ?_)) fun a b G7 H7 s7 da db => ?_
    · rw [eqv_int]
      congr 1
    · have hb := of_decide_eq_true hb
      refine (gd_tup (ga_cons (gd_var rfl (.int (t.2 : Int))) (ga_cons (gd_plus (gd_var rfl (.int (t.2 : Int))) (gd_var rfl (.int (W.length : Int)))) ga_nil)) (by simp)).is ?_
      unfold farOf nearOf
      rw [if_pos hb, if_pos hb, Int.natCast_add]
    · have hb := of_decide_eq_false hb
      refine (gd_tup (ga_cons (gd_plus (gd_var rfl (.int (t.2 : Int))) (gd_var rfl (.int (W.length : Int)))) (ga_cons (gd_var rfl (.int (t.2 : Int))) ga_nil)) (by simp)).is ?_
      unfold farOf nearOf
      rw [if_neg hb, if_neg hb, Int.natCast_add]
    cases da
    cases db
    have s47 := s46.trans s7
    have plus : ∀ {σ : L2.St} {G : Hp}, σ[8]? = some (some (.int (t.1 : Int))) → σ[2]? = some (some (.int W.length)) → Gd (tOp (rPlus K) (tVar 8) (tVar 2)) σ Z G (.int (t.1 + W.length : Nat)) := fun h h' => (gd_plus (gd_var h (.int _)) (gd_var h' (.int _))).is (by rw [Int.natCast_add])
    refine s_asg (M := Z) (d := tieL (arr1 W t way)) exZ s7.gh (gd_if (b := decide (way = 1)) (gt_test ((gd_eq (gd_ixT (gd_var rfl (hc.up s47.g)) (gd_var rfl (hk.up (s6.g.trans s7.g))) (atI_map atC)) gd_int rfl rfl).is ?_)) (fun hb => ?_) (fun hb => ?_)) fun ar G8 H8 s8 dr => ?_
    · rw [eqv_int]
      congr 1
    · refine (gd_lst (ga_cons (gd_tup (ga_cons (gd_var rfl (.int (t.1 : Int))) (ga_cons (gd_var rfl (.int (farOf W t : Int))) ga_nil)) (by simp)) (ga_cons (gd_tup (ga_cons (gd_var rfl (.int (nearOf W t : Int))) (ga_cons (plus rfl rfl) ga_nil)) (by simp)) ga_nil)) (by simp)).is ?_
      unfold arr1
      rw [if_pos (of_decide_eq_true hb)]
      rfl
    · refine (gd_lst (ga_cons (gd_tup (ga_cons (gd_var rfl (.int (farOf W t : Int))) (ga_cons (gd_var rfl (.int (t.1 : Int))) ga_nil)) (by simp)) (ga_cons (gd_tup (ga_cons (plus rfl rfl) (ga_cons (gd_var rfl (.int (nearOf W t : Int))) ga_nil)) (by simp)) ga_nil)) (by simp)).is ?_
      unfold arr1
      rw [if_neg (of_decide_eq_false hb)]
      rfl
    have s48 := s47.trans s8
    have s58 := ((s5.trans s6).trans s7).trans s8
    have len2 := arr1_len W t way
    refine s_forE (M := Z) (fun j σ G' H' => ∃ us l13 l14, Stp G H G' H' ∧ Dx G' tt (tieL (ties W)) ∧ Hold G' H' pb us ∧ DxA G' us ((belowOf (2 * W.length) (arrsTo W C i ++ (arr1 W t way).take j)).map nD) ∧ Hold G' H' pa (iv (cntL (2 * W.length) ((arrsTo W C i ++ (arr1 W t way).take j).map (·.2)))) ∧
      σ = [some v, some u, some (.int W.length), some tt, none, some (.ref pb), some (.ref pa), some kv, some (.int (t.1 : Int)), some (.int (t.2 : Int)), some (.int (farOf W t : Int)), some (.int (nearOf W t : Int)), some ar, l13, l14, none, none]) exZ s8.gh (src_list (gd_var rfl dr)) (fun G9 H9 s9 => ⟨us4, l13, l14, s48.trans s9, dt5.up (s58.trans s9).g, hb5.step (s58.trans s9), ?_, ?_, rfl⟩) ?_ ?_
    · rw [List.take_zero, List.append_nil]
      exact du5.up (s58.trans s9).g
    · rw [List.take_zero, List.append_nil]
      exact ha5.step (s58.trans s9)
    · rintro j σ' G9 H9 pv G10 H10 hj g9 gh9 ⟨us9, l13, l14, s9, dt9, hb9, du9, ha9, rfl⟩ s10 hpv
      rw [List.length_map] at hj
      rw [getD_map (z := (0, 0)) hj] at hpv
      have lj := lt0 _ (getD_mem (z := (0, 0)) hj)
      have nxt := take_snoc (z := (0, 0)) hj
      generalize (arr1 W t way).getD j (0, 0) = ab at hpv lj nxt
      obtain ⟨a, b⟩ := ab
      obtain ⟨xa, xb, da, db, tg⟩ := tg_two (K := K) (i := 13) (j := 14) (σ1 := [some v, some u, some (.int W.length), some tt, none, some (.ref pb), some (.ref pa), some kv, some (.int (t.1 : Int)), some (.int (t.2 : Int)), some (.int (farOf W t : Int)), some (.int (nearOf W t : Int)), some ar, l13, l14, none, none]) hpv
      cases da
      cases db
      refine tg H10 _ s10.gh ?_
      have hb10 := hb9.step s10
      have ha10 := ha9.step s10
      have du10 := du9.up s10.g
      have lb : (belowOf (2 * W.length) (arrsTo W C i ++ (arr1 W t way).take j)).length = 2 * W.length := belowOf_len _ _
      have at1 : ((belowOf (2 * W.length) (arrsTo W C i ++ (arr1 W t way).take j)).map nD)[a]? = some (nD ((belowOf (2 * W.length) (arrsTo W C i ++ (arr1 W t way).take j)).getD a [])) := by
        rw [List.getElem?_map, getD_get (z := []) (by rw [lb]; exact lj.1)]
        rfl
      have small := bel_small (2 * W.length) (arrsTo W C i ++ (arr1 W t way).take j) a
      rw [List.length_append, List.length_take] at small
      have lus : us9.length = 2 * W.length := by
        have := du9.length
        rw [List.length_map, lb] at this
        exact this
      refine s_sub (M := upd Z pb (.lst us9)) hb10.one s10.gh hb10 rfl rfl (by rw [lus]; exact lj.1) (gd_catL (gd_ixU rfl upd_same du10 at1 (gd_var rfl (.int (a : Int)))) (gd_lst (ga_cons (gd_var rfl (.int (b : Int))) ga_nil) (by simp)) (by rw [List.length_map, List.length_singleton]; omega)) fun w1 G11 H11 s11 hb11 dw => ?_
      have ha11 := (ha10.step s11).other (o := .lst (us9.set a w1)) ne
      have sA := hb11.stp (o := .lst (us9.set a w1)) ((s9.trans s10).trans s11) nb0
      have ghA := hb11.ex (o := .lst (us9.set a w1)) s11.gh
      have hbA : Hold G11 (upd H11 pb (.lst (us9.set a w1))) pb (us9.set a w1) := hb11.put
      have duA : DxA G11 (us9.set a w1) ((belowOf (2 * W.length) ((arrsTo W C i ++ (arr1 W t way).take j) ++ [(a, b)])).map nD) := by
        rw [belowOf_snoc lj.1, List.map_set]
        refine (du10.up s11.g).set a ?_
        unfold nD at dw ⊢
        rw [List.map_append]
        exact dw
      refine s_subE (M := upd Z pa (.lst (iv (cntL (2 * W.length) ((arrsTo W C i ++ (arr1 W t way).take j).map (·.2)))))) ha11.one ghA ha11 rfl rfl (by rw [iv_len, cntL_len]; exact lj.2) (gd_plus (gd_ixH rfl upd_same (gd_var rfl (.int (b : Int))) (by rw [cntL_len]; exact lj.2)) gd_int) fun w2 G12 H12 s12 ha12 dw2 => ?_
      cases dw2
      have sB := ha12.stp (o := .lst ((iv (cntL (2 * W.length) ((arrsTo W C i ++ (arr1 W t way).take j).map (·.2)))).set b (.int ((cntL (2 * W.length) ((arrsTo W C i ++ (arr1 W t way).take j).map (·.2))).getD b 0 + 1)))) (sA.trans s12) na0
      refine ⟨G12, s10.g.trans (s11.g.trans s12.g), ha12.ex s12.gh, us9.set a w1, _, _, sB, dt9.up (s10.g.trans (s11.g.trans s12.g)), (hbA.step s12).other (fun e => ne e.symm), ?_, ?_, rfl⟩
      · rw [nxt, ← List.append_assoc]
        exact duA.up s12.g
      · have em : ((arrsTo W C i ++ (arr1 W t way).take j) ++ [(a, b)]).map (·.2) = (arrsTo W C i ++ (arr1 W t way).take j).map (·.2) ++ [b] := by
          rw [List.map_append]
          rfl
        rw [nxt, ← List.append_assoc, em]
        have ec : (cntL (2 * W.length) ((arrsTo W C i ++ (arr1 W t way).take j).map (·.2))).getD b 0 = (((arrsTo W C i ++ (arr1 W t way).take j).map (·.2)).count b : Nat) := by
          rw [List.getD_eq_getElem?_getD, cntL_get lj.2] <;> rfl
        rw [cntL_snoc lj.2, ← iv_set, ec]
        exact ha12.put
    · rintro σ' G9 H9 g9 gh9 ⟨us9, l13, l14, s9, dt9, hb9, du9, ha9, rfl⟩
      rw [List.length_map, List.take_length, ← e] at du9 ha9
      exact ⟨G9, s58.g.trans g9, gh9, us9, _, _, _, _, _, _, l13, l14, s9, dt9, hb9, du9, ha9, rfl⟩
  · rintro σ' G4 H4 g4 gh4 ⟨us4, l7, l8, l9, l10, l11, l12, l13, l14, s4, dt5, hb5, du5, ha5, rfl⟩
    rw [arrsTo_all hC.1] at du5 ha5
    rw [← ahead_below _ _ (fun p hp => (arrs_lt ok p hp).1)] at ha5
    have inb := belowW_in (C := C) ok
    have bl : (belowW W C).length = 2 * W.length := belowW_len
    have l1000 := belowW_small ok hC.1
    have full := orderW_full ok hC
    have du6 : DxA G4 us4 ((belowW W C).map nD) := du5
    have ha6 : Hold G4 H4 pa (iv (aheadK (belowW W C))) := ha5
    clear du5 ha5
    generalize belowW W C = Bw at inb bl l1000 full du6 ha6
    have la : (aheadK Bw).length = Bw.length := by rw [aheadK_cnt, cntL_len]
    have lus : us4.length = Bw.length := by
      have := du6.length
      rw [List.length_map] at this
      exact this
    refine s_set (lc_mut (n := 2 * W.length) (M := upd Z pa (.lst (iv (aheadK Bw)))) (fun b => decide ((aheadK Bw).getD b 0 = 0)) (fun b => .int (b : Int)) (src_range1 ((m2 rfl).monoM fun _ _ z => nomatch z) (by omega)) (by omega) (fun b G5 z hb e5 hz => ⟨_, tg_name, rfl, gt_test ((gd_eq (gd_ixH rfl upd_same (gd_var rfl hz) (by omega)) gd_int rfl rfl).is ?_), fun _ => gd_var rfl hz⟩) H4 ha6.one gh4 _ fun po os G5 H5 s5 no go ho du => ?_)
    · rw [eqv_int]
      congr 1
    rw [kept1_nats] at du
    have hus := nv_of du
    subst hus
    rw [← bl] at ho
    have ha7 := ha6.step s5
    have hb7 := hb5.step s5
    have ho7 : Hold G5 H5 po (nv (initK Bw).2) := ⟨go, ho⟩
    have nep : po ≠ pa := fun e => by
      rw [e, ha6.h] at no
      cases no
    have neb : po ≠ pb := fun e => by
      rw [e, hb5.h] at no
      cases no
    have no' : H po = none := fresh_of s4.h no
    have s45 := s4.trans s5
    refine s_for (n := 2 * W.length) (M := Z) (fun t σ G' H' => ∃ l4 l16, Stp G H G' H' ∧ Hold G' H' pb us4 ∧ DxA G' us4 (Bw.map nD) ∧ Hold G' H' pa (iv (runK Bw t).1) ∧ Hold G' H' po (nv (runK Bw t).2) ∧
      σ = [some v, some u, some (.int W.length), some tt, l4, some (.ref pb), some (.ref pa), l7, l8, l9, l10, l11, l12, l13, l14, some (.ref po), l16]) exZ s5.gh (src_range1 (m2 rfl) (by omega)) (fun G6 H6 s6 => ⟨none, none, s45.trans s6, hb7.step s6, du6.up (s5.trans s6).g, ha7.step s6, ho7.step s6, rfl⟩) ?_ ?_
    · rintro t σ' G6 H6 tv G7 H7 ht g6 gh6 ⟨l4, l16, s6, hb8, du8, ha8, ho8, rfl⟩ s7 htv
      have s67 := s6.trans s7
      obtain ⟨U, I⟩ := runK_inv inb t
      have lo := orderK_le inb t
      have et := runK_succ Bw t
      unfold turnK at et
      refine s_ifE (M := upd Z po (.lst (nv (runK Bw t).2))) (b := decide (t < (runK Bw t).2.length)) (ho8.step s7).one s7.gh (gt_test ((gd_B0 (gd_var rfl htv) (gd_lenH rfl upd_same)).is ?_)) (fun hb G8 H8 s8 => ?_) (fun hb G8 H8 s8 => ?_)
      · rw [nv_len]
        congr 1
        exact Bool.eq_iff_iff.mpr (by rw [decide_eq_true_iff, decide_eq_true_iff]; omega)
      · have lt := of_decide_eq_true hb
        have hv1 : (runK Bw t).2.getD t 0 < Bw.length := I.lt _ (getD_mem lt)
        have s78 := s7.trans s8
        have ho9 := ho8.step s78
        have hb9 := hb8.step s78
        have du9 := du8.up s78.g
        have small := l1000 _ (getD_mem (z := []) hv1)
        have M2 : Ex (upd (upd Z po (.lst (nv (runK Bw t).2))) pb (.lst us4)) H8 := hb9.more ho9.one
        have rd : Gd (tOp (rIx2 K) (tVar 15) (tVar 16)) [some v, some u, some (.int W.length), some tt, l4, some (.ref pb), some (.ref pa), l7, l8, l9, l10, l11, l12, l13, l14, some (.ref po), some tv] (upd (upd Z po (.lst (nv (runK Bw t).2))) pb (.lst us4)) G8 (.int ((runK Bw t).2.getD t 0 : Nat)) := gd_ixHn rfl ((upd_ne neb).trans upd_same) (gd_var rfl (htv.up s8.g)) lt
        rw [if_pos lt] at et
        unfold procK at et
        generalize hrow : Bw.getD ((runK Bw t).2.getD t 0) [] = row at et small
        have atB : (Bw.map nD)[(runK Bw t).2.getD t 0]? = some (nD row) := by
          rw [List.getElem?_map, getD_get (z := []) hv1, hrow]
          rfl
        have inr : ∀ c ∈ row, c < Bw.length := fun c hc => by
          rw [← hrow] at hc
          exact inb _ _ hc
        refine s_forE (M := upd (upd Z po (.lst (nv (runK Bw t).2))) pb (.lst us4)) (fun j σ G' H' => ∃ l4, Stp G H G' H' ∧ Hold G' H' pb us4 ∧ DxA G' us4 (Bw.map nD) ∧ Hold G' H' pa (iv ((row.take j).foldl stepK (runK Bw t)).1) ∧ Hold G' H' po (nv ((row.take j).foldl stepK (runK Bw t)).2) ∧
          σ = [some v, some u, some (.int W.length), some tt, l4, some (.ref pb), some (.ref pa), l7, l8, l9, l10, l11, l12, l13, l14, some (.ref po), some tv]) M2 s8.gh (src_list (gd_ixU rfl upd_same du9 atB rd)) (fun G9 H9 s9 => ⟨_, (s67.trans s8).trans s9, hb9.step s9, du9.up s9.g, (ha8.step s78).step s9, ho9.step s9, rfl⟩) ?_ ?_
        · rintro j σ' G9 H9 zv G10 H10 hj g9 gh9 ⟨l4', s9, hb10, du10, ha10, ho10, rfl⟩ s10 hz
          rw [List.length_map] at hj
          rw [getD_map (z := 0) hj] at hz
          cases hz
          obtain ⟨k1, k2⟩ := foldK_len (row.take j) (runK Bw t)
          have e := foldK_next (st := runK Bw t) hj
          generalize ((row.take j).foldl stepK (runK Bw t)) = st at ha10 ho10 k1 k2 e
          have hp : row.getD j 0 < Bw.length := inr _ (getD_mem hj)
          rw [List.length_take] at k2
          generalize row.getD j 0 = c at hp e
          have ha11 := ha10.step s10
          have lst : c < st.1.length := by
            rw [k1, I.len]
            exact hp
          refine s_sub (M := upd Z pa (.lst (iv st.1))) ha11.one s10.gh ha11 rfl rfl (by rw [iv_len]; exact lst) (gd_I0 (gd_ixH rfl upd_same (gd_var rfl (.int (c : Int))) lst) gd_int) fun w1 G11 H11 s11 ha12 dw => ?_
          cases dw
          rw [iv_set]
          have s911 := (s9.trans s10).trans s11
          have s1011 := s10.trans s11
          have ha13 : Hold G11 (upd H11 pa (.lst (iv (st.1.set c (st.1.getD c 0 - 1))))) pa _ := ha12.put
          have ho13 := (ho10.step s1011).other (o := .lst (iv (st.1.set c (st.1.getD c 0 - 1)))) nep
          have hb13 := (hb10.step s1011).other (o := .lst (iv (st.1.set c (st.1.getD c 0 - 1)))) (fun e => ne e.symm)
          have s13' := ha12.stp (o := .lst (iv (st.1.set c (st.1.getD c 0 - 1)))) s911 na0
          have gh13 := ha12.ex (o := .lst (iv (st.1.set c (st.1.getD c 0 - 1)))) s11.gh
          have set8 : (st.1.set c (st.1.getD c 0 - 1)).getD c 0 = st.1.getD c 0 - 1 := by
            rw [List.getD_eq_getElem?_getD, List.getElem?_set_self lst] <;> rfl
          refine s_ifE (M := upd Z pa (.lst (iv (st.1.set c (st.1.getD c 0 - 1))))) (b := decide (st.1.getD c 0 - 1 = 0)) ha13.one gh13 (gt_test ((gd_eq (gd_ixH rfl upd_same (gd_var rfl (.int (c : Int))) (by rw [List.length_set]; exact lst)) gd_int rfl rfl).is ?_)) (fun hb G14 H14 s14 => ?_) (fun hb G14 H14 s14 => ?_)
          · rw [set8, eqv_int]
            congr 1
          · have hb' : st.1.getD c 0 - 1 = 0 := of_decide_eq_true hb
            refine s_appE (M := Z) exZ s14.gh (ho13.step s14) rfl (by rw [nv_len]; omega) (gd_var rfl (.int (c : Int))) fun w2 G15 H15 s15 ho15 hw2 => ?_
            cases hw2
            have s1315 := s14.trans s15
            refine ⟨G15, s1011.g.trans s1315.g, ho15.ex s15.gh, _, ho15.stp (s13'.trans s1315) no', (hb13.step s1315).other (fun e => neb e.symm), du10.up (s1011.g.trans s1315.g), ?_, ?_, rfl⟩
            · rw [e]
              exact (ha13.step s1315).other (fun e => nep e.symm)
            · rw [e]
              unfold stepK
              simp only
              rw [if_pos hb', nv_snoc]
              exact ho15.put
          · have hb' : ¬ st.1.getD c 0 - 1 = 0 := of_decide_eq_false hb
            refine ⟨G14, s1011.g.trans s14.g, s14.gh, _, s13'.trans s14, hb13.step s14, du10.up (s1011.g.trans s14.g), ?_, ?_, rfl⟩
            · rw [e]
              exact ha13.step s14
            · rw [e]
              unfold stepK
              simp only
              rw [if_neg hb']
              exact ho13.step s14
        · rintro σ' G9 H9 g9 gh9 ⟨l4', s9, hb10, du10, ha10, ho10, rfl⟩
          rw [List.length_map, List.take_length, ← et] at ha10 ho10
          exact ⟨G9, s78.g.trans g9, gh9, _, _, s9, hb10, du10, ha10, ho10, rfl⟩
      · rw [if_neg (of_decide_eq_false hb)] at et
        have s78 := s7.trans s8
        exact ⟨G8, s78.g, s8.gh, _, _, s67.trans s8, hb8.step s78, du8.up s78.g, by rw [et]; exact ha8.step s78, by rw [et]; exact ho8.step s78, rfl⟩
    · rintro σ' G6 H6 g6 gh6 ⟨l4, l16, s6, hb8, du8, ha8, ho8, rfl⟩
      rw [← bl] at ho8
      have ho9 : Hold G6 H6 po (nv (orderK Bw)) := ho8
      refine s_ret (M := upd Z po (.lst (nv (orderK Bw)))) ho9.one gh6 ((gd_eq (gd_lenH rfl upd_same) ((m2 rfl).monoM fun _ _ z => nomatch z) rfl rfl).is ?_) (q.from s6)
      rw [nv_len, eqv_ints]
      congr 1
      refine Bool.eq_iff_iff.mpr ?_
      rw [decide_eq_true_iff, standsB_iff, ← full]
      omega
end
end Sg

/-! the law's pieces: its tables, what it counts -/
namespace Sg
open PySem PySem.Spec PyProof.Rows L2
open Evl (Ex)
theorem hu_of {k : Nat} {A : Around} (r : Room k A) : A.units + 1 < cLine := by
  have := r.un
  omega
/-! ### tables of places -/
abbrev Col := List (Nat × Int)
def colG (c : Col) (y : Nat) : Option Int := (c.find? fun e => decide (e.1 = y)).map (·.2)
def keysC (c : Col) : List Nat := c.map (·.1)
def cvs (c : Col) : List (Key × V) := c.map fun e => (.inl (e.1 : Int), .int e.2)
theorem colG_none : ∀ {c : Col} {y : Nat}, y ∉ keysC c → colG c y = none
  | [], _, _ => rfl
  | e :: c, y, h => by
    have h1 : e.1 ≠ y := fun q => h (List.mem_map.mpr ⟨e, List.mem_cons_self, q⟩)
    have h2 := colG_none (c := c) (y := y) fun q => h (by
      obtain ⟨z, hz, q⟩ := List.mem_map.mp q
      exact List.mem_map.mpr ⟨z, List.mem_cons_of_mem _ hz, q⟩)
    unfold colG at h2 ⊢
    rw [List.find?_cons, decide_eq_false h1]
    exact h2
theorem colG_some : ∀ {c : Col} {y : Nat}, y ∈ keysC c → ∃ z, colG c y = some z ∧ (y, z) ∈ c
  | [], y, h => by cases h
  | e :: c, y, h => by
    by_cases h1 : e.1 = y
    · refine ⟨e.2, ?_, ?_⟩
      · unfold colG
        rw [List.find?_cons, decide_eq_true h1]
        rfl
      · rw [← h1]
        exact List.mem_cons_self
    · have hm : y ∈ keysC c := by
        obtain ⟨z, hz, q⟩ := List.mem_map.mp h
        rcases List.mem_cons.mp hz with rfl | hz
        · exact absurd q h1
        · exact List.mem_map.mpr ⟨z, hz, q⟩
      obtain ⟨z, h2, h3⟩ := colG_some hm
      refine ⟨z, ?_, List.mem_cons_of_mem _ h3⟩
      unfold colG at h2 ⊢
      rw [List.find?_cons, decide_eq_false h1]
      exact h2
theorem colG_snoc {c : Col} {y : Nat} {z : Int} (h : y ∉ keysC c) (x : Nat) : colG (c ++ [(y, z)]) x = if x = y then some z else colG c x := by
  unfold colG
  rw [List.find?_append]
  by_cases e : x = y
  · subst e
    have := colG_none h
    unfold colG at this
    rw [Option.map_eq_none_iff] at this
    rw [this, if_pos rfl]
    simp
  · rw [if_neg e]
    cases q : c.find? fun e => decide (e.1 = x) with
    | some w => rfl
    | none =>
      have ne : ¬ y = x := fun z => e z.symm
      simp [ne]
theorem keysC_snoc (c : Col) (y : Nat) (z : Int) : keysC (c ++ [(y, z)]) = keysC c ++ [y] := by
  unfold keysC
  rw [List.map_append]
  rfl
theorem valV_cvs : ∀ (c : Col) (y : Nat), valV (cvs c) (.inl (y : Int)) = (colG c y).map V.int
  | [], _ => rfl
  | e :: c, y => by
    have ih := valV_cvs c y
    by_cases h : e.1 = y
    · subst h
      have e1 : colG (e :: c) e.1 = some e.2 := by
        unfold colG
        rw [List.find?_cons, decide_eq_true rfl]
        rfl
      rw [e1]
      exact valV_pos (p := (Sum.inl (e.1 : Int), V.int e.2)) rfl
    · have e1 : colG (e :: c) y = colG c y := by
        unfold colG
        rw [List.find?_cons, decide_eq_false h]
      rw [e1, ← ih]
      refine valV_neg (p := (Sum.inl (e.1 : Int), V.int e.2)) fun q => h ?_
      have : (e.1 : Int) = y := Sum.inl.inj q
      omega
theorem putK_cvs {c : Col} {y : Nat} {z : Int} (h : y ∉ keysC c) : putK (cvs c) (.inl (y : Int)) (.int z) = cvs (c ++ [(y, z)]) := by
  unfold putK
  have e : ((cvs c).any fun kv => decide (kv.1 = Sum.inl (y : Int))) = false := by
    rw [valV_any, valV_cvs, colG_none h]
    rfl
  rw [if_neg (by rw [e]; decide)]
  unfold cvs
  rw [List.map_append]
  rfl
theorem cvs_len (c : Col) : (cvs c).length = c.length := List.length_map ..
section
variable {K : PySem.W.Frag} {σ : L2.St} {M G H : Hp} {te ta tb tx : TE} {D : Ends} {tz : TS}
/-- a table that may change -/
structure HoldO (G H : Hp) (p : Addr) (o : HO) : Prop where
  g : G p = none
  h : H p = some o
theorem HoldO.step {G' H' : Hp} {p : Addr} {o : HO} (h : HoldO G H p o) (s : Stp G H G' H') : HoldO G' H' p o := ⟨(s.fr p (nn h.h)).trans h.g, s.h _ _ h.h⟩
theorem HoldO.other {p q : Addr} {o u : HO} (h : HoldO G H p o) (ne : p ≠ q) : HoldO G (upd H q u) p o := ⟨h.g, (upd_ne ne).trans h.h⟩
theorem HoldO.more {p : Addr} {o : HO} (h : HoldO G H p o) (m : Ex M H) : Ex (upd M p o) H := fun a u ha => by
  by_cases e : a = p
  · subst e
    rw [upd_same] at ha
    rw [← ha]
    exact h.h
  · rw [upd_ne e] at ha
    exact m _ _ ha
theorem HoldO.one {p : Addr} {o : HO} (h : HoldO G H p o) : Ex (upd Z p o) H := h.more exZ
/-- y not in d -/
theorem gt_dnotin {i j : Nat} {p : Addr} {c : Col} {y : Nat} (hi : σ[i]? = some (some (.int y))) (hj : σ[j]? = some (some (.ref p))) (hp : M p = some (.dK (cvs c))) : Gt (tB (tDNotIn (tVar i) (tVar j))) σ M G (decide (y ∉ keysC c)) := fun H hM hG Q q => by
  refine ⟨_, hi, _, hj, p, valV (cvs c) (.inl (y : Int)), rfl, DGet.k (k := .inl (y : Int)) (hM _ _ hp), _, rfl, ?_⟩
  have e : (!(valV (cvs c) (.inl (y : Int))).isSome) = decide (y ∉ keysC c) := by
    rw [valV_cvs]
    by_cases h : y ∈ keysC c
    · obtain ⟨z, h1, _⟩ := colG_some h
      rw [h1, decide_eq_false (fun n => n h)]
      rfl
    · rw [colG_none h, decide_eq_true h]
      rfl
  rw [e]
  exact q G H (Stp.refl hG)
/-- d[y] -/
theorem gd_dget {i j : Nat} {p : Addr} {c : Col} {y : Nat} {z : Int} (hj : σ[j]? = some (some (.ref p))) (hi : σ[i]? = some (some (.int y))) (hp : M p = some (.dK (cvs c))) (hz : colG c y = some z) : Gd (tDGet (tVar j) (tVar i)) σ M G (.int z) := fun H hM hG Q q =>
  ⟨_, hj, _, hi, p, .int z, rfl, by
    have := DGet.k (H := H) (k := .inl (y : Int)) (hM _ _ hp)
    rw [valV_cvs, hz] at this
    exact this, q _ G H (Stp.refl hG) (.int z)⟩
/-- d[y] = v, a new key -/
theorem s_dput {i j : Nat} {p : Addr} {c : Col} {y : Nat} {z : Int} (hM : Ex M H) (hG : Ex G H) (hp : HoldO G H p (.dK (cvs c))) (hj : σ[j]? = some (some (.ref p))) (hi : σ[i]? = some (some (.int y))) (hn : y ∉ keysC c) (hl : c.length < 1000) (hx : Gd te σ M G (.int z))
    (k : ∀ G' H', Stp G H G' H' → HoldO G' H' p (.dK (cvs c)) → tz D σ (upd H' p (.dK (cvs (c ++ [(y, z)]))))) : tSeq (sDPut (tVar j) (tVar i) te) tz D σ H := hx H hM hG _ fun v G1 H1 s1 d1 => by
  cases d1
  have h1 := hp.step s1
  refine ⟨_, hj, _, hi, p, _, rfl, DPut.k (k := .inl (y : Int)) h1.h (szl (by rw [cvs_len]; omega)), ?_⟩
  rw [putK_cvs hn]
  exact k G1 H1 s1 h1
/-- x in (a, b) -/
theorem gt_inPair {x a b : Int} (hx : Gd tx σ M G (.int x)) (ha : Gd ta σ M G (.int a)) (hb : Gd tb σ M G (.int b)) : Gt (tTest (tOp (rIn K false) tx (tTup (tCons ta (tCons tb tNil))))) σ M G (decide (x = a ∨ x = b)) := gt_test (gd_op hx (gd_tup (ga_cons ha (ga_cons hb ga_nil)) (by simp)) fun v w G1 H hM hG h1 h2 Q q => by
  obtain ⟨p, xs, rfl, gp, dv⟩ := h2.tup_of
  obtain ⟨u, t, rfl, d1, d2⟩ := dv.two
  cases h1
  cases d1
  cases d2
  refine ⟨p, _, rfl, .inr (SqT.of (hG _ _ gp)), rfl, rfl, ?_⟩
  have e : (if false = true then !inV (.int x) [.int a, .int b] else inV (.int x) [.int a, .int b]) = decide (x = a ∨ x = b) := by
    show (([V.int a, V.int b]).any fun y => eqV y (.int x)) = _
    have e1 : ∀ c : Int, eqV (.int c) (.int x) = decide (x = c) := fun c => by
      show (c == x) = _
      exact Bool.eq_iff_iff.mpr (by rw [beq_iff_eq, decide_eq_true_iff]; exact eq_comm)
    rw [List.any_cons, List.any_cons, List.any_nil, e1, e1, Bool.or_false]
    by_cases h1 : x = a <;> by_cases h2 : x = b <;> simp [h1, h2]
  rw [e]
  exact q _ G1 H (Stp.refl hG) (.bl _))
end
/-! ### what the count says -/
def Soln (W : Web) (x : Nat → Int) : Prop := ∀ t ∈ ties W, dif W x t = 0
theorem sol_edge {W : Web} (ok : WebOk W) {x : Nat → Int} (h : Soln W x) {t : Nat × Nat} (ht : t ∈ ties W) {u v : Nat} (e : (u = t.1 ∧ v = t.2) ∨ (u = t.2 ∧ v = t.1)) : x v = sg W u v * x u := by
  have h0 := h t ht
  unfold dif at h0
  obtain ⟨_, _, ne⟩ := mem_ties.mp ht
  have sgs := ok.ent t.1 t.2
  rcases e with ⟨rfl, rfl⟩ | ⟨rfl, rfl⟩
  · rcases sgs with q | q | q
    · rw [q] at h0 ⊢
      omega
    · exact absurd q ne
    · rw [q] at h0 ⊢
      omega
  · rw [ok.sym t.2 t.1]
    omega
/-- between rounds -/
structure POut (W : Web) (i : Nat) (c : Col) (R : List Nat) : Prop where
  nd : (keysC c).Nodup
  lt : ∀ y ∈ keysC c, y < W.length
  one : ∀ e ∈ c, e.2 = 1 ∨ e.2 = -1
  done : ∀ j, j < i → j ∈ keysC c
  closed : ∀ t ∈ ties W, t.1 ∈ keysC c ↔ t.2 ∈ keysC c
  sol : ∀ x, Soln W x → ∀ y ∈ keysC c, x y ≠ 0 → ∃ r ∈ R, x r ≠ 0
/-- within the round of r: t turns done, of the next one j ties -/
structure PIn (W : Web) (c0 c : Col) (r : Nat) (here : List Nat) (right : Bool) (t j : Nat) : Prop where
  keys : keysC c = keysC c0 ++ here
  nd : (keysC c).Nodup
  lt : ∀ y ∈ keysC c, y < W.length
  one : ∀ e ∈ c, e.2 = 1 ∨ e.2 = -1
  rh : r ∈ here
  sol : ∀ x, Soln W x → ∀ h ∈ here, ∀ z, colG c h = some z → x h = z * x r
  wrong : right = false → ∀ x, Soln W x → x r = 0
  past : ∀ k u, k < t → here[k]? = some u → ∀ tt ∈ ties W, (tt.1 = u → tt.2 ∈ keysC c) ∧ (tt.2 = u → tt.1 ∈ keysC c)
  now : ∀ u, here[t]? = some u → ∀ k tt, k < j → (ties W)[k]? = some tt → (tt.1 = u → tt.2 ∈ keysC c) ∧ (tt.2 = u → tt.1 ∈ keysC c)
section
variable {W : Web} {c0 c : Col} {r i t j : Nat} {here : List Nat} {right : Bool} {R : List Nat}
theorem PIn.start (o : POut W i c0 R) (hi : r < W.length) (hr : r ∉ keysC c0) : PIn W c0 (c0 ++ [(r, 1)]) r [r] true 0 0 where
  keys := keysC_snoc _ _ _
  nd := by
    rw [keysC_snoc]
    exact List.nodup_append.mpr ⟨o.nd, List.nodup_cons.mpr ⟨(fun z => nomatch z), List.nodup_nil⟩, fun a ha b hb => by
      rw [List.mem_singleton.mp hb]
      rintro rfl
      exact hr ha⟩
  lt := fun y hy => by
    rw [keysC_snoc] at hy
    rcases List.mem_append.mp hy with h | h
    · exact o.lt y h
    · rw [List.mem_singleton.mp h]
      exact hi
  one := fun e he => by
    rcases List.mem_append.mp he with h | h
    · exact o.one e h
    · rw [List.mem_singleton.mp h]
      exact .inl rfl
  rh := List.mem_singleton.mpr rfl
  sol := fun x hx h hh z hz => by
    rw [List.mem_singleton.mp hh] at hz ⊢
    rw [colG_snoc hr, if_pos rfl] at hz
    cases hz
    omega
  wrong := fun z => nomatch z
  past := fun k u hk => absurd hk (Nat.not_lt_zero k)
  now := fun u hu k tt hk => absurd hk (Nat.not_lt_zero k)
/-- nothing happens at tie j -/
theorem PIn.skip (p : PIn W c0 c r here right t j) (h : ∀ u tt, here[t]? = some u → (ties W)[j]? = some tt → (tt.1 = u → tt.2 ∈ keysC c) ∧ (tt.2 = u → tt.1 ∈ keysC c)) : PIn W c0 c r here right t (j + 1) :=
  ⟨p.keys, p.nd, p.lt, p.one, p.rh, p.sol, p.wrong, p.past, fun u hu k tt hk ht => by
    rcases Nat.lt_succ_iff_lt_or_eq.mp hk with hk | rfl
    · exact p.now u hu k tt hk ht
    · exact h u tt hu ht⟩
/-- the next turn -/
theorem PIn.turn (p : PIn W c0 c r here right t (ties W).length) : PIn W c0 c r here right (t + 1) 0 :=
  ⟨p.keys, p.nd, p.lt, p.one, p.rh, p.sol, p.wrong, fun k u hk hu tt ht => by
    rcases Nat.lt_succ_iff_lt_or_eq.mp hk with hk | rfl
    · exact p.past k u hk hu tt ht
    · obtain ⟨m, hm, e⟩ := List.getElem_of_mem ht
      exact p.now u hu m tt hm (by rw [List.getElem?_eq_getElem hm, e]), fun u hu k tt hk => absurd hk (Nat.not_lt_zero k)⟩
theorem PIn.idle (p : PIn W c0 c r here right t 0) (h : here.length ≤ t) : PIn W c0 c r here right (t + 1) 0 :=
  ⟨p.keys, p.nd, p.lt, p.one, p.rh, p.sol, p.wrong, fun k u hk hu tt ht => (Nat.lt_succ_iff_lt_or_eq.mp hk).elim (fun hk => p.past k u hk hu tt ht) fun e => by
    rw [e, List.getElem?_eq_none h] at hu
    exact (nomatch hu), fun u hu k tt hk => absurd hk (Nat.not_lt_zero k)⟩
/-- the other end of a tie at a place of this round is in no earlier one -/
theorem PIn.apart (o : POut W i c0 R) (p : PIn W c0 c r here right t j) {u v : Nat} {tt : Nat × Nat} (hu : u ∈ here) (ht : tt ∈ ties W) (e : (u = tt.1 ∧ v = tt.2) ∨ (u = tt.2 ∧ v = tt.1)) : v ∉ keysC c0 := by
  have nu : u ∉ keysC c0 := fun h => by
    have nd := p.nd
    rw [p.keys] at nd
    exact (List.nodup_append.mp nd).2.2 u h u hu rfl
  rcases e with ⟨rfl, rfl⟩ | ⟨rfl, rfl⟩
  · exact fun h => nu ((o.closed tt ht).mpr h)
  · exact fun h => nu ((o.closed tt ht).mp h)
/-- a new place -/
theorem PIn.add (ok : WebOk W) (p : PIn W c0 c r here right t j) {u v : Nat} {tt : Nat × Nat} (ht : here[t]? = some u) (hj : (ties W)[j]? = some tt) (e : (u = tt.1 ∧ v = tt.2) ∨ (u = tt.2 ∧ v = tt.1)) {z : Int} (hz : colG c u = some z) (hv : v ∉ keysC c) :
    PIn W c0 (c ++ [(v, z * sg W u v)]) r (here ++ [v]) right t (j + 1) := by
  have hm := List.mem_of_getElem? hj
  obtain ⟨h1, h2, h3⟩ := mem_ties.mp hm
  have hu : u ∈ here := List.mem_of_getElem? ht
  have lt : t < here.length := (List.getElem?_eq_some_iff.mp ht).1
  have kk : keysC (c ++ [(v, z * sg W u v)]) = keysC c ++ [v] := keysC_snoc _ _ _
  have sub : ∀ y, y ∈ keysC c → y ∈ keysC (c ++ [(v, z * sg W u v)]) := fun y hy => by
    rw [kk]
    exact List.mem_append_left _ hy
  have vin : v ∈ keysC (c ++ [(v, z * sg W u v)]) := by
    rw [kk]
    exact List.mem_append_right _ (List.mem_singleton.mpr rfl)
  have z1 : z = 1 ∨ z = -1 := by
    by_cases hk : u ∈ keysC c
    · obtain ⟨z', q1, q2⟩ := colG_some hk
      rw [hz] at q1
      cases q1
      exact p.one _ q2
    · rw [colG_none hk] at hz
      cases hz
  have s1 : sg W u v = 1 ∨ sg W u v = -1 := by
    have q : sg W u v = sg W tt.1 tt.2 := by
      rcases e with ⟨rfl, rfl⟩ | ⟨rfl, rfl⟩
      · rfl
      · exact ok.sym _ _
    rcases ok.ent tt.1 tt.2 with h | h | h
    · exact .inr (q.trans h)
    · exact absurd h h3
    · exact .inl (q.trans h)
  refine ⟨by rw [kk, p.keys, List.append_assoc], ?_, fun y hy => ?_, fun x hx => ?_, List.mem_append_left _ p.rh, fun x hx h hh w hw => ?_, p.wrong, fun k u' hk hu' tt' ht' => ?_, fun u' hu' k tt' hk ht' => ?_⟩
  · rw [kk]
    exact List.nodup_append.mpr ⟨p.nd, List.nodup_cons.mpr ⟨(fun z => nomatch z), List.nodup_nil⟩, fun a ha b hb => by
      rw [List.mem_singleton.mp hb]
      rintro rfl
      exact hv ha⟩
  · rw [kk] at hy
    rcases List.mem_append.mp hy with h | h
    · exact p.lt y h
    · rw [List.mem_singleton.mp h]
      rcases e with ⟨rfl, rfl⟩ | ⟨rfl, rfl⟩ <;> omega
  · rcases List.mem_append.mp hx with h | h
    · exact p.one x h
    · rw [List.mem_singleton.mp h]
      show z * sg W u v = 1 ∨ z * sg W u v = -1
      rcases z1 with h | h <;> rcases s1 with h' | h' <;> rw [h, h'] <;> decide
  · rw [colG_snoc hv] at hw
    rcases List.mem_append.mp hh with hh | hh
    · have ne : h ≠ v := fun q => hv (by
        rw [← q, p.keys]
        exact List.mem_append_right _ hh)
      rw [if_neg ne] at hw
      exact p.sol x hx h hh w hw
    · rw [List.mem_singleton.mp hh] at hw ⊢
      rw [if_pos rfl] at hw
      cases hw
      rw [sol_edge ok hx hm e, p.sol x hx u hu z hz, ← Int.mul_assoc, Int.mul_comm (sg W u v) z]
  · have hu2 : here[k]? = some u' := by
      rw [← hu', List.getElem?_append_left (by omega)]
    obtain ⟨q1, q2⟩ := p.past k u' hk hu2 tt' ht'
    exact ⟨fun h => sub _ (q1 h), fun h => sub _ (q2 h)⟩
  · have hu2 : u' = u := by
      rw [List.getElem?_append_left lt, ht] at hu'
      exact (Option.some.inj hu').symm
    subst hu2
    rcases Nat.lt_succ_iff_lt_or_eq.mp hk with hk | rfl
    · obtain ⟨q1, q2⟩ := p.now u' ht k tt' hk ht'
      exact ⟨fun h => sub _ (q1 h), fun h => sub _ (q2 h)⟩
    · rw [hj] at ht'
      cases ht'
      have ne : tt.1 ≠ tt.2 := by omega
      rcases e with ⟨e1, e2⟩ | ⟨e1, e2⟩
      · exact ⟨fun _ => by rw [← e2]; exact vin, fun h => absurd (e1.symm.trans h.symm) ne⟩
      · exact ⟨fun h => absurd (h.trans e1) ne, fun _ => by rw [← e2]; exact vin⟩
/-- a place met again, the wrong way or not -/
theorem PIn.again (ok : WebOk W) (o : POut W i c0 R) (p : PIn W c0 c r here right t j) {u v : Nat} {tt : Nat × Nat} (ht : here[t]? = some u) (hj : (ties W)[j]? = some tt) (e : (u = tt.1 ∧ v = tt.2) ∨ (u = tt.2 ∧ v = tt.1)) {z w : Int} (hz : colG c u = some z) (hw : colG c v = some w) (hv : v ∈ keysC c) :
    PIn W c0 c r here (right && decide (w = z * sg W u v)) t (j + 1) := by
  have hm := List.mem_of_getElem? hj
  obtain ⟨h1, h2, h3⟩ := mem_ties.mp hm
  have hu : u ∈ here := List.mem_of_getElem? ht
  have nv := p.apart o hu hm e
  have vh : v ∈ here := by
    rw [p.keys] at hv
    exact (List.mem_append.mp hv).resolve_left nv
  have uk : u ∈ keysC c := by
    rw [p.keys]
    exact List.mem_append_right _ hu
  have sk := p.skip fun u' tt' hu' ht' => by
    rw [ht] at hu'
    rw [hj] at ht'
    cases hu'
    cases ht'
    have ne : tt.1 ≠ tt.2 := by omega
    rcases e with ⟨e1, e2⟩ | ⟨e1, e2⟩
    · exact ⟨fun _ => by rw [← e2]; exact hv, fun h => absurd (e1.symm.trans h.symm) ne⟩
    · exact ⟨fun h => absurd (h.trans e1) ne, fun _ => by rw [← e2]; exact hv⟩
  refine ⟨sk.keys, sk.nd, sk.lt, sk.one, sk.rh, sk.sol, fun hb x hx => ?_, sk.past, sk.now⟩
  cases hr : right with
  | false => exact p.wrong hr x hx
  | true =>
    rw [hr, Bool.true_and] at hb
    have ne := of_decide_eq_false hb
    have q1 := sol_edge ok hx hm e
    have q2 := p.sol x hx u hu z hz
    have q3 := p.sol x hx v vh w hw
    rw [q1, q2, ← Int.mul_assoc, Int.mul_comm (sg W u v) z] at q3
    by_cases x0 : x r = 0
    · exact x0
    · exact absurd (Int.eq_of_mul_eq_mul_right x0 q3).symm ne
/-- the end of a round -/
theorem PIn.close (o : POut W r c0 R) (p : PIn W c0 c r here right t 0) (h : here.length ≤ t) : POut W (r + 1) c (if right = true then R ++ [r] else R) where
  nd := p.nd
  lt := p.lt
  one := p.one
  done := fun k hk => by
    rw [p.keys]
    rcases Nat.lt_succ_iff_lt_or_eq.mp hk with hk | rfl
    · exact List.mem_append_left _ (o.done k hk)
    · exact List.mem_append_right _ p.rh
  closed := fun tt ht => by
    have go : ∀ u, u ∈ here → (tt.1 = u → tt.2 ∈ keysC c) ∧ (tt.2 = u → tt.1 ∈ keysC c) := fun u hu => by
      obtain ⟨k, hk, e⟩ := List.getElem_of_mem hu
      exact p.past k u (by omega) (by rw [List.getElem?_eq_getElem hk, e]) tt ht
    have sub : ∀ y, y ∈ keysC c0 → y ∈ keysC c := fun y hy => by
      rw [p.keys]
      exact List.mem_append_left _ hy
    constructor
    · intro q
      rw [p.keys] at q
      rcases List.mem_append.mp q with q | q
      · exact sub _ ((o.closed tt ht).mp q)
      · exact (go _ q).1 rfl
    · intro q
      rw [p.keys] at q
      rcases List.mem_append.mp q with q | q
      · exact sub _ ((o.closed tt ht).mpr q)
      · exact (go _ q).2 rfl
  sol := fun x hx y hy ne => by
    have q := hy
    rw [p.keys] at q
    rcases List.mem_append.mp q with q | q
    · obtain ⟨r', h1, h2⟩ := o.sol x hx y q ne
      refine ⟨r', ?_, h2⟩
      split
      · exact List.mem_append_left _ h1
      · exact h1
    · obtain ⟨z, hz, _⟩ := colG_some hy
      have e := p.sol x hx y q z hz
      have xr : x r ≠ 0 := fun h0 => ne (by rw [e, h0, Int.mul_zero])
      cases hr : right with
      | false => exact absurd (p.wrong hr x hx) xr
      | true => exact ⟨r, by rw [if_pos rfl]; exact List.mem_append_right _ (List.mem_singleton.mpr rfl), xr⟩
theorem POut.skip (o : POut W r c0 R) (h : r ∈ keysC c0) : POut W (r + 1) c0 R := ⟨o.nd, o.lt, o.one, fun k hk => by
  rcases Nat.lt_succ_iff_lt_or_eq.mp hk with hk | rfl
  · exact o.done k hk
  · exact h, o.closed, o.sol⟩
theorem POut.zero : POut W 0 [] [] := ⟨List.nodup_nil, (fun y hy => nomatch hy), (fun e he => nomatch he), fun j hj => absurd hj (Nat.not_lt_zero j), fun t _ => ⟨(fun h => nomatch h), (fun h => nomatch h)⟩, (fun x _ y hy => nomatch hy)⟩
theorem POut.pieces (o : POut W W.length c R) : PiecesB W R.length := ⟨R, rfl, fun x hx v hv ne => o.sol x hx v (o.done v hv) ne⟩
theorem PIn.few (p : PIn W c0 c r here right t j) : c.length ≤ W.length ∧ here.length ≤ W.length := by
  have h := nodup_le p.nd (m := List.range W.length) fun y hy => List.mem_range.mpr (p.lt y hy)
  rw [List.length_range] at h
  have h2 := h
  rw [p.keys, List.length_append] at h2
  unfold keysC at h
  rw [List.length_map] at h
  exact ⟨h, by omega⟩
end
/-- a promise of one of several results -/
def Sda (pre : List PyData → Prop) (P : List PyData → PyData → Prop) : Sp := fun vs H Q _ => ∃ G ds, Ex G H ∧ DxA G vs ds ∧ pre ds ∧ ∀ d, P ds d → Ret G H d Q
theorem Sda.len {pre : List PyData → Prop} {P : List PyData → PyData → Prop} {n : Nat} (h : ∀ ds, pre ds → ds.length = n) : ∀ vs H Q E, Sda pre P vs H Q E → vs.length = n := fun vs H Q E ⟨G, ds, _, hv, hp, _⟩ => hv.length.trans (h ds hp)
def QPieces (ds : List PyData) : Prop := ∃ W, WebOk W ∧ ds = [webD W, tieL (ties W)]
def PPieces (ds : List PyData) (d : PyData) : Prop := ∃ (W : Web) (n b : Nat), ds = [webD W, tieL (ties W)] ∧ d = .list [.int n, .int b] ∧ PiecesB W b
theorem map_rowD_inj : ∀ {l m : List (List Int)}, l.map rowD = m.map rowD → l = m
  | [], [], _ => rfl
  | [], b :: m, h => by cases h
  | a :: l, [], h => by cases h
  | a :: l, b :: m, h => by
    rw [List.map_cons, List.map_cons] at h
    injection h with h1 h2
    have e : a = b := by
      have q := eqv_ch a b
      have q2 : PyData.eqv (chD b) (chD b) = decide (b = b) := eqv_ch b b
      unfold rowD at h1
      unfold chD at q q2
      rw [h1, q2, decide_eq_true rfl] at q
      exact of_decide_eq_true q.symm
    rw [e, map_rowD_inj h2]
theorem webD_inj {W W' : Web} (h : webD W = webD W') : W = W' := by
  unfold webD at h
  injection h with h
  exact map_rowD_inj h
section
variable {P : Program} {w : World} {K : PySem.W.Frag} {mg : Str → Option Value} {base : Heap} {f : Addr} {fd : FuncData}
theorem scLawPieces : FnScope ["_law_web_here", "_law_signs", "_law_colours", "_law_found", "_law_balanced", "_law_first", "_law_right", "_law_here", "_law_turn", "_law_x", "_law_a", "_law_b", "_law_y"] ["_law_web_here", "_law_signs"] (defScope sLawPieces) := ⟨rfl, rfl, rfl, by decide +kernel, rfl, by decide +kernel, by decide +kernel⟩
theorem ok_law_pieces (D : Df K mg "_law_pieces" sLawPieces ["_law_web_here", "_law_signs"] f fd) (B : Bi mg) : FnOk P w K mg base CX0 1 f fd ["_law_web_here", "_law_signs"] (Sda QPieces PPieces) := by
  refine D.F.ok scLawPieces (Sda.len (n := 2) fun ds ⟨_, _, e⟩ => by rw [e]; rfl) (fun cdv A outer s H vs Q E hr h => ?_)
  obtain ⟨G, ds, hG, hv, ⟨W, ok, rfl⟩, q⟩ := h
  obtain ⟨v, u, rfl, hw, hs⟩ := hv.two
  have hu := hu_of hr
  refine ⟨_, PSs.nox (pss_cons (ps_par3 (i := 2) (j := 3) (l := 4) rfl scLawPieces.nd rfl rfl rfl (by decide) (by decide) (by decide) rfl rfl rfl (pa_cons pe_dnewK (pa_cons pe_int (pa_cons pe_int pa_nil))) (by rfl)) (pss_cons (ps_for PassesOwn.never rfl (pi_range1 (by rfl) B.range (pa_cons (pe_callB (call_lenK (K := K) rfl) (by rfl) B.len bb_len (pa_cons (pv 0) pa_nil)) pa_nil)) (pg_name (i := 5) scLawPieces.nd rfl (.inl rfl)) (pss_one (ps_if (pt_cmp (pc_dnotin hu (pv 5) (pv 2))) (pss_cons (ps_dput hu (pv 2) (pv 5) pe_int rfl) (pss_cons (ps_par3 (i := 3) (j := 6) (l := 7) rfl scLawPieces.nd rfl rfl rfl (by decide) (by decide) (by decide) rfl rfl rfl (pa_cons (pe_op (op_plusK (K := K) rfl) (pv 3) pe_int) (pa_cons pe_bl (pa_cons (pe_lst (pa_cons (pv 5) pa_nil)) pa_nil))) (by rfl)) (pss_cons (ps_for PassesOwn.never rfl (pi_range1 (by rfl) B.range (pa_cons (pe_callB (call_lenK (K := K) rfl) (by rfl) B.len bb_len (pa_cons (pv 0) pa_nil)) pa_nil)) (pg_name (i := 8) scLawPieces.nd rfl (.inl rfl)) (pss_one (ps_if (pt_cmpR op_lt (pv 8) (pe_callB (call_lenK (K := K) rfl) (by rfl) B.len bb_len (pa_cons (pv 7) pa_nil)) (nomark _)) (pss_cons (ps_set (i := 9) scLawPieces.nd rfl (.inl rfl) (pe_ix (ix_twoK (K := K) rfl) (pv 7) (pv 8) (fun _ _ => rfl))) (pss_one (ps_for PassesOwn.never rfl (pi_lstK (K := K) rfl (pv 1)) (pg_tupK (K := K) (n := 2) rfl rfl (pgs_cons (pg_name (i := 10) scLawPieces.nd rfl (.inl rfl)) (pgs_cons (pg_name (i := 11) scLawPieces.nd rfl (.inl rfl)) pgs_nil))) (pss_cons (ps_set (i := 12) scLawPieces.nd rfl (.inl rfl) (pe_ifExp (pt_cmpR (op_eqDK (K := K) rfl hr.units) (pv 10) (pv 9) (nomark _)) (pv 11) (pv 10))) (pss_one (ps_if (PW.pt (pw_and (pt_cmpR (op_inK (K := K) rfl) (pv 9) (pe_tup (pa_cons (pv 10) (pa_cons (pv 11) pa_nil))) rfl) (pw_and1 (pt_cmp (pc_dnotin hu (pv 12) (pv 2)))))) (pss_cons (ps_dput hu (pv 2) (pv 12) (pe_op op_times (pe_dget hu (pv 2) (pv 9) (fun _ _ => rfl)) (pe_ix (ix_twoK (K := K) rfl) (pe_ix (ix_twoK (K := K) rfl) (pv 0) (pv 9) (fun _ _ => rfl)) (pv 12) (fun _ _ => rfl))) rfl) (pss_one (ps_expr (pe_bm PySem.F.plainAttrs_list PySem.F.slot_list_append PySem.F.type_list_append mt_append (pv 7) (pa_cons (pv 12) pa_nil))))) (pss_one (ps_if (PW.pt (pw_and (pt_cmpR (op_inK (K := K) rfl) (pv 9) (pe_tup (pa_cons (pv 10) (pa_cons (pv 11) pa_nil))) rfl) (pw_and1 (pt_cmpR (op_neDK (K := K) rfl hr.units) (pe_dget hu (pv 2) (pv 12) (fun _ _ => rfl)) (pe_op op_times (pe_dget hu (pv 2) (pv 9) (fun _ _ => rfl)) (pe_ix (ix_twoK (K := K) rfl) (pe_ix (ix_twoK (K := K) rfl) (pv 0) (pv 9) (fun _ _ => rfl)) (pv 12) (fun _ _ => rfl))) (nomark _))))) (pss_one (ps_set (i := 6) scLawPieces.nd rfl (.inl rfl) pe_bl)) pss_nil)))))))) pss_nil))) (pss_one (ps_set (i := 4) scLawPieces.nd rfl (.inl rfl) (pe_op (op_plusK (K := K) rfl) (pv 4) (pe_callTy call_int1 (by rfl) B.int bb_int (pa_cons (pv 6) pa_nil)))))))) pss_nil))) (pss_one (ps_ret (pe_lst (pa_cons (pv 3) (pa_cons (pv 4) pa_nil))))))), ?_⟩
  have le := ok.le
  have tl := ties_len ok
  have wl : ((W.map rowD).length : Int) = W.length := by rw [List.length_map]
  refine fun pc np => ⟨_, _, _, rfl, ?_⟩
  have s1 : Stp G H G (upd H pc (.dK [])) := (Stp.refl hG).new np
  refine s_for (n := W.length) (M := Z) (fun i σ G' H' => ∃ (col : Col) (R : List Nat) (fnd : Nat) (l5 l6 l7 l8 l9 l10 l11 l12 : Option V), POut W i col R ∧ Stp G H G' H' ∧ HoldO G' H' pc (.dK (cvs col)) ∧ σ = [some v, some u, some (.ref pc), some (.int fnd), some (.int R.length), l5, l6, l7, l8, l9, l10, l11, l12]) exZ s1.gh (src_range1 ((gd_lenT (gd_var rfl hw)).is (by rw [wl])) (by omega))
    (fun G2 H2 s2 => ⟨[], [], 0, none, none, none, none, none, none, none, none, POut.zero, s1.trans s2, HoldO.step ⟨fresh_of hG np, upd_same⟩ s2, rfl⟩) ?_ ?_
  · rintro r σ' G2 H2 fv G3 H3 hi g2 gh2 ⟨col, R, fnd, l5, l6, l7, l8, l9, l10, l11, l12, po, s2, hc2, rfl⟩ s3 hf
    cases hf
    have hc3 := hc2.step s3
    have s23 := s2.trans s3
    refine s_ifE (M := upd Z pc (.dK (cvs col))) (b := decide (r ∉ keysC col)) hc3.one s3.gh (gt_dnotin rfl rfl upd_same) (fun hb G4 H4 s4 => ?_) (fun hb G4 H4 s4 => ?_)
    · have nk := of_decide_eq_true hb
      have hc4 := hc3.step s4
      have s24 := s23.trans s4
      have p0 := PIn.start po hi nk
      have fw := p0.few
      refine s_dput (M := Z) exZ s4.gh hc4 rfl rfl nk (by have := fw.1; rw [List.length_append, List.length_singleton] at this; omega) gd_int fun G5 H5 s5 hc5 => ?_
      have s5' : Stp G H G5 (upd H5 pc (.dK (cvs (col ++ [(r, 1)])))) := (s24.trans s5).mut np hc5.g
      have hc6 : HoldO G5 (upd H5 pc (.dK (cvs (col ++ [(r, 1)])))) pc (.dK (cvs (col ++ [(r, 1)]))) := ⟨hc5.g, upd_same⟩
      have g35 : Ex G2 G5 := (s3.g.trans s4.g).trans s5.g
      refine ⟨_, rfl, .inl ⟨_, _, rfl, rfl, _, rfl, sz (by simp), fun ph nh => ⟨_, _, _, rfl, ?_⟩⟩⟩
      have s6 := s5'.new (o := .lst [.int (r : Int)]) nh
      have ne : pc ≠ ph := fun e => by
        rw [← e, upd_same] at nh
        cases nh
      have nh0 : H ph = none := fresh_of s5'.h nh
      have hw6 := hw.up s6.g
      have hs6 := hs.up s6.g
      have hh6 : Hold G5 (upd (upd H5 pc (.dK (cvs (col ++ [(r, 1)])))) ph (.lst [.int (r : Int)])) ph (nv [r]) := Hold.made s5'.gh nh
      refine s_for (n := W.length) (M := Z) (fun t σ G' H' => ∃ (col2 : Col) (here : List Nat) (right : Bool) (l8 l9 l10 l11 l12 : Option V), PIn W col col2 r here right t 0 ∧ Stp G H G' H' ∧ HoldO G' H' pc (.dK (cvs col2)) ∧ Hold G' H' ph (nv here) ∧
        σ = [some v, some u, some (.ref pc), some (.int (fnd + 1)), some (.int R.length), some (.int (r : Int)), some (.bl right), some (.ref ph), l8, l9, l10, l11, l12]) exZ s6.gh (src_range1 ((gd_lenT (gd_var rfl hw6)).is (by rw [wl])) (by omega)) (fun G7 H7 s7 => ⟨_, [r], true, l8, l9, l10, l11, l12, p0, s6.trans s7, (hc6.other ne).step s7, hh6.step s7, rfl⟩) ?_ ?_
      · rintro t σ' G7 H7 tv G8 H8 ht g7 gh7 ⟨col2, here, right, l8, l9, l10, l11, l12, pi, s7, hc7, hh7, rfl⟩ s8 htv
        cases htv
        have s78 := s7.trans s8
        have hc8 := hc7.step s8
        have hh8 := hh7.step s8
        refine s_ifE (M := upd Z ph (.lst (nv here))) (b := decide (t < here.length)) hh8.one s8.gh (gt_test ((gd_B0 (gd_var rfl (.int (t : Int))) (gd_lenH rfl upd_same)).is ?_)) (fun hb G9 H9 s9 => ?_) (fun hb G9 H9 s9 => ?_)
        · rw [nv_len]
          congr 1
          exact Bool.eq_iff_iff.mpr (by rw [decide_eq_true_iff, decide_eq_true_iff]; omega)
        · have lt := of_decide_eq_true hb
          have s79 := s78.trans s9
          have hh9 := hh8.step s9
          have hc9 := hc8.step s9
          refine s_asg (M := upd Z ph (.lst (nv here))) hh9.one s9.gh (gd_ixHn rfl upd_same (gd_var rfl (.int (t : Int))) lt) fun xv G10 H10 s10 hx => ?_
          cases hx
          have s710 := s79.trans s10
          have hat : here[t]? = some (here.getD t 0) := getD_get lt
          generalize here.getD t 0 = x at hat
          refine s_forE (n := (ties W).length) (M := Z) (fun j σ G' H' => ∃ (col2 : Col) (here : List Nat) (right : Bool) (l10 l11 l12 : Option V), PIn W col col2 r here right t j ∧ here[t]? = some x ∧ Stp G H G' H' ∧ HoldO G' H' pc (.dK (cvs col2)) ∧ Hold G' H' ph (nv here) ∧
            σ = [some v, some u, some (.ref pc), some (.int (fnd + 1)), some (.int R.length), some (.int (r : Int)), some (.bl right), some (.ref ph), some (.int (t : Int)), some (.int (x : Int)), l10, l11, l12]) exZ s10.gh (src_eq (src_list (gd_var rfl (hs.up s710.g))) (List.length_map ..) fun _ _ => rfl) (fun G11 H11 s11 => ⟨col2, here, right, l10, l11, l12, pi, hat, s710.trans s11, (hc9.step s10).step s11, (hh9.step s10).step s11, rfl⟩) ?_ ?_
          · rintro j σ' G11 H11 pv G12 H12 hj g11 gh11 ⟨col3, here3, right3, l10, l11, l12, p3, hat3, s11, hc11, hh11, rfl⟩ s12 hpv
            rw [getD_map (z := (0, 0)) hj] at hpv
            have tj : (ties W)[j]? = some ((ties W).getD j (0, 0)) := getD_get hj
            generalize (ties W).getD j (0, 0) = tt at hpv tj
            have tm := List.mem_of_getElem? tj
            obtain ⟨h1, h2, h3⟩ := mem_ties.mp tm
            obtain ⟨a, b⟩ := tt
            simp only at h1 h2 h3
            obtain ⟨xa, xb, da, db, tg⟩ := tg_two (K := K) (i := 10) (j := 11) (σ1 := [some v, some u, some (.ref pc), some (.int (fnd + 1)), some (.int R.length), some (.int (r : Int)), some (.bl right3), some (.ref ph), some (.int (t : Int)), some (.int (x : Int)), l10, l11, l12]) hpv
            cases da
            cases db
            refine tg H12 _ s12.gh ?_
            have hc12 := hc11.step s12
            have hh12 := hh11.step s12
            have s1112 := s11.trans s12
            refine s_asg (M := Z) (d := .int ((if a = x then b else a : Nat) : Int)) exZ s12.gh (gd_if (b := decide (a = x)) (gt_test ((gd_eq (gd_var rfl (.int (a : Int))) (gd_var rfl (.int (x : Int))) rfl rfl).is ?_)) (fun hb => (gd_var rfl (.int (b : Int))).is (by rw [if_pos (of_decide_eq_true hb)])) (fun hb => (gd_var rfl (.int (a : Int))).is (by rw [if_neg (of_decide_eq_false hb)]))) fun yv G13 H13 s13 hy => ?_
            · rw [eqv_ints]
              congr 1
              exact Bool.eq_iff_iff.mpr (by rw [decide_eq_true_iff, decide_eq_true_iff]; omega)
            cases hy
            have hc13 := hc12.step s13
            have hh13 := hh12.step s13
            have s1113 := s1112.trans s13
            have g1113 := s12.g.trans s13.g
            have few3 := p3.few
            have inP : ∀ {M G : Hp}, Gt (tTest (tOp (rIn K false) (tVar 9) (tTup (tCons (tVar 10) (tCons (tVar 11) tNil))))) [some v, some u, some (.ref pc), some (.int (fnd + 1)), some (.int R.length), some (.int (r : Int)), some (.bl right3), some (.ref ph), some (.int (t : Int)), some (.int (x : Int)), some (.int (a : Int)), some (.int (b : Int)), some (.int ((if a = x then b else a : Nat) : Int))] M G (decide (x = a ∨ x = b)) := fun {M G} => (gt_inPair (gd_var rfl (.int (x : Int))) (gd_var rfl (.int (a : Int))) (gd_var rfl (.int (b : Int)))).is (by
              exact Bool.eq_iff_iff.mpr (by rw [decide_eq_true_iff, decide_eq_true_iff]; omega))
            by_cases hx : x = a ∨ x = b
            · have e : (x = (a, b).1 ∧ (if a = x then b else a) = (a, b).2) ∨ (x = (a, b).2 ∧ (if a = x then b else a) = (a, b).1) := by
                rcases hx with hx | hx
                · exact .inl ⟨hx, if_pos hx.symm⟩
                · exact .inr ⟨hx, if_neg (by omega)⟩
              generalize (if a = x then b else a) = y at e inP
              have xin : x ∈ here3 := List.mem_of_getElem? hat3
              have xk : x ∈ keysC col3 := by
                rw [p3.keys]
                exact List.mem_append_right _ xin
              obtain ⟨z, hz, hz2⟩ := colG_some xk
              have z1 := p3.one _ hz2
              have ylt : y < W.length := by
                rcases e with ⟨_, e⟩ | ⟨_, e⟩ <;> simp only at e <;> omega
              have xlt : x < W.length := p3.lt _ xk
              rw [decide_eq_true hx] at inP
              have prod : ∀ {G' : Hp}, Ex G11 G' → Gd (tOp rTimes (tDGet (tVar 2) (tVar 9)) (tOp (rIx2 K) (tOp (rIx2 K) (tVar 0) (tVar 9)) (tVar 12))) [some v, some u, some (.ref pc), some (.int (fnd + 1)), some (.int R.length), some (.int (r : Int)), some (.bl right3), some (.ref ph), some (.int (t : Int)), some (.int (x : Int)), some (.int (a : Int)), some (.int (b : Int)), some (.int (y : Int))] (upd Z pc (.dK (cvs col3))) G' (.int (z * sg W x y)) := fun {G'} eg =>
                gd_times (gd_dget rfl rfl upd_same hz) (gd_web ok xlt ylt (gd_var rfl (hw.up (s11.g.trans eg))) (gd_var rfl (.int _)) (gd_var rfl (.int _))) (cmul_l (by rcases z1 with h | h <;> simp only at h <;> omega) (by rcases z1 with h | h <;> simp only at h <;> omega))
              by_cases ky : y ∈ keysC col3
              · obtain ⟨w, hw', _⟩ := colG_some ky
                have pa := p3.again ok po hat3 tj e hz hw' ky
                refine s_ifE (M := upd Z pc (.dK (cvs col3))) (b := false) hc13.one s13.gh ((gt_andT inP (gt_dnotin rfl rfl upd_same)).is (decide_eq_false (fun n => n ky))) (fun z => nomatch z) (fun _ G14 H14 s14 => ?_)
                have hc14 := hc13.step s14
                have hh14 := hh13.step s14
                have s1114 := s1113.trans s14
                have g1114 := g1113.trans s14.g
                refine s_ifE (M := upd Z pc (.dK (cvs col3))) (b := decide (w ≠ z * sg W x y)) hc14.one s14.gh ((gt_andT inP (gt_test (gd_ne (gd_dget rfl rfl upd_same hw') (prod g1114) rfl rfl))).is ?_) (fun hb G15 H15 s15 => ?_) (fun hb G15 H15 s15 => ?_)
                · rw [eqv_ints]
                  by_cases h : w = z * sg W x y <;> simp [h]
                · rw [decide_eq_false (of_decide_eq_true hb), Bool.and_false] at pa
                  exact ⟨G15, g1114.trans s15.g, s15.gh, col3, here3, false, _, _, _, pa, hat3, s1114.trans s15, hc14.step s15, hh14.step s15, rfl⟩
                · rw [decide_eq_true (Decidable.byContradiction fun n => of_decide_eq_false hb n), Bool.and_true] at pa
                  exact ⟨G15, g1114.trans s15.g, s15.gh, col3, here3, right3, _, _, _, pa, hat3, s1114.trans s15, hc14.step s15, hh14.step s15, rfl⟩
              · have pa := p3.add ok hat3 tj e hz ky
                refine s_ifE (M := upd Z pc (.dK (cvs col3))) (b := true) hc13.one s13.gh ((gt_andT inP (gt_dnotin rfl rfl upd_same)).is (decide_eq_true ky)) (fun _ G14 H14 s14 => ?_) (fun z => nomatch z)
                have hc14 := hc13.step s14
                have hh14 := hh13.step s14
                have s1114 := s1113.trans s14
                have g1114 := g1113.trans s14.g
                refine s_dput (M := upd Z pc (.dK (cvs col3))) hc14.one s14.gh hc14 rfl rfl ky (by have := few3.1; omega) (prod g1114) fun G15 H15 s15 hc15 => ?_
                have hh15 := (hh14.step s15).other (o := .dK (cvs (col3 ++ [(y, z * sg W x y)]))) (fun e => ne e.symm)
                have sA : Stp G H G15 (upd H15 pc (.dK (cvs (col3 ++ [(y, z * sg W x y)])))) := (s1114.trans s15).mut np hc15.g
                have ghA : Ex G15 (upd H15 pc (.dK (cvs (col3 ++ [(y, z * sg W x y)])))) := s15.gh.mut hc15.g
                have hcA : HoldO G15 (upd H15 pc (.dK (cvs (col3 ++ [(y, z * sg W x y)])))) pc (.dK (cvs (col3 ++ [(y, z * sg W x y)]))) := ⟨hc15.g, upd_same⟩
                refine s_appE (M := Z) exZ ghA hh15 rfl (by rw [nv_len]; have := few3.2; omega) (gd_var rfl (.int (y : Int))) fun w1 G16 H16 s16 hh16 hw1 => ?_
                cases hw1
                refine ⟨G16, (g1114.trans s15.g).trans s16.g, hh16.ex s16.gh, _, here3 ++ [y], right3, _, _, _, pa, ?_, hh16.stp (sA.trans s16) nh0, (hcA.step s16).other ne, ?_, rfl⟩
                · rw [List.getElem?_append_left (List.getElem?_eq_some_iff.mp hat3).1]
                  exact hat3
                · rw [nv_snoc]
                  exact hh16.put
            · rw [decide_eq_false hx] at inP
              have sk := p3.skip fun u' tt' hu' ht' => by
                rw [hat3] at hu'
                rw [tj] at ht'
                cases hu'
                cases ht'
                exact ⟨fun h => absurd (.inl h.symm) hx, fun h => absurd (.inr h.symm) hx⟩
              refine s_ifE (M := Z) (b := false) exZ s13.gh (gt_andF inP) (fun z => nomatch z) (fun _ G14 H14 s14 => ?_)
              refine s_ifE (M := Z) (b := false) exZ s14.gh (gt_andF inP) (fun z => nomatch z) (fun _ G15 H15 s15 => ?_)
              have s1315 := s14.trans s15
              exact ⟨G15, g1113.trans s1315.g, s15.gh, col3, here3, right3, _, _, _, sk, hat3, s1113.trans s1315, hc13.step s1315, hh13.step s1315, rfl⟩
          · rintro σ' G11 H11 g11 gh11 ⟨col3, here3, right3, l10, l11, l12, p3, hat3, s11, hc11, hh11, rfl⟩
            exact ⟨G11, ((s8.g.trans s9.g).trans s10.g).trans g11, gh11, col3, here3, right3, _, _, _, _, _, p3.turn, s11, hc11, hh11, rfl⟩
        · have ge : here.length ≤ t := by
            have := of_decide_eq_false hb
            omega
          exact ⟨G9, s8.g.trans s9.g, s9.gh, col2, here, right, _, _, _, _, _, pi.idle ge, s78.trans s9, hc8.step s9, hh8.step s9, rfl⟩
      · rintro σ' G7 H7 g7 gh7 ⟨col2, here, right, l8, l9, l10, l11, l12, pi, s7, hc7, hh7, rfl⟩
        have po2 := pi.close po pi.few.2
        have eb : ((R.length : Int) + (if right = true then 1 else 0)) = ((if right = true then R ++ [r] else R).length : Nat) := by
          cases right with
          | true => rw [if_pos rfl, if_pos rfl, List.length_append, List.length_singleton]; omega
          | false => rw [if_neg (by decide), if_neg (by decide)]; omega
        refine ⟨_, rfl, _, rfl, .inr ⟨right, rfl, .inl ⟨_, _, rfl, rfl, G7, g35.trans g7, gh7, col2, _, fnd + 1, some (.int (r : Int)), some (.bl right), some (.ref ph), l8, l9, l10, l11, l12, po2, s7, hc7, ?_⟩⟩⟩
        rw [← eb]
        rfl
    · have hk : r ∈ keysC col := Decidable.byContradiction fun n => of_decide_eq_false hb n
      exact ⟨G4, s3.g.trans s4.g, s4.gh, col, R, fnd, _, _, _, _, _, _, _, _, po.skip hk, s23.trans s4, hc3.step s4, rfl⟩
  · rintro σ' G2 H2 g2 gh2 ⟨col, R, fnd, l5, l6, l7, l8, l9, l10, l11, l12, po, s2, hc2, rfl⟩
    exact s_ret (M := Z) exZ gh2 (gd_lst (ga_cons (gd_var rfl (.int (fnd : Int))) (ga_cons (gd_var rfl (.int (R.length : Int))) ga_nil)) (by simp)) ((q _ ⟨W, fnd, R.length, rfl, rfl, po.pieces⟩).from s2)
end
end Sg

/-! the source of draws: one list that changes under all else -/
namespace Sg
open PySem PySem.Spec PyProof.Rows L2
open Evl (Ex)
/-- the heap without s -/
def rm (s : Addr) (H : Hp) : Hp := fun a => if a = s then none else H a
section
variable {s p : Addr} {G H G' H' M : Hp} {o : HO}
theorem rm_ne {a : Addr} (h : a ≠ s) : rm s H a = H a := if_neg h
theorem rm_same : rm s H s = none := if_pos rfl
theorem exRm (e : Ex G (rm s H)) : Ex G H := fun a u h => by
  have q := e a u h
  by_cases n : a = s
  · subst n
    rw [rm_same] at q
    cases q
  · rw [rm_ne n] at q
    exact q
theorem noRm (e : Ex G (rm s H)) : G s = none := fresh_of e rm_same
theorem toRm (e : Ex G H) (n : G s = none) : Ex G (rm s H) := fun a u h => by
  have ne : a ≠ s := by
    rintro rfl
    rw [n] at h
    cases h
  rw [rm_ne ne]
  exact e a u h
theorem Stp.rm (t : Stp G H G' H') (n : G s = none) (hs : H s ≠ none) : Stp G (rm s H) G' (rm s H') :=
  ⟨t.g, fun a u h => by
    by_cases ne : a = s
    · subst ne
      rw [rm_same] at h
      cases h
    · rw [rm_ne ne] at h ⊢
      exact t.h a u h, toRm t.gh ((t.fr s hs).trans n), fun a ha => by
    by_cases ne : a = s
    · subst ne
      exact absurd rm_same ha
    · rw [rm_ne ne] at ha
      exact t.fr a ha⟩
theorem rm_upd (ne : p ≠ s) : rm s (upd H p o) = upd (rm s H) p o := funext fun a => by
  by_cases e : a = s
  · subst e
    rw [rm_same, upd_ne (Ne.symm ne), rm_same]
  · rw [rm_ne e]
    by_cases e2 : a = p
    · subst e2
      rw [upd_same, upd_same]
    · rw [upd_ne e2, upd_ne e2, rm_ne e]
theorem rm_upd_s : rm s (upd H s o) = rm s H := funext fun a => by
  by_cases e : a = s
  · subst e
    rw [rm_same, rm_same]
  · rw [rm_ne e, rm_ne e, upd_ne e]
/-- what s holds, with k draws left -/
def SrcAt (H : Hp) (s : Addr) (k : Nat) : Prop := ∃ dg mx tn : Int, H s = some (.lst [.int dg, .int mx, .int tn]) ∧ 0 ≤ dg ∧ 0 ≤ mx ∧ mx < 2 ^ 61 ∧ 0 ≤ tn ∧ tn + k ≤ 1000000
theorem SrcAt.mono {k j : Nat} (h : SrcAt H s k) (e : j ≤ k) : SrcAt H s j := by
  obtain ⟨dg, mx, tn, h1, h2, h3, h4, h5, h6⟩ := h
  exact ⟨dg, mx, tn, h1, h2, h3, h4, h5, by omega⟩
theorem SrcAt.nz {k : Nat} (h : SrcAt H s k) : H s ≠ none := by
  obtain ⟨_, _, _, h1, _⟩ := h
  exact nn h1
theorem SrcAt.ext {k : Nat} (h : SrcAt H s k) (e : Ex H H') : SrcAt H' s k := by
  obtain ⟨dg, mx, tn, h1, r⟩ := h
  exact ⟨dg, mx, tn, e _ _ h1, r⟩
theorem SrcAt.ups {k : Nat} (h : SrcAt H s k) (ne : p ≠ s) : SrcAt (upd H p o) s k := by
  obtain ⟨dg, mx, tn, h1, r⟩ := h
  exact ⟨dg, mx, tn, (upd_ne (Ne.symm ne)).trans h1, r⟩
/-- what is read stays through a draw -/
theorem readRm (m : Ex M H) (n : M s = none) (t : Stp G (rm s H) G' (rm s H')) : Ex M H' := fun a u h => by
  have ne : a ≠ s := by
    rintro rfl
    rw [n] at h
    cases h
  have q := m a u h
  have q2 := t.h a u (by rw [rm_ne ne]; exact q)
  rw [rm_ne ne] at q2
  exact q2
theorem Hold.stepX {xs : List V} (h : Hold G H p xs) (ne : p ≠ s) (t : Stp G (rm s H) G' (rm s H')) : Hold G' H' p xs := by
  have e : rm s H p = some (.lst xs) := (rm_ne ne).trans h.h
  refine ⟨(t.fr p (nn e)).trans h.g, ?_⟩
  have q := t.h _ _ e
  rwa [rm_ne ne] at q
theorem HoldO.stepX (h : HoldO G H p o) (ne : p ≠ s) (t : Stp G (rm s H) G' (rm s H')) : HoldO G' H' p o := by
  have e : rm s H p = some o := (rm_ne ne).trans h.h
  refine ⟨(t.fr p (nn e)).trans h.g, ?_⟩
  have q := t.h _ _ e
  rwa [rm_ne ne] at q
end
/-! ### expressions that draw: D tells which results may come, c how many draws -/
def Gx (te : TE) (σ : L2.St) (s : Addr) (M G : Hp) (D : PyData → Prop) (c : Nat) : Prop := ∀ H k, Ex M H → Ex G (rm s H) → SrcAt H s (k + c) → ∀ Q : VK, (∀ d v G' H', D d → Stp G (rm s H) G' (rm s H') → SrcAt H' s k → Dx G' v d → Q v H') → te σ H Q
def Gxa (ta : TA) (σ : L2.St) (s : Addr) (M G : Hp) (D : List PyData → Prop) (c : Nat) : Prop := ∀ H k, Ex M H → Ex G (rm s H) → SrcAt H s (k + c) → ∀ Q : List V → Hp → Prop, (∀ ds vs G' H', D ds → Stp G (rm s H) G' (rm s H') → SrcAt H' s k → DxA G' vs ds → Q vs H') → ta σ H Q
def Gtx (tt : TT) (σ : L2.St) (s : Addr) (M G : Hp) (c : Nat) : Prop := ∀ H k, Ex M H → Ex G (rm s H) → SrcAt H s (k + c) → ∀ Q : Bool → Hp → Prop, (∀ b G' H', Stp G (rm s H) G' (rm s H') → SrcAt H' s k → Q b H') → tt σ H Q
/-- a promise of a callee that draws; the source is its first argument -/
def Spx (c : Nat) (pre : List PyData → Prop) (P : List PyData → PyData → Prop) : Sp := fun vs H Q _ => ∃ s us G ds k, vs = V.ref s :: us ∧ Ex G (rm s H) ∧ DxA G us ds ∧ pre ds ∧ SrcAt H s (k + c) ∧
  ∀ d v G' H', P ds d → Stp G (rm s H) G' (rm s H') → SrcAt H' s k → Dx G' v d → Q v H'
theorem Spx.len {c : Nat} {pre : List PyData → Prop} {P : List PyData → PyData → Prop} {n : Nat} (h : ∀ ds, pre ds → ds.length + 1 = n) : ∀ vs H Q E, Spx c pre P vs H Q E → vs.length = n := fun vs H Q E ⟨s, us, G, ds, k, e, _, hv, hp, _⟩ => by
  rw [e, List.length_cons, hv.length]
  exact h ds hp
section
variable {K : PySem.W.Frag} {σ : L2.St} {s : Addr} {M G G1 H : Hp} {te ta tb tx : TE} {t2 u2 : TA} {tt tu : TT} {d : PyData} {D D1 D2 : PyData → Prop} {DL DL2 : List PyData → Prop} {c c1 c2 : Nat}
theorem Gx.mono (h : Gx te σ s M G D c) (e : Ex G G1) : Gx te σ s M G1 D c := fun H k hM hG hs Q q => h H k hM (e.trans hG) hs Q fun d v G' H' hd t hs' dx => by
  obtain ⟨s2, e2⟩ := t.widen e hG
  exact q d v _ H' hd s2 hs' (dx.up e2)
theorem Gxa.mono (h : Gxa t2 σ s M G DL c) (e : Ex G G1) : Gxa t2 σ s M G1 DL c := fun H k hM hG hs Q q => h H k hM (e.trans hG) hs Q fun d v G' H' hd t hs' dx => by
  obtain ⟨s2, e2⟩ := t.widen e hG
  exact q d v _ H' hd s2 hs' (dx.up e2)
theorem Gtx.mono (h : Gtx tt σ s M G c) (e : Ex G G1) : Gtx tt σ s M G1 c := fun H k hM hG hs Q q => h H k hM (e.trans hG) hs Q fun b G' H' t hs' => q b _ H' (t.widen e hG).1 hs'
theorem Gx.cost (h : Gx te σ s M G D c) (e : c ≤ c1) : Gx te σ s M G D c1 := fun H k hM hG hs Q q => h H k hM hG (hs.mono (by omega)) Q q
theorem Gxa.cost (h : Gxa t2 σ s M G DL c) (e : c ≤ c1) : Gxa t2 σ s M G DL c1 := fun H k hM hG hs Q q => h H k hM hG (hs.mono (by omega)) Q q
theorem Gtx.cost (h : Gtx tt σ s M G c) (e : c ≤ c1) : Gtx tt σ s M G c1 := fun H k hM hG hs Q q => h H k hM hG (hs.mono (by omega)) Q q
theorem Gx.imp (h : Gx te σ s M G D c) (e : ∀ d, D d → D1 d) : Gx te σ s M G D1 c := fun H k hM hG hs Q q => h H k hM hG hs Q fun d v G' H' hd => q d v G' H' (e d hd)
/-- no draw -/
theorem gx_of (h : Gd te σ M G d) : Gx te σ s M G (fun e => e = d) 0 := fun H k hM hG hs Q q => h H hM (exRm hG) Q fun v G' H' t dx => q d v G' H' rfl (t.rm (noRm hG) hs.nz) (hs.ext t.h) dx
theorem gxa_of {ds : List PyData} (h : Ga t2 σ M G ds) : Gxa t2 σ s M G (fun e => e = ds) 0 := fun H k hM hG hs Q q => h H hM (exRm hG) Q fun v G' H' t dx => q ds v G' H' rfl (t.rm (noRm hG) hs.nz) (hs.ext t.h) dx
theorem gtx_of {b : Bool} (h : Gt tt σ M G b) : Gtx tt σ s M G 0 := fun H k hM hG hs Q q => h H hM (exRm hG) Q fun G' H' t => q b G' H' (t.rm (noRm hG) hs.nz) (hs.ext t.h)
theorem gxa_nil : Gxa tNil σ s M G (fun e => e = []) 0 := gxa_of ga_nil
theorem gxa_cons (n : M s = none) (h : Gx te σ s M G D c1) (hr : Gxa t2 σ s M G DL c2) : Gxa (tCons te t2) σ s M G (fun l => ∃ d ds, D d ∧ DL ds ∧ l = d :: ds) (c1 + c2) := fun H k hM hG hs Q q =>
  h H (k + c2) hM hG (hs.mono (by omega)) _ fun d v G1 H1 hd t1 hs1 dx => (hr.mono t1.g) H1 k (readRm hM n t1) t1.gh hs1 _ fun ds vs G2 H2 hds t2 hs2 dxs => q (d :: ds) (v :: vs) G2 H2 ⟨d, ds, hd, hds, rfl⟩ (t1.trans t2) hs2 (.cons (dx.up t2.g) dxs)
/-- an operator -/
theorem gx_op {r : R2} (n : M s = none) (ha : Gx ta σ s M G D1 c1) (hb : Gx tb σ s M G D2 c2) (hr : ∀ d e, D1 d → D2 e → ∃ z, D z ∧ ∀ v w G1 H, Ex G1 H → Dx G1 v d → Dx G1 w e → ∀ Q : VK, Ret G1 H z Q → r v w H Q) : Gx (tOp r ta tb) σ s M G D (c1 + c2) := fun H k hM hG hs Q q =>
  ha H (k + c2) hM hG (hs.mono (by omega)) _ fun d v G1 H1 hd t1 hs1 dx => (hb.mono t1.g) H1 k (readRm hM n t1) t1.gh hs1 _ fun e w G2 H2 he t2 hs2 dy => by
    obtain ⟨z, hz, rr⟩ := hr d e hd he
    exact rr v w G2 H2 (exRm t2.gh) (dx.up t2.g) dy Q fun x G3 H3 t3 dz => q z x G3 H3 hz ((t1.trans t2).trans (t3.rm (noRm t2.gh) hs2.nz)) (hs2.ext t3.h) dz
theorem gx_call {pre : List PyData → Prop} {P : List PyData → PyData → Prop} {E : XK} {i : Nat} (hi : σ[i]? = some (some (.ref s))) (h : Gxa t2 σ s M G DL c1) (hp : ∀ ds, DL ds → pre ds) : Gx (tCall (Spx c pre P) [] E (tCons (tVar i) t2)) σ s M G (fun z => ∃ ds, DL ds ∧ P ds z) (c1 + c) := fun H k hM hG hs Q q =>
  ⟨_, hi, h H (k + c) hM hG (hs.mono (by omega)) _ fun ds vs G1 H1 hd t1 hs1 dx => ⟨s, vs, G1, ds, k, by rw [List.append_nil], t1.gh, dx, hp ds hd, hs1, fun z v G2 H2 hz t2 hs2 dz => q z v G2 H2 ⟨ds, hd, hz⟩ (t1.trans t2) hs2 dz⟩⟩
/-- a call that does not draw, of arguments that do -/
theorem gx_callP {P : List PyData → PyData → Prop} {E : XK} (h : Gxa t2 σ s M G DL c) (hp : ∀ ds, DL ds → ∃ z, P ds z ∧ D z) : Gx (tCall (Spd P) [] E t2) σ s M G D c := fun H k hM hG hs Q q =>
  h H k hM hG hs _ fun ds vs G1 H1 hd t1 hs1 dx => by
    obtain ⟨z, h1, h2⟩ := hp ds hd
    exact ⟨G1, ds, z, exRm t1.gh, by rw [List.append_nil]; exact dx, h1, fun v G2 H2 t2 dz => q z v G2 H2 h2 (t1.trans (t2.rm (noRm t1.gh) hs1.nz)) (hs1.ext t2.h) dz⟩
theorem gx_tup (h : Gxa t2 σ s M G DL c) (hl : ∀ ds, DL ds → ds.length ≤ 100000) : Gx (tTup t2) σ s M G (fun z => ∃ ds, DL ds ∧ z = .tuple ds) c := fun H k hM hG hs Q q =>
  h H k hM hG hs _ fun ds vs G1 H1 hd t1 hs1 dx => ⟨sz (by rw [dx.length]; exact hl ds hd), ret_tup (exRm t1.gh) dx fun v G2 H2 t2 dz => q _ v G2 H2 ⟨ds, hd, rfl⟩ (t1.trans (t2.rm (noRm t1.gh) hs1.nz)) (hs1.ext t2.h) dz⟩
theorem gx_lst (h : Gxa t2 σ s M G DL c) (hl : ∀ ds, DL ds → ds.length ≤ 100000) : Gx (tLst t2) σ s M G (fun z => ∃ ds, DL ds ∧ z = .list ds) c := fun H k hM hG hs Q q =>
  h H k hM hG hs _ fun ds vs G1 H1 hd t1 hs1 dx => ⟨sz (by rw [dx.length]; exact hl ds hd), ret_lst (exRm t1.gh) dx fun v G2 H2 t2 dz => q _ v G2 H2 ⟨ds, hd, rfl⟩ (t1.trans (t2.rm (noRm t1.gh) hs1.nz)) (hs1.ext t2.h) dz⟩
/-- a built-in call -/
theorem gx_cb {r : List V → Hp → VK → Prop} (h : Gxa t2 σ s M G DL c) (hr : ∀ ds, DL ds → ∃ z, D z ∧ ∀ vs G1 H, Ex G1 H → DxA G1 vs ds → ∀ Q : VK, Ret G1 H z Q → r vs H Q) : Gx (tCB r t2) σ s M G D c := fun H k hM hG hs Q q =>
  h H k hM hG hs _ fun ds vs G1 H1 hd t1 hs1 dx => by
    obtain ⟨z, hz, rr⟩ := hr ds hd
    exact rr vs G1 H1 (exRm t1.gh) dx Q fun v G2 H2 t2 dz => q z v G2 H2 hz (t1.trans (t2.rm (noRm t1.gh) hs1.nz)) (hs1.ext t2.h) dz
/-- tests -/
theorem gtx_test (h : Gx te σ s M G (fun d => ∃ b, d = .bool b) c) : Gtx (tTest te) σ s M G c := fun H k hM hG hs Q q => h H k hM hG hs _ fun d v G' H' ⟨b, e⟩ t hs' dx => by
  subst e
  exact ⟨b, dx.bl_of, q b G' H' t hs'⟩
theorem gtx_B (h : Gx te σ s M G (fun d => ∃ b, d = .bool b) c) : Gtx (tB te) σ s M G c := gtx_test h
theorem gtx_and (n : M s = none) (h1 : Gtx tt σ s M G c1) (h2 : Gtx tu σ s M G c2) : Gtx (tAnd tt tu) σ s M G (c1 + c2) := fun H k hM hG hs Q q => h1 H (k + c2) hM hG (hs.mono (by omega)) _ fun b G1 H1 t1 hs1 => by
  cases b with
  | true => exact (h2.mono t1.g) H1 k (readRm hM n t1) t1.gh hs1 Q fun b G2 H2 t2 hs2 => q b G2 H2 (t1.trans t2) hs2
  | false => exact q false G1 H1 t1 (hs1.mono (by omega))
theorem gtx_or (n : M s = none) (h1 : Gtx tt σ s M G c1) (h2 : Gtx tu σ s M G c2) : Gtx (tOr tt tu) σ s M G (c1 + c2) := fun H k hM hG hs Q q => h1 H (k + c2) hM hG (hs.mono (by omega)) _ fun b G1 H1 t1 hs1 => by
  cases b with
  | true => exact q true G1 H1 t1 (hs1.mono (by omega))
  | false => exact (h2.mono t1.g) H1 k (readRm hM n t1) t1.gh hs1 Q fun b G2 H2 t2 hs2 => q b G2 H2 (t1.trans t2) hs2
theorem gtx_not (h : Gtx tt σ s M G c) : Gtx (tNot tt) σ s M G c := fun H k hM hG hs Q q => h H k hM hG hs _ fun b G1 H1 t1 hs1 => q (!b) G1 H1 t1 hs1
theorem gx_if (n : M s = none) (h : Gtx tt σ s M G c) (h1 : Gx ta σ s M G D c1) (h2 : Gx tb σ s M G D c1) : Gx (tIf tt ta tb) σ s M G D (c + c1) := fun H k hM hG hs Q q => h H (k + c1) hM hG (hs.mono (by omega)) _ fun b G1 H1 t1 hs1 => by
  cases b with
  | true => exact (h1.mono t1.g) H1 k (readRm hM n t1) t1.gh hs1 Q fun d v G2 H2 hd t2 hs2 dx => q d v G2 H2 hd (t1.trans t2) hs2 dx
  | false => exact (h2.mono t1.g) H1 k (readRm hM n t1) t1.gh hs1 Q fun d v G2 H2 hd t2 hs2 dx => q d v G2 H2 hd (t1.trans t2) hs2 dx
theorem gx_and (n : M s = none) (h1 : Gx ta σ s M G (fun d => ∃ b, d = .bool b) c1) (h2 : Gx tb σ s M G (fun d => ∃ b, d = .bool b) c2) : Gx (tAndV ta tb) σ s M G (fun d => ∃ b, d = .bool b) (c1 + c2) := fun H k hM hG hs Q q => h1 H (k + c2) hM hG (hs.mono (by omega)) _ fun d v G1 H1 ⟨b, e⟩ t1 hs1 dx => by
  subst e
  refine ⟨b, dx.bl_of, ?_⟩
  cases b with
  | true => exact (h2.mono t1.g) H1 k (readRm hM n t1) t1.gh hs1 Q fun d v G2 H2 hd t2 hs2 dx => q d v G2 H2 hd (t1.trans t2) hs2 dx
  | false => exact q _ _ G1 H1 ⟨false, rfl⟩ t1 (hs1.mono (by omega)) (.bl false)
/-- ints in, an int out -/
theorem gx_I0 {g : Int → Int → Int} (n : M s = none) (ha : Gx ta σ s M G D1 c1) (hb : Gx tb σ s M G D2 c2) (hr : ∀ d e, D1 d → D2 e → ∃ i j : Int, d = .int i ∧ e = .int j ∧ D (.int (g i j))) : Gx (tOp (rI0 fun i j => .int (g i j)) ta tb) σ s M G D (c1 + c2) := gx_op n ha hb fun d e hd he => by
  obtain ⟨i, j, rfl, rfl, hz⟩ := hr d e hd he
  exact ⟨_, hz, fun v w G1 H hG h1 h2 Q q => ⟨i, j, h1.int_of, h2.int_of, q.go hG (.int _)⟩⟩
theorem gx_plus (n : M s = none) (ha : Gx ta σ s M G D1 c1) (hb : Gx tb σ s M G D2 c2) (hr : ∀ d e, D1 d → D2 e → ∃ i j : Int, d = .int i ∧ e = .int j ∧ D (.int (i + j))) : Gx (tOp (rPlus K) ta tb) σ s M G D (c1 + c2) := gx_op n ha hb fun d e hd he => by
  obtain ⟨i, j, rfl, rfl, hz⟩ := hr d e hd he
  exact ⟨_, hz, fun v w G1 H hG h1 h2 Q q => .inl ⟨i, j, h1.int_of, h2.int_of, q.go hG (.int _)⟩⟩
theorem gx_times (n : M s = none) (ha : Gx ta σ s M G D1 c1) (hb : Gx tb σ s M G D2 c2) (hr : ∀ d e, D1 d → D2 e → ∃ i j : Int, d = .int i ∧ e = .int j ∧ CMul i j ∧ D (.int (i * j))) : Gx (tOp rTimes ta tb) σ s M G D (c1 + c2) := gx_op n ha hb fun d e hd he => by
  obtain ⟨i, j, rfl, rfl, hc, hz⟩ := hr d e hd he
  exact ⟨_, hz, fun v w G1 H hG h1 h2 Q q => .inl ⟨i, j, h1.int_of, h2.int_of, hc, q.go hG (.int _)⟩⟩
/-- two ints compared: a bool -/
theorem gx_B0 {g : Int → Int → Bool} (n : M s = none) (ha : Gx ta σ s M G D1 c1) (hb : Gx tb σ s M G D2 c2) (hr : ∀ d e, D1 d → D2 e → ∃ i j : Int, d = .int i ∧ e = .int j) : Gx (tOp (rI0 fun i j => .bl (g i j)) ta tb) σ s M G (fun d => ∃ b, d = .bool b) (c1 + c2) := gx_op n ha hb fun d e hd he => by
  obtain ⟨i, j, rfl, rfl⟩ := hr d e hd he
  exact ⟨_, ⟨_, rfl⟩, fun v w G1 H hG h1 h2 Q q => ⟨i, j, h1.int_of, h2.int_of, q.go hG (.bl _)⟩⟩
theorem gx_eq (n : M s = none) (ha : Gx ta σ s M G D1 c1) (hb : Gx tb σ s M G D2 c2) (hr : ∀ d e, D1 d → D2 e → SeqAt.shaped d = true ∧ SeqAt.shaped e = true) : Gx (tOp (rEqD K) ta tb) σ s M G (fun d => ∃ b, d = .bool b) (c1 + c2) := gx_op n ha hb fun d e hd he => by
  obtain ⟨h1, h2⟩ := hr d e hd he
  exact ⟨_, ⟨_, rfl⟩, fun v w G1 H hG k1 k2 Q q => ⟨d, e, (k1.up hG).dp, (k2.up hG).dp, h1, h2, q.go hG (.bl _)⟩⟩
/-! statements -/
variable {DE : Ends} {tz ts tw : TS} {k : Nat}
theorem sx_asg {i : Nat} (hM : Ex M H) (hG : Ex G (rm s H)) (hs : SrcAt H s (k + c)) (h : Gx te σ s M G D c) (q : ∀ d v G' H', D d → Stp G (rm s H) G' (rm s H') → SrcAt H' s k → Dx G' v d → tz DE (σ.set i (some v)) H') : tSeq (tAsg te (gName i)) tz DE σ H := h H k hM hG hs _ q
theorem sx_asgE {i : Nat} (hM : Ex M H) (hG : Ex G (rm s H)) (hs : SrcAt H s (k + c)) (h : Gx te σ s M G D c) (q : ∀ d v G' H', D d → Stp G (rm s H) G' (rm s H') → SrcAt H' s k → Dx G' v d → DE.nx (σ.set i (some v)) H') : tAsg te (gName i) DE σ H := h H k hM hG hs _ q
theorem sx_ret (hM : Ex M H) (hG : Ex G (rm s H)) (hs : SrcAt H s (k + c)) (h : Gx te σ s M G D c) (q : ∀ d v G' H', D d → Stp G (rm s H) G' (rm s H') → SrcAt H' s k → Dx G' v d → DE.rt v H') : tRet te DE σ H := h H k hM hG hs _ q
theorem sx_if (hM : Ex M H) (hG : Ex G (rm s H)) (hs : SrcAt H s (k + c)) (h : Gtx tt σ s M G c) (h1 : ∀ G' H', Stp G (rm s H) G' (rm s H') → SrcAt H' s k → ts { DE with nx := tz DE } σ H') (h2 : ∀ G' H', Stp G (rm s H) G' (rm s H') → SrcAt H' s k → tw { DE with nx := tz DE } σ H') : tSeq (tIfS tt ts tw) tz DE σ H :=
  h H k hM hG hs _ fun b G1 H1 t1 hs1 => by
  cases b with
  | true => exact iteT (h1 G1 H1 t1 hs1)
  | false => exact iteF (h2 G1 H1 t1 hs1)
theorem sx_ifE (hM : Ex M H) (hG : Ex G (rm s H)) (hs : SrcAt H s (k + c)) (h : Gtx tt σ s M G c) (h1 : ∀ G' H', Stp G (rm s H) G' (rm s H') → SrcAt H' s k → ts DE σ H') (h2 : ∀ G' H', Stp G (rm s H) G' (rm s H') → SrcAt H' s k → tw DE σ H') : tIfS tt ts tw DE σ H := sx_if (tz := tNext) (DE := DE) hM hG hs h h1 h2
/-- (x, y) = .. -/
theorem sx_asg2 {i j : Nat} (hM : Ex M H) (hG : Ex G (rm s H)) (hs : SrcAt H s (k + c)) (h : Gx te σ s M G D c) (hd : ∀ d, D d → ∃ a b, d = .tuple [a, b]) (q : ∀ a b x y G' H', D (.tuple [a, b]) → Stp G (rm s H) G' (rm s H') → SrcAt H' s k → Dx G' x a → Dx G' y b → tz DE ((σ.set i (some x)).set j (some y)) H') :
    tSeq (tAsg te (gTup K 2 (gCons (gName i) (gCons (gName j) gNil)))) tz DE σ H := h H k hM hG hs _ fun d v G1 H1 hd1 t1 hs1 dx => by
  obtain ⟨a, b, rfl⟩ := hd d hd1
  obtain ⟨x, y, e1, e2, e3⟩ := tg_two (K := K) (i := i) (j := j) (σ1 := σ) dx
  exact e3 H1 _ (exRm t1.gh) (q a b x y G1 H1 hd1 t1 hs1 e1 e2)
theorem sx_par2 {i j : Nat} (hM : Ex M H) (hG : Ex G (rm s H)) (hs : SrcAt H s (k + c)) (h : Gxa t2 σ s M G DL c) (hd : ∀ l, DL l → ∃ a b, l = [a, b]) (q : ∀ a b x y G' H', DL [a, b] → Stp G (rm s H) G' (rm s H') → SrcAt H' s k → Dx G' x a → Dx G' y b → tz DE ((σ.set i (some x)).set j (some y)) H') :
    tSeq (tPar i j t2) tz DE σ H := h H k hM hG hs _ fun ds vs G1 H1 hd1 t1 hs1 dx => by
  obtain ⟨a, b, rfl⟩ := hd ds hd1
  obtain ⟨x, y, rfl, e1, e2⟩ := dx.two
  exact ⟨x, y, rfl, q a b x y G1 H1 hd1 t1 hs1 e1 e2⟩
theorem sx_par3 {i j l : Nat} (hM : Ex M H) (hG : Ex G (rm s H)) (hs : SrcAt H s (k + c)) (h : Gxa t2 σ s M G DL c) (hd : ∀ l, DL l → ∃ a b e, l = [a, b, e]) (q : ∀ a b e x y z G' H', DL [a, b, e] → Stp G (rm s H) G' (rm s H') → SrcAt H' s k → Dx G' x a → Dx G' y b → Dx G' z e → tz DE (((σ.set i (some x)).set j (some y)).set l (some z)) H') :
    tSeq (tPar3 i j l t2) tz DE σ H := h H k hM hG hs _ fun ds vs G1 H1 hd1 t1 hs1 dx => by
  obtain ⟨a, b, e, rfl⟩ := hd ds hd1
  obtain ⟨x, y, z, rfl, e1, e2, e3⟩ := dx.three
  exact ⟨x, y, z, rfl, q a b e x y z G1 H1 hd1 t1 hs1 e1 e2 e3⟩
end
end Sg

/-! comprehensions that draw; draw, row, sized_row, drawn_sign -/
namespace Sg
open PySem PySem.Spec PyProof.Rows L2
open Evl (Ex)
def Srx (wi : TI) (σ : L2.St) (s : Addr) (M G : Hp) (n : Nat) (Di : (Nat → PyData) → Prop) (c : Nat) : Prop := ∀ H k, Ex M H → Ex G (rm s H) → SrcAt H s (k + c) → ∀ R : It → Hp → Prop, (∀ J G1 H1 it, Di it → Stp G (rm s H) G1 (rm s H1) → SrcAt H1 s k → SrcJ J G1 n it → R J H1) → wi σ H R
section
variable {K : PySem.W.Frag} {σ : L2.St} {s : Addr} {M G : Hp} {te : TE} {c c0 n : Nat} {D : PyData → Prop} {Di : (Nat → PyData) → Prop} {it : Nat → PyData}
theorem srx_of {wi : TI} (h : Src wi σ M G n it) : Srx wi σ s M G n (fun e => e = it) 0 := fun H k hM hG hs R r => h H hM (exRm hG) R fun J G1 H1 t hj => r J G1 H1 it rfl (t.rm (noRm hG) hs.nz) (hs.ext t.h) hj
theorem srx_tup (h : Gx te σ s M G D c) (hd : ∀ d, D d → ∃ ds, d = .tuple ds ∧ ds.length = n) : Srx (iTup K te) σ s M G n (fun e => ∃ ds, D (.tuple ds) ∧ e = fun i => ds.getD i .none) c := fun H k hM hG hs R r => h H k hM hG hs _ fun d v G1 H1 h1 t1 hs1 dx => by
  obtain ⟨ds, rfl, hl⟩ := hd d h1
  obtain ⟨a, xs, rfl, ga, hx⟩ := dx.tup_of
  refine ⟨a, rfl, ⟨xs, SqT.of (exRm t1.gh _ _ ga)⟩, r _ G1 H1 _ ⟨ds, h1, rfl⟩ t1 hs1 ?_⟩
  rw [← hl]
  exact srcJ_tup ga hx
theorem gx_lc {wi : TI} {g : TG} {vs : List Nat} (DE : (Nat → PyData) → Nat → PyData → Prop) (nM : M s = none) (hs : Srx wi σ s M G n Di c0) (hn : n ≤ 40000)
    (ht : ∀ it, Di it → ∀ (i : Nat) (G1 : Hp) (v : V), i < n → Ex G G1 → Dx G1 v (it i) → ∃ σ2, (∀ H (Q : L2.St → Hp → Prop), Ex G1 H → Q σ2 H → g v (wipe σ vs) H Q) ∧ wipe σ2 vs = wipe σ vs ∧ Gx te σ2 s M G1 (DE it i) c) :
    Gx (tLc wi g tYes te vs) σ s M G (fun d => ∃ it ds, Di it ∧ d = .list ds ∧ ds.length = n ∧ ∀ i, i < n → DE it i (ds.getD i .none)) (c0 + n * c) := fun H k hM hG hS Q q => hs H (k + n * c) hM hG (hS.mono (by omega)) _ fun J G1 H1 it hit t1 hs1 hJ Dl hD => by
  have neD : Dl ≠ s := by
    rintro rfl
    exact hs1.nz hD
  have hD' : rm s H1 Dl = none := (rm_ne neD).trans hD
  let Wm : Nat → Hp → Prop := fun i H => ∃ (G' : Hp) (us : List V) (acc : List PyData), Stp G1 (rm s H1) G' (rm s H) ∧ Ex M H ∧ SrcAt H s (k + (n - i) * c) ∧ Hold G' H Dl us ∧ DxA G' us acc ∧ acc.length = i ∧ ∀ j, j < i → DE it j (acc.getD j .none)
  refine ⟨fun i m H => m = n - i ∧ i ≤ n ∧ Wm i H, ⟨n, by omega, Nat.zero_le _, G1, [], [], ?_, (readRm hM nM t1).trans (Ex.new hD), hs1.ups neD, Hold.made (exRm t1.gh) hD, .nil, rfl, fun j hj => absurd hj (Nat.not_lt_zero j)⟩, ?_⟩
  · rw [rm_upd neD]
    exact (Stp.refl t1.gh).new hD'
  rintro i m H2 ⟨rfl, hi, G2, us, acc, t2, hM2, hs2, ho, hu, la, hacc⟩
  obtain ⟨hstop, hgo⟩ := hJ i G2 H2 t2.g (exRm t2.gh)
  by_cases lt : i < n
  · obtain ⟨hgo1, hy⟩ := hgo lt
    refine .inr ⟨hgo1, Wm (i + 1), fun H' h' => ⟨n - (i + 1), by omega, rfl, lt, h'⟩, fun x H3 y => ?_⟩
    obtain ⟨G3, s3, d3⟩ := hy x H3 y
    have t3 := s3.rm (noRm t2.gh) hs2.nz
    obtain ⟨σ2, g1, g2, g3⟩ := ht it hit i G3 x lt ((t1.g.trans t2.g).trans s3.g) d3
    refine g1 H3 _ s3.gh ⟨g2, iteT (B := Wm (i + 1) H3) ?_⟩
    have ck : k + (n - i) * c = (k + (n - (i + 1)) * c) + c := by
      have e1 : n - i = (n - (i + 1)) + 1 := by omega
      rw [e1, Nat.add_mul, Nat.one_mul]
      omega
    rw [ck] at hs2
    refine g3 H3 _ (hM2.trans s3.h) t3.gh (hs2.ext s3.h) _ fun d v G4 H4 hd t4 hs4 dx => ?_
    have ho4 := (ho.step s3).stepX neD t4
    have lu := hu.length
    have t24 := (t2.trans t3).trans t4
    refine ⟨us, ho4.h, szl (by omega), G4, us ++ [v], acc ++ [d], ?_, ?_, hs4.ups neD, ho4.put, (hu.up (s3.g.trans t4.g)).append (.cons dx .nil), by rw [List.length_append, la] <;> rfl, fun j hj => ?_⟩
    · rw [rm_upd neD]
      exact t24.mut hD' ho4.g
    · intro a u ha
      have hm1 : Ex M H1 := readRm hM nM t1
      have ne : a ≠ Dl := by
        rintro rfl
        have := hm1 _ _ ha
        rw [hD] at this
        cases this
      rw [upd_ne ne]
      exact (readRm (hM2.trans s3.h) nM t4) _ _ ha
    · rcases Nat.lt_succ_iff_lt_or_eq.mp hj with hj | rfl
      · rw [List.getD_eq_getElem?_getD, List.getElem?_append_left (by omega), ← List.getD_eq_getElem?_getD]
        exact hacc j hj
      · have e : (acc ++ [d]).getD j .none = d := by
          rw [List.getD_eq_getElem?_getD, List.getElem?_append_right (by omega)]
          simp [la]
        rw [e]
        exact hd
  · have e : i = n := by omega
    subst e
    have ho' : rm s H2 Dl = some (.lst us) := (rm_ne neD).trans ho.h
    refine .inl ⟨hstop rfl, q (.list acc) _ (upd G2 Dl (.lst us)) H2 ⟨it, acc, hit, rfl, la, hacc⟩ ((t1.trans t2).know (fresh_of t1.h hD') ho.g ho') (hs2.mono (by omega)) (.lst upd_same (hu.up ho.up))⟩
end
section
variable {K : PySem.W.Frag} {σ : L2.St} {M G H : Hp} {te : TE} {D : Ends} {tz : TS}
/-- l[c] = e, c written -/
theorem s_subC {i : Nat} {p : Addr} {us : List V} {c : Nat} {z : Int} {d : PyData} (hM : Ex M H) (hG : Ex G H) (hp : Hold G H p us) (h : σ[i]? = some (some (.ref p))) (hz : z = c) (hc : c < us.length) (hx : Gd te σ M G d)
    (k : ∀ v G' H', Stp G H G' H' → Hold G' H' p us → Dx G' v d → tz D σ (upd H' p (.lst (us.set c v)))) : tSeq (tAsg te (gSub (tVar i) (tC (.int z)) rSetL)) tz D σ H := hx H hM hG _ fun v G1 H1 s1 d1 => by
  subst hz
  exact ⟨_, h, p, us, c, c, rfl, rfl, (hp.step s1).h, ixN_nat hc, k v G1 H1 s1 (hp.step s1) d1⟩
abbrev rInt1 : List V → Hp → VK → Prop := fun xs H Q => (∃ i, xs = [V.int i] ∧ Q (V.int i) H) ∨ ∃ k, xs = [V.bl k] ∧ Q (V.int (if k = true then 1 else 0)) H
theorem gd_int1 {i : Int} (h : Gd te σ M G (.int i)) : Gd (tCB rInt1 (tCons te tNil)) σ M G (.int i) := gd_cb (ga_cons h ga_nil) fun vs G1 H _ hG hv Q q => by
  obtain ⟨v, rfl, d1⟩ := hv.one
  cases d1
  exact .inl ⟨i, rfl, q.go hG (.int _)⟩
end
/-! ### promises -/
def isNat (n : Nat) (d : PyData) : Prop := ∃ r : Nat, d = .int r ∧ r < n
def QDraw (ds : List PyData) : Prop := ∃ n : Nat, 1 ≤ n ∧ n ≤ 1000 ∧ ds = [.int n]
def PDraw (ds : List PyData) (d : PyData) : Prop := ∀ n : Nat, ds = [.int n] → isNat n d
theorem draw_of {n : Nat} {ds : List PyData} {z : PyData} (e : ds = [.int n]) (h : PDraw ds z) : isNat n z := h n e
section
variable {K : PySem.W.Frag} {σ : L2.St} {s : Addr} {M G : Hp} {te : TE} {c n : Nat}
/-- _law_draw(source, n) -/
theorem gx_draw {E : XK} {i : Nat} (hi : σ[i]? = some (some (.ref s))) (h : Gd te σ M G (.int n)) (h1 : 1 ≤ n) (h2 : n ≤ 1000) : Gx (tCall (Spx 1 QDraw PDraw) [] E (tCons (tVar i) (tCons te tNil))) σ s M G (isNat n) 1 :=
  ((gx_call (c := 1) hi (gxa_of (ga_cons h ga_nil)) fun ds e => ⟨n, h1, h2, e⟩).cost (by omega)).imp fun z ⟨ds, e, hz⟩ => hz n e
end
section
variable {P : Program} {w : World} {K : PySem.W.Frag} {mg : Str → Option Value} {base : Heap} {f : Addr} {fd : FuncData}
theorem scLawDraw : FnScope ["_law_source_here", "_law_many", "_law_rest", "_law_found", "_law_turn", "_law_mixed"] ["_law_source_here", "_law_many"] (defScope sLawDraw) := ⟨rfl, rfl, rfl, by decide +kernel, rfl, by decide +kernel, by decide +kernel⟩
theorem ok_law_draw (D : Df K mg "_law_draw" sLawDraw ["_law_source_here", "_law_many"] f fd) (B : Bi mg) : FnOk P w K mg base CX0 1 f fd ["_law_source_here", "_law_many"] (Spx 1 QDraw PDraw) := by
  refine D.F.ok scLawDraw (Spx.len (n := 2) fun ds ⟨_, _, _, e⟩ => by rw [e]; rfl) (fun cdv A outer s H vs Q E hr h => ?_)
  obtain ⟨sa, us, G, ds, k, rfl, hG, hv, ⟨n, n1, n2, rfl⟩, hs, q⟩ := h
  obtain ⟨v, rfl, hn⟩ := hv.one
  cases hn
  refine ⟨_, PSs.nox (pss_cons (ps_if (PW.pt (pw_and (pt_cmpR op_gt (pe_ix (ix_twoK (K := K) rfl) (pv 0) pe_int (fun _ _ => rfl)) pe_int (nomark _)) (pw_and1 (pt_cmpR op_gt (pv 1) pe_int (nomark _))))) (pss_cons (ps_set (i := 2) scLawDraw.nd rfl (.inl rfl) (pe_op op_fdiv (pe_ix (ix_twoK (K := K) rfl) (pv 0) pe_int (fun _ _ => rfl)) (pv 1))) (pss_cons (ps_set (i := 3) scLawDraw.nd rfl (.inl rfl) (pe_op op_sub (pe_ix (ix_twoK (K := K) rfl) (pv 0) pe_int (fun _ _ => rfl)) (pe_op op_times (pv 2) (pv 1)))) (pss_cons (ps_asg (pv 2) (pg_sub (pv 0) pe_int set_list)) (pss_one (ps_ret (pv 3)))))) pss_nil) (pss_cons (ps_asg (pe_op (op_plusK (K := K) rfl) (pe_ix (ix_twoK (K := K) rfl) (pv 0) pe_int (fun _ _ => rfl)) pe_int) (pg_sub (pv 0) pe_int set_list)) (pss_cons (ps_set (i := 4) scLawDraw.nd rfl (.inl rfl) (pe_ix (ix_twoK (K := K) rfl) (pv 0) pe_int (fun _ _ => rfl))) (pss_cons (ps_set (i := 5) scLawDraw.nd rfl (.inl rfl) (pe_op op_mod (pe_callTy call_int1 (by rfl) B.int bb_int (pa_cons (pe_op (op_plusK (K := K) rfl) (pe_op (op_plusK (K := K) rfl) (pe_op op_times (pe_ix (ix_twoK (K := K) rfl) (pv 0) pe_int (fun _ _ => rfl)) (pe_op (op_plusK (K := K) rfl) (pe_op op_times pe_int (pv 4)) pe_int)) (pe_op op_times (pe_op op_times pe_int (pv 4)) (pv 4))) pe_int) pa_nil)) pe_int)) (pss_cons (ps_set (i := 5) scLawDraw.nd rfl (.inl rfl) (pe_op op_fdiv (pe_op op_mod (pe_callTy call_int1 (by rfl) B.int bb_int (pa_cons (pe_op (op_plusK (K := K) rfl) (pe_op (op_plusK (K := K) rfl) (pe_op op_times (pv 5) (pv 5)) (pe_op op_times pe_int (pv 5))) (pv 4)) pa_nil)) pe_int) pe_int)) (pss_cons (ps_set (i := 5) scLawDraw.nd rfl (.inl rfl) (pe_op op_fdiv (pe_op op_mod (pe_callTy call_int1 (by rfl) B.int bb_int (pa_cons (pe_op (op_plusK (K := K) rfl) (pe_op op_times (pv 5) (pv 5)) (pe_op op_times pe_int (pv 4))) pa_nil)) pe_int) pe_int)) (pss_one (ps_ret (pe_op op_mod (pe_callTy call_int1 (by rfl) B.int bb_int (pa_cons (pv 5) pa_nil)) (pv 1)))))))))), ?_⟩
  obtain ⟨dg, mx, tn, hl, d0, m0, m1, t0, tk⟩ := hs
  have ho : Hold G H sa (iv [dg, mx, tn]) := ⟨noRm hG, hl⟩
  have hGH := exRm hG
  have ix : ∀ {σ : L2.St} {G : Hp} {l : List Int} {z : Int} {c : Nat}, σ[0]? = some (some (.ref sa)) → z = (c : Int) → c < l.length → Gd (tOp (rIx2 K) (tVar 0) (tC (.int z))) σ (upd Z sa (.lst (iv l))) G (.int (l.getD c 0)) := fun {σ G l z c} h e hc => by
    subst e
    exact gd_ixH h upd_same gd_int hc
  refine s_if (M := upd Z sa (.lst (iv [dg, mx, tn]))) ho.one hGH (gt_and (a := decide (0 < dg)) (gt_test (gd_B0 (ix (c := 0) rfl rfl (by show 0 < 3; decide)) gd_int)) fun _ => gt_test (gd_B0 (gd_var rfl (.int (n : Int))) gd_int)) (fun hb G1 H1 s1 => ?_) (fun hb G1 H1 s1 => ?_)
  · obtain ⟨b1, b2⟩ := Bool.and_eq_true_iff.mp hb
    have b1 : 0 < dg := of_decide_eq_true b1
    have b2 : (1 : Int) < n := of_decide_eq_true b2
    have h1 := ho.step s1
    have t1 := s1.rm (noRm hG) (nn hl)
    refine s_asg (M := upd Z sa (.lst (iv [dg, mx, tn]))) h1.one s1.gh (gd_I (ix (c := 0) rfl rfl (by show 0 < 3; decide)) (gd_var rfl (.int (n : Int))) ⟨by omega, by omega⟩) fun v2 G2 H2 s2 d2 => ?_
    cases d2
    have h2 := h1.step s2
    have t2 := t1.trans (s2.rm h1.g (nn h1.h))
    refine s_asg (M := upd Z sa (.lst (iv [dg, mx, tn]))) h2.one s2.gh (gd_I0 (ix (c := 0) rfl rfl (by show 0 < 3; decide)) (gd_times (gd_var rfl (.int _)) (gd_var rfl (.int (n : Int))) (cmul_r (by omega) (by omega)))) fun v3 G3 H3 s3 d3 => ?_
    cases d3
    have h3 := h2.step s3
    have t3 := t2.trans (s3.rm h2.g (nn h2.h))
    refine s_subC (c := 0) (M := Z) exZ s3.gh h3 rfl rfl (by show 0 < 3; decide) (gd_var rfl (.int _)) fun v4 G4 H4 s4 h4 d4 => ?_
    cases d4
    have t4 := t3.trans (s4.rm h3.g (nn h3.h))
    have e0 : ([dg, mx, tn] : List Int).getD 0 0 = dg := rfl
    rw [e0]
    have em : dg - dg / (n : Int) * n = ((dg % n).toNat : Nat) := by
      have h := Int.emod_add_mul_ediv dg n
      have h2 := Int.emod_nonneg dg (show (n : Int) ≠ 0 by omega)
      rw [Int.toNat_of_nonneg h2, Int.mul_comm (dg / n) n]
      omega
    have lt : (dg % n).toNat < n := by
      have h2 := Int.emod_lt_of_pos dg (show (0 : Int) < n by omega)
      omega
    refine ⟨_, rfl, q (.int (dg - dg / n * n)) _ G4 _ ?_ ?_ ⟨dg / n, mx, tn, upd_same, ?_, m0, m1, t0, by omega⟩ (.int _)⟩
    · intro n' e
      have e' : n = n' := by
        injection e with e
        injection e with e
        omega
      subst e'
      exact ⟨_, by rw [em], lt⟩
    · rw [rm_upd_s]
      exact t4
    · exact Int.ediv_nonneg (by omega) (by omega)
  · have h1 := ho.step s1
    have t1 := s1.rm (noRm hG) (nn hl)
    refine s_subC (c := 2) (M := upd Z sa (.lst (iv [dg, mx, tn]))) h1.one s1.gh h1 rfl rfl (by show 2 < 3; decide) (gd_plus (ix (c := 2) rfl rfl (by show 2 < 3; decide)) gd_int) fun v2 G2 H2 s2 h2 d2 => ?_
    cases d2
    have t2 : Stp G (rm sa H) G2 (rm sa (upd H2 sa (.lst (iv [dg, mx, tn + 1])))) := by
      rw [rm_upd_s]
      exact t1.trans (s2.rm h1.g (nn h1.h))
    have h3 : Hold G2 (upd H2 sa (.lst (iv [dg, mx, tn + 1]))) sa (iv [dg, mx, tn + 1]) := h2.put
    have gh3 : Ex G2 (upd H2 sa (.lst (iv [dg, mx, tn + 1]))) := h2.ex s2.gh
    show tSeq _ _ _ _ (upd H2 sa (.lst (iv [dg, mx, tn + 1])))
    refine s_asg (M := upd Z sa (.lst (iv [dg, mx, tn + 1]))) h3.one gh3 (ix (c := 2) rfl rfl (by show 2 < 3; decide)) fun v4 G4 H4 s4 d4 => ?_
    cases d4
    have e2 : ([dg, mx, tn + 1] : List Int).getD 2 0 = tn + 1 := rfl
    rw [e2]
    have h4 := h3.step s4
    have t4 := t2.trans (s4.rm h3.g (nn h3.h))
    have bt : 0 ≤ tn + 1 ∧ tn + 1 ≤ 1000000 := by omega
    generalize hT : tn + 1 = T at bt h4
    have vT : ∀ {σ : L2.St} {M G : Hp}, σ[4]? = some (some (.int T)) → Gd (tVar 4) σ M G (.int T) := fun h => gd_var h (.int _)
    refine s_asg (M := upd Z sa (.lst (iv [dg, mx, T]))) h4.one s4.gh (gd_I (C := fun _ j => 0 < j) (gd_int1 (gd_plus (gd_plus (gd_times (ix (c := 1) rfl rfl (by show 1 < 3; decide)) (gd_plus (gd_times gd_int (vT rfl) (cmul_l (by decide) (by decide))) gd_int) ?_) (gd_times (gd_times gd_int (vT rfl) (cmul_l (by decide) (by decide))) (vT rfl) ?_)) gd_int)) gd_int (by decide)) fun v5 G5 H5 s5 d5 => ?_
    · exact .inl ⟨by show -(2 ^ 64) < mx; omega, by show mx < 2 ^ 64; omega⟩
    · exact .inr ⟨by omega, by omega⟩
    cases d5
    have hm5 : ∀ a : Int, 0 ≤ a % 2305843009213693951 ∧ a % 2305843009213693951 < 2 ^ 61 := fun a => by
      have h1 := Int.emod_nonneg a (show (2305843009213693951 : Int) ≠ 0 by decide)
      have h2 := Int.emod_lt_of_pos a (show (0 : Int) < 2305843009213693951 by decide)
      omega
    have b5 := hm5 (([dg, mx, T] : List Int).getD 1 0 * (2 * T + 31) + 7919 * T * T + 17)
    generalize hX : (([dg, mx, T] : List Int).getD 1 0 * (2 * T + 31) + 7919 * T * T + 17) % 2305843009213693951 = X5 at b5
    have h5 := h4.step s5
    have t5 := t4.trans (s5.rm h4.g (nn h4.h))
    refine s_asg (M := Z) exZ s5.gh (gd_I (C := CDiv) (gd_I (C := fun _ j => 0 < j) (gd_int1 (gd_plus (gd_plus (gd_times (gd_var rfl (.int X5)) (gd_var rfl (.int X5)) ?_) (gd_times gd_int (gd_var rfl (.int X5)) (.inl ⟨by decide, by decide⟩))) (vT rfl))) gd_int (by decide)) gd_int ⟨by decide, by decide⟩) fun v6 G6 H6 s6 d6 => ?_
    · exact .inl ⟨by omega, by omega⟩
    cases d6
    have b6 : ∀ a : Int, 0 ≤ a % 2305843009213693951 / 1021 ∧ a % 2305843009213693951 / 1021 < 2 ^ 61 := fun a => by
      have := hm5 a
      omega
    have b6' := b6 (X5 * X5 + 104729 * X5 + T)
    generalize (X5 * X5 + 104729 * X5 + T) % 2305843009213693951 / 1021 = X6 at b6'
    have h6 := h5.step s6
    have t6 := t5.trans (s6.rm h5.g (nn h5.h))
    refine s_asg (M := Z) exZ s6.gh (gd_I (C := CDiv) (gd_I (C := fun _ j => 0 < j) (gd_int1 (gd_plus (gd_times (gd_var rfl (.int X6)) (gd_var rfl (.int X6)) ?_) (gd_times gd_int (vT rfl) (.inl ⟨by decide, by decide⟩)))) gd_int (by decide)) gd_int ⟨by decide, by decide⟩) fun v7 G7 H7 s7 d7 => ?_
    · exact .inl ⟨by omega, by omega⟩
    cases d7
    generalize (X6 * X6 + 611953 * T) % 1152921504606846883 / 4099 = X7
    have h7 := h6.step s7
    have t7 := t6.trans (s7.rm h6.g (nn h6.h))
    refine s_ret (M := Z) exZ s7.gh (gd_I (C := fun _ j => 0 < j) (gd_int1 (gd_var rfl (.int X7))) (gd_var rfl (.int (n : Int))) (show (0 : Int) < n by omega)) fun v8 G8 H8 s8 d8 => ?_
    have h8 := h7.step s8
    refine q _ v8 G8 H8 ?_ (t7.trans (s8.rm h7.g (nn h7.h))) ⟨dg, mx, T, h8.h, d0, m0, m1, by omega, by omega⟩ d8
    intro n' e
    have e' : n = n' := by
      injection e with e
      injection e with e
      omega
    subst e'
    have h1 := Int.emod_nonneg X7 (show (n : Int) ≠ 0 by omega)
    have h2 := Int.emod_lt_of_pos X7 (show (0 : Int) < n by omega)
    exact ⟨(X7 % n).toNat, by rw [Int.toNat_of_nonneg h1], by omega⟩
end
end Sg

/-! row, sized_row, drawn_sign -/
namespace Sg
open PySem PySem.Spec PyProof.Rows L2
open Evl (Ex)
theorem rgV_nv (n : Nat) : rgV 0 n = nv (List.range n) := by
  unfold rgV nv
  simp
theorem seqIx_nat {n r : Nat} (h : r < n) : seqIndex? (r : Int) n = some r := by
  unfold seqIndex?
  have h1 : ¬ (r : Int) < 0 := by omega
  simp only [h1, if_false]
  have h2 : (0 ≤ (r : Int) && (r : Int) < n) = true := by
    rw [Bool.and_eq_true, decide_eq_true_iff, decide_eq_true_iff]
    omega
  rw [if_pos (by simpa using h2)]
  simp
theorem perm_erase {L : List Nat} {r : Nat} (h : r < L.length) : (L.eraseIdx r ++ [L.getD r 0]).Perm L := by
  rw [List.eraseIdx_eq_take_drop_succ, List.append_assoc]
  have e : L = L.take r ++ ([L.getD r 0] ++ L.drop (r + 1)) := by
    rw [List.getD_eq_getElem?_getD, List.getElem?_eq_getElem h]
    have := List.drop_eq_getElem_cons h
    simp only [Option.getD_some, List.singleton_append]
    rw [← this, List.take_append_drop]
  conv => rhs; rw [e]
  exact (List.Perm.refl _).append List.perm_append_comm
theorem nv_erase (L : List Nat) (r : Nat) : (nv L).eraseIdx r = nv (L.eraseIdx r) := by
  unfold nv
  rw [List.eraseIdx_eq_take_drop_succ, List.eraseIdx_eq_take_drop_succ, List.map_append, List.map_take, List.map_drop]
section
variable {s p : Addr} {G0 H0 G H : Hp} {xs ys : List V}
theorem Hold.stpX (h : Hold G H p xs) (ne : p ≠ s) (t : Stp G0 (rm s H0) G (rm s H)) (n : H0 p = none) {o : HO} : Stp G0 (rm s H0) G (rm s (upd H p o)) := by
  rw [rm_upd ne]
  exact t.mut ((rm_ne ne).trans n) h.g
theorem Hold.knowX (h : Hold G H p xs) (ne : p ≠ s) (t : Stp G0 (rm s H0) G (rm s H)) (n : H0 p = none) : Stp G0 (rm s H0) (upd G p (.lst xs)) (rm s H) := t.know ((rm_ne ne).trans n) h.g ((rm_ne ne).trans h.h)
theorem ne_src {k : Nat} (hs : SrcAt H s k) (n : H p = none) : p ≠ s := by
  rintro rfl
  exact hs.nz n
theorem Hold.exX (h : Hold G H p xs) (ne : p ≠ s) (e : Ex G (rm s H)) {o : HO} : Ex G (rm s (upd H p o)) := by
  rw [rm_upd ne]
  exact e.mut h.g
end
def QRow (ds : List PyData) : Prop := ∃ n : Nat, n ≤ 100 ∧ ds = [.int n]
def PRow (ds : List PyData) (d : PyData) : Prop := ∀ n : Nat, ds = [.int n] → ∃ l : List Nat, l.Perm (List.range n) ∧ d = .tuple (l.map fun i : Nat => .int (i : Int))
theorem int_inj {n m : Nat} (h : [PyData.int (n : Int)] = [PyData.int (m : Int)]) : n = m := by
  injection h with h
  injection h with h
  omega
section
variable {P : Program} {w : World} {K : PySem.W.Frag} {mg : Str → Option Value} {base : Heap} {f : Addr} {fd : FuncData}
theorem scLawRow : FnScope ["_law_source_here", "_law_many", "_law_left", "_law_row_here", "_law_step"] ["_law_source_here", "_law_many"] (defScope sLawRow) := ⟨rfl, rfl, rfl, by decide +kernel, rfl, by decide +kernel, by decide +kernel⟩
theorem ok_law_row (D : Df K mg "_law_row" sLawRow ["_law_source_here", "_law_many"] f fd) (B : Bi mg) (c_law_draw : Has P w K mg base 1 "_law_draw" (Spx 1 QDraw PDraw)) : FnOk P w K mg base CX0 2 f fd ["_law_source_here", "_law_many"] (Spx 100 QRow PRow) := by
  refine D.F.ok scLawRow (Spx.len (n := 2) fun ds ⟨_, _, e⟩ => by rw [e]; rfl) (fun cdv A outer s H vs Q E hr h => ?_)
  obtain ⟨sa, us, G, ds, k, rfl, hG, hv, ⟨n, n2, rfl⟩, hs, q⟩ := h
  obtain ⟨v, rfl, hn⟩ := hv.one
  cases hn
  refine ⟨_, PSs.nox (pss_cons (ps_set (i := 2) scLawRow.nd rfl (.inl rfl) (pe_listRg rfl (by rfl) B.list (prg_1 (by rfl) B.range (pv 1)))) (pss_cons (ps_set (i := 3) scLawRow.nd rfl (.inl rfl) (pe_lst pa_nil)) (pss_cons (ps_for PassesOwn.never rfl (pi_range1 (by rfl) B.range (pa_cons (pv 1) pa_nil)) (pg_name (i := 4) scLawRow.nd rfl (.inl rfl)) (pss_one (ps_expr (pe_bm PySem.F.plainAttrs_list PySem.F.slot_list_append PySem.F.type_list_append mt_append (pv 3) (pa_cons (pe_bm PySem.F.plainAttrs_list PySem.F.slot_list_pop PySem.F.type_list_pop mt_popAt (pv 2) (pa_cons (pe_has c_law_draw hr (by decide) (by rfl) (pa_cons (pv 0) (pa_cons (pe_callB (call_lenK (K := K) rfl) (by rfl) B.len bb_len (pa_cons (pv 2) pa_nil)) pa_nil))) pa_nil)) pa_nil))))) (pss_one (ps_ret (pe_callTy (call_tupK (K := K) rfl) (by rfl) B.tuple bb_tuple (pa_cons (pv 3) pa_nil))))))), ?_⟩
  refine ⟨_, rfl, n, rfl, RgOk.of_le (by omega) (by omega) (by omega) (by omega), fun pl npl => ?_⟩
  rw [rgV_nv]
  refine ⟨Nat.zero_le _, fun pr npr => ?_⟩
  have nel := ne_src hs npl
  have hs1 := hs.ups (o := .lst (nv (List.range n))) nel
  have ner := ne_src hs1 npr
  have nlr : pl ≠ pr := by
    rintro rfl
    rw [upd_same] at npr
    cases npr
  have npr0 : H pr = none := (upd_ne (fun e => nlr e.symm)).symm.trans npr
  have t2 : Stp G (rm sa H) G (rm sa (upd (upd H pl (.lst (nv (List.range n)))) pr (.lst []))) := by
    rw [rm_upd ner, rm_upd nel]
    exact ((Stp.refl hG).new ((rm_ne nel).trans npl)).new (by rw [upd_ne (fun e => nlr e.symm)]; exact (rm_ne ner).trans npr0)
  have hl2 : Hold G (upd (upd H pl (.lst (nv (List.range n)))) pr (.lst [])) pl (nv (List.range n)) := ⟨fresh_of (exRm hG) npl, (upd_ne nlr).trans upd_same⟩
  have hr2 : Hold G (upd (upd H pl (.lst (nv (List.range n)))) pr (.lst [])) pr (nv []) := ⟨fresh_of (exRm hG) npr0, upd_same⟩
  refine s_for (n := n) (M := Z) (fun i σ G' H' => ∃ (L R : List Nat) (l4 : Option V), Stp G (rm sa H) G' (rm sa H') ∧ SrcAt H' sa (k + (n - i)) ∧ Hold G' H' pl (nv L) ∧ Hold G' H' pr (nv R) ∧ (L ++ R).Perm (List.range n) ∧ L.length = n - i ∧ σ = [some (.ref sa), some (.int (n : Int)), some (.ref pl), some (.ref pr), l4]) exZ (exRm t2.gh) (src_range1 (gd_var rfl (.int (n : Int))) (by omega))
    (fun G3 H3 s3 => ⟨List.range n, [], none, t2.trans (s3.rm (noRm t2.gh) (hs1.ups ner).nz), ((hs1.ups ner).ext s3.h).mono (by omega), hl2.step s3, hr2.step s3, by rw [List.append_nil], by rw [List.length_range]; omega, rfl⟩) ?_ ?_
  · rintro i σ' G3 H3 iv' G4 H4 hi g3 gh3 ⟨L, R, l4, t3, hs3, hl3, hr3, pm, ll, rfl⟩ s4 hiv
    have t4 := t3.trans (s4.rm (noRm t3.gh) hs3.nz)
    have hs4 := hs3.ext s4.h
    have hl4 := hl3.step s4
    have hr4 := hr3.step s4
    have e1 : k + (n - i) = (k + (n - (i + 1))) + 1 := by omega
    rw [e1] at hs4
    refine ⟨_, rfl, .inl ⟨rfl, _, SqL.of hr4.h⟩, _, rfl, .inl ⟨rfl, _, SqL.of hl4.h⟩, ?_⟩
    refine gx_draw (M := upd Z pl (.lst (nv L))) (n := L.length) rfl ((gd_lenH rfl upd_same).is (by rw [nv_len])) (by omega) (by omega) H4 _ hl4.one t4.gh hs4 _ fun d v G5 H5 hd t5 hs5 dx => ?_
    obtain ⟨r, rfl, hr⟩ := hd
    cases dx
    have hl5 := hl4.stepX nel t5
    have hr5 := hr4.stepX ner t5
    have t45 := t4.trans t5
    have lr := nv_len L
    refine ⟨pl, nv L, r, r, .int (L.getD r 0 : Nat), rfl, rfl, hl5.h, by omega, by omega, seqIx_nat (by rw [lr]; exact hr), ?_, ?_⟩
    · unfold nv
      rw [List.getElem?_map, getD_get (z := 0) hr]
      rfl
    rw [nv_erase]
    have hr6 := hr5.other (o := .lst (nv (L.eraseIdx r))) (fun e => nlr e.symm)
    have hl6 : Hold G5 (upd H5 pl (.lst (nv (L.eraseIdx r)))) pl _ := hl5.put
    have t6 := hl5.stpX nel t45 npl (o := .lst (nv (L.eraseIdx r)))
    have len := pm.length_eq
    rw [List.length_append, List.length_range] at len
    refine ⟨pr, nv R, .int (L.getD r 0 : Nat), rfl, rfl, hr6.h, szl (by rw [nv_len]; omega), ?_⟩
    rw [← nv_snoc]
    refine ⟨G5, s4.g.trans t5.g, exRm (hr6.exX ner t6.gh), L.eraseIdx r, R ++ [L.getD r 0], _, hr6.stpX ner t6 npr0, (hs5.ups nel).ups ner, hl6.other nlr, hr6.put, ?_, ?_, rfl⟩
    · refine List.Perm.trans ?_ pm
      have q := (perm_erase hr).append (List.Perm.refl R)
      refine List.Perm.trans ?_ q
      rw [List.append_assoc]
      exact (List.Perm.refl _).append List.perm_append_comm
    · rw [List.length_eraseIdx_of_lt hr]
      omega
  · rintro σ' G3 H3 g3 gh3 ⟨L, R, l4, t3, hs3, hl3, hr3, pm, ll, rfl⟩
    have L0 : L = [] := List.eq_nil_of_length_eq_zero (by omega)
    subst L0
    rw [List.nil_append] at pm
    have t4 := hr3.knowX ner t3 npr0
    have hs4 : SrcAt H3 sa k := hs3.mono (by omega)
    refine s_ret (M := Z) exZ (exRm t4.gh) (gd_tupleL (gd_var rfl (.lst upd_same (dxa_nv R)))) fun v G5 H5 s5 dv => ?_
    exact q _ v G5 H5 (fun n' e => ⟨R, by rw [← int_inj e]; exact pm, rfl⟩) (t4.trans (s5.rm (noRm t4.gh) hs4.nz)) (hs4.ext s5.h) dv
end
end Sg

/-! sized_row, drawn_sign, table -/
namespace Sg
open PySem PySem.Spec PyProof.Rows L2
open Evl (Ex)
def unInt : PyData → Int
  | .int i => i
  | _ => 0
theorem ints_un : ∀ {ds : List PyData}, (∀ d ∈ ds, ∃ z, d = .int z) → ds = (ds.map unInt).map PyData.int
  | [], _ => rfl
  | d :: ds, h => by
    obtain ⟨z, rfl⟩ := h d List.mem_cons_self
    have ih := ints_un (ds := ds) fun e he => h e (List.mem_cons_of_mem _ he)
    rw [List.map_cons, List.map_cons, ← ih]
    rfl
theorem un_getD {ds : List PyData} {i : Nat} (h : i < ds.length) : (ds.map unInt).getD i 0 = unInt (ds.getD i .none) := by
  rw [List.getD_eq_getElem?_getD, List.getElem?_map, List.getD_eq_getElem?_getD, List.getElem?_eq_getElem h] <;> rfl
/-- a row of sizes, told apart -/
structure Sized (n : Nat) (r : List Int) : Prop where
  len : r.length = n
  nz : ∀ i, i < n → r.getD i 0 ≠ 0
  far : ∀ i j, i < n → j < n → i ≠ j → (r.getD i 0).natAbs ≠ (r.getD j 0).natAbs
theorem Sized.keeps {W : Web} (ok : WebOk W) {r : List Int} (h : Sized W.length r) : Stands W (kept W fun x => r.getD x 0) := by
  refine ⟨fun x => r.getD x 0, rfl, fun t ht => ?_⟩
  obtain ⟨h1, h2, h3⟩ := mem_ties.mp ht
  have q := h.far t.1 t.2 (by omega) h2 (by omega)
  intro e'
  have e : r.getD t.1 0 - sg W t.1 t.2 * r.getD t.2 0 = 0 := e'
  rcases ok.ent t.1 t.2 with s | s | s
  · rw [s] at e
    omega
  · exact h3 s
  · rw [s] at e
    omega
def PSized (ds : List PyData) (d : PyData) : Prop := ∀ n : Nat, ds = [.int n] → ∃ r : List Int, Sized n r ∧ d = rowD r
def QSign (ds : List PyData) : Prop := ∃ m a b : Int, ds = [.int m, .int a, .int b]
def PSign (ds : List PyData) (d : PyData) : Prop := d = .int 1 ∨ d = .int (-1)
section
variable {P : Program} {w : World} {K : PySem.W.Frag} {mg : Str → Option Value} {base : Heap} {f : Addr} {fd : FuncData}
theorem gx_sgn {σ : L2.St} {s : Addr} {M G : Hp} {E : XK} {i : Nat} (nM : M s = none) (hi : σ[i]? = some (some (.ref s))) : Gx (tOp (rI0 fun i j => .int (i - j)) (tC (.int 1)) (tOp rTimes (tC (.int 2)) (tCall (Spx 1 QDraw PDraw) [] E (tCons (tVar i) (tCons (tC (.int 2)) tNil))))) σ s M G (fun d => d = .int 1 ∨ d = .int (-1)) 1 :=
  (gx_I0 (D1 := fun e => e = .int 1) (D2 := fun e => e = .int 0 ∨ e = .int 2) (D := fun d => d = .int 1 ∨ d = .int (-1)) nM (gx_of gd_int) (gx_times nM (gx_of gd_int) (gx_draw (n := 2) hi gd_int (by decide) (by decide)) fun d e h1 h2 => by
    subst h1
    obtain ⟨r, rfl, hr⟩ := h2
    refine ⟨2, r, rfl, rfl, cmul_l (by decide) (by decide), ?_⟩
    match r, hr with
    | 0, _ => exact .inl rfl
    | 1, _ => exact .inr rfl) fun d e h1 h2 => by
    subst h1
    rcases h2 with rfl | rfl
    · exact ⟨1, 0, rfl, rfl, .inl rfl⟩
    · exact ⟨1, 2, rfl, rfl, .inr rfl⟩).cost (by omega)
theorem scLawSizedRow : FnScope ["_law_source_here", "_law_many", "_law_size"] ["_law_source_here", "_law_many"] (defScope sLawSizedRow) := ⟨rfl, rfl, rfl, by decide +kernel, rfl, by decide +kernel, by decide +kernel⟩
theorem ok_law_sized_row (D : Df K mg "_law_sized_row" sLawSizedRow ["_law_source_here", "_law_many"] f fd) (B : Bi mg) (c_law_draw : Has P w K mg base 1 "_law_draw" (Spx 1 QDraw PDraw)) (c_law_row : Has P w K mg base 2 "_law_row" (Spx 100 QRow PRow)) : FnOk P w K mg base CX0 3 f fd ["_law_source_here", "_law_many"] (Spx 200 QRow PSized) := by
  refine D.F.ok scLawSizedRow (Spx.len (n := 2) fun ds ⟨_, _, e⟩ => by rw [e]; rfl) (fun cdv A outer s H vs Q E hr h => ?_)
  obtain ⟨sa, us, G, ds, k, rfl, hG, hv, ⟨n, n2, rfl⟩, hs, q⟩ := h
  obtain ⟨v, rfl, hn⟩ := hv.one
  cases hn
  refine ⟨_, PSs.nox (pss_one (ps_ret (pe_callTy (call_tupK (K := K) rfl) (by rfl) B.tuple bb_tuple (pa_cons (pe_lc (own := [("_law_size", 2)]) rfl scLawSizedRow.nd (pi_tupK (K := K) rfl (pe_has c_law_row hr (by decide) (by rfl) (pa_cons (pv 0) (pa_cons (pv 1) pa_nil)))) (blkOk_by (own := [("_law_size", 2)]) (N := ["_law_source_here", "_law_many", "_law_size"]) (sc := defScope sLawSizedRow) (by decide +kernel)) (fun _ _ _ _ _ => (pg_name (i := 2) scLawSizedRow.nd rfl (.inl rfl))) (fun _ _ _ _ _ => pts_nil) (fun _ _ _ _ _ => (pe_op op_times (pe_op op_sub pe_int (pe_op op_times pe_int (pe_has c_law_draw hr (by decide) (by rfl) (pa_cons (pv 0) (pa_cons pe_int pa_nil))))) (pe_op (op_plusK (K := K) rfl) (pv 2) pe_int)))) pa_nil)))), ?_⟩
  have rw1 := (gx_call (c := 100) (pre := QRow) (P := PRow) (E := E0) (σ := start ["_law_source_here", "_law_many", "_law_size"] [.ref sa, .int (n : Int)]) (s := sa) (M := Z) (G := G) (i := 0) rfl (gxa_of (ga_cons (gd_var (i := 1) rfl (.int (n : Int))) ga_nil)) fun ds e => ⟨n, n2, e⟩)
  have sx := srx_tup (K := K) (n := n) rw1 fun d ⟨ds, e, hz⟩ => by
    obtain ⟨l, pm, rfl⟩ := hz n e
    exact ⟨_, rfl, by rw [List.length_map, pm.length_eq, List.length_range]⟩
  have lc := gx_lc (c := 1) (te := tOp rTimes (tOp (rI0 fun i j => .int (i - j)) (tC (.int 1)) (tOp rTimes (tC (.int 2)) (tCall (Spx 1 QDraw PDraw) [] E0 (tCons (tVar 0) (tCons (tC (.int 2)) tNil))))) (tOp (rPlus K) (tVar 2) (tC (.int 1)))) (g := gName 2) (vs := [2])
    (fun it i d => ∀ z : Nat, it i = .int z → ∃ e : Int, (e = 1 ∨ e = -1) ∧ d = .int (e * (z + 1))) rfl sx (by omega) fun it ⟨ds, ⟨ds1, e1, hz⟩, eit⟩ i G1 x hi e2 hx => by
    obtain ⟨l, pm, e3⟩ := hz n e1
    injection e3 with e3
    subst e3
    have hl : i < l.length := by
      rw [pm.length_eq, List.length_range]
      exact hi
    have eat : it i = .int (l.getD i 0 : Nat) := by
      rw [eit]
      exact getD_map hl
    rw [eat] at hx
    have small : l.getD i 0 < n := List.mem_range.mp (pm.mem_iff.mp (getD_mem hl))
    refine ⟨_, tg_name, rfl, (gx_times rfl (gx_sgn rfl rfl) (gx_of (gd_plus (gd_var rfl hx) gd_int)) fun d e h1 h2 => ?_).cost (by omega)⟩
    subst h2
    have fin : ∀ e : Int, (e = 1 ∨ e = -1) → ∀ z : Nat, it i = .int z → ∃ e' : Int, (e' = 1 ∨ e' = -1) ∧ PyData.int (e * ((l.getD i 0 : Nat) + 1)) = .int (e' * (z + 1)) := fun e he z hz' => by
      rw [eat] at hz'
      injection hz' with hz'
      exact ⟨e, he, by rw [hz']⟩
    rcases h1 with rfl | rfl
    · exact ⟨1, _, rfl, rfl, cmul_l (by decide) (by decide), fin 1 (.inl rfl)⟩
    · exact ⟨-1, _, rfl, rfl, cmul_l (by decide) (by decide), fin (-1) (.inr rfl)⟩
  have all := gx_cb (D := fun d => ∃ r, Sized n r ∧ d = rowD r) (r := rTup1 K) (gxa_cons rfl lc gxa_nil) fun ds ⟨d, ds1, hd, e1, e2⟩ => by
    subst e1
    subst e2
    obtain ⟨it, es, ⟨ds2, ⟨ds3, e3, hz⟩, eit⟩, rfl, len, hde⟩ := hd
    obtain ⟨l, pm, e4⟩ := hz n e3
    injection e4 with e4
    subst e4
    have ll : l.length = n := by rw [pm.length_eq, List.length_range]
    have at1 : ∀ i, i < n → ∃ e : Int, (e = 1 ∨ e = -1) ∧ es.getD i .none = .int (e * ((l.getD i 0 : Nat) + 1)) := fun i hi => hde i hi (l.getD i 0) (by
      rw [eit]
      exact getD_map (by rw [ll]; exact hi))
    have hints : es = (es.map unInt).map PyData.int := ints_un fun d hd => by
      obtain ⟨i, hi, rfl⟩ := List.getElem_of_mem hd
      obtain ⟨e, _, he⟩ := at1 i (by omega)
      rw [List.getD_eq_getElem?_getD, List.getElem?_eq_getElem hi] at he
      exact ⟨_, he⟩
    have val : ∀ i, i < n → ((es.map unInt).getD i 0).natAbs = l.getD i 0 + 1 := fun i hi => by
      rw [un_getD (by omega)]
      obtain ⟨e, h1, he⟩ := at1 i hi
      rw [he]
      show (e * ((l.getD i 0 : Nat) + 1)).natAbs = _
      rcases h1 with rfl | rfl <;> omega
    refine ⟨rowD (es.map unInt), ⟨_, ⟨by rw [List.length_map]; exact len, fun i hi h0 => ?_, fun i j hi hj ne => ?_⟩, rfl⟩, fun vs G1 H1 hG1 hv1 Q1 q1 => ?_⟩
    · have := val i hi
      rw [h0] at this
      simp at this
    · rw [val i hi, val j hj]
      intro e
      have nd : l.Nodup := pm.nodup_iff.mpr List.nodup_range
      refine ne ((List.getElem_inj (h₀ := by omega) (h₁ := by omega) nd).mp ?_)
      have g1 : l.getD i 0 = l[i]'(by omega) := by
        rw [List.getD_eq_getElem?_getD, List.getElem?_eq_getElem (by omega)] <;> rfl
      have g2 : l.getD j 0 = l[j]'(by omega) := by
        rw [List.getD_eq_getElem?_getD, List.getElem?_eq_getElem (by omega)] <;> rfl
      rw [← g1, ← g2]
      omega
    · obtain ⟨u, rfl, d1⟩ := hv1.one
      obtain ⟨a, xs, rfl, ga, hx⟩ := d1.lst_of
      unfold rowD at q1
      rw [← hints] at q1
      exact ⟨a, xs, rfl, .inl ⟨SqL.of (hG1 _ _ ga), ret_tup hG1 hx q1⟩⟩
  refine sx_ret (k := k) (M := Z) exZ hG (hs.mono (by omega)) all fun d v' G1 H1 hd t1 hs1 dx => q d v' G1 H1 (fun n' e => ?_) t1 hs1 dx
  obtain ⟨r, h1, h2⟩ := hd
  rw [← int_inj e]
  exact ⟨r, h1, h2⟩
theorem scLawDrawnSign : FnScope ["_law_source_here", "_law_mode", "_law_one", "_law_other_here"] ["_law_source_here", "_law_mode", "_law_one", "_law_other_here"] (defScope sLawDrawnSign) := ⟨rfl, rfl, rfl, by decide +kernel, rfl, by decide +kernel, by decide +kernel⟩
theorem ok_law_drawn_sign (D : Df K mg "_law_drawn_sign" sLawDrawnSign ["_law_source_here", "_law_mode", "_law_one", "_law_other_here"] f fd) (B : Bi mg) (c_law_draw : Has P w K mg base 1 "_law_draw" (Spx 1 QDraw PDraw)) : FnOk P w K mg base CX0 2 f fd ["_law_source_here", "_law_mode", "_law_one", "_law_other_here"] (Spx 2 QSign PSign) := by
  refine D.F.ok scLawDrawnSign (Spx.len (n := 4) fun ds ⟨_, _, _, e⟩ => by rw [e]; rfl) (fun cdv A outer s H vs Q E hr h => ?_)
  obtain ⟨sa, us, G, ds, k, rfl, hG, hv, ⟨m, a, b, rfl⟩, hs, q⟩ := h
  obtain ⟨v1, v2, v3, rfl, h1, h2, h3⟩ := hv.three
  cases h1
  cases h2
  cases h3
  refine ⟨_, PSs.nox (pss_cons (ps_if (pt_cmpR (op_eqDK (K := K) rfl hr.units) (pv 1) pe_int (nomark _)) (pss_one (ps_ret pe_int)) pss_nil) (pss_cons (ps_if (pt_cmpR (op_eqDK (K := K) rfl hr.units) (pv 1) pe_int (nomark _)) (pss_one (ps_ret (pe_un un_neg pe_int))) pss_nil) (pss_cons (ps_if (PW.pt (pw_and (pt_cmpR op_gt (pv 1) pe_int (nomark _)) (pw_and1 (PW.pt (pw_or (pt_cmpR (op_eqDK (K := K) rfl hr.units) (pv 1) pe_int (nomark _)) (pw_or1 (pt_cmpR op_gt (pe_has c_law_draw hr (by decide) (by rfl) (pa_cons (pv 0) (pa_cons pe_int pa_nil))) pe_int (nomark _)))))))) (pss_one (ps_ret (pe_ifExp (pt_cmpR (op_eqDK (K := K) rfl hr.units) (pv 2) (pv 3) (nomark _)) pe_int (pe_un un_neg pe_int)))) pss_nil) (pss_one (ps_ret (pe_op op_sub pe_int (pe_op op_times pe_int (pe_has c_law_draw hr (by decide) (by rfl) (pa_cons (pv 0) (pa_cons pe_int pa_nil)))))))))), ?_⟩
  have hGH := exRm hG
  have fin : ∀ {d : PyData} {te : TE} {σ : L2.St} {G1 H1 : Hp} {c : Nat}, c ≤ 2 → (d = .int 1 ∨ d = .int (-1)) → Gd te σ Z G1 d → Stp G (rm sa H) G1 (rm sa H1) → SrcAt H1 sa (k + c) → tRet te { nx := fun _ H' => Q .non H', rt := Q } σ H1 := fun {d te σ G1 H1 c} hc hd h t hs1 =>
    s_ret (M := Z) exZ (exRm t.gh) h fun v G2 H2 s2 d2 => q d v G2 H2 hd (t.trans (s2.rm (noRm t.gh) hs1.nz)) ((hs1.ext s2.h).mono (by omega)) d2
  refine s_if (M := Z) exZ hGH (gt_test (gd_eq (gd_var rfl (.int m)) gd_int rfl rfl)) (fun _ G1 H1 s1 => fin (Nat.le_refl 2) (.inl rfl) gd_int (s1.rm (noRm hG) hs.nz) (hs.ext s1.h)) fun _ G1 H1 s1 => ?_
  have t1 := s1.rm (noRm hG) hs.nz
  have hs1 := hs.ext s1.h
  refine s_if (M := Z) exZ s1.gh (gt_test (gd_eq (gd_var rfl (.int m)) gd_int rfl rfl)) (fun _ G2 H2 s2 => fin (Nat.le_refl 2) (.inr rfl) (gd_neg gd_int) (t1.trans (s2.rm (noRm t1.gh) hs1.nz)) (hs1.ext s2.h)) fun _ G2 H2 s2 => ?_
  have t2 := t1.trans (s2.rm (noRm t1.gh) hs1.nz)
  have hs2 := hs1.ext s2.h
  refine sx_if (k := k + 1) (c := 1) (M := Z) exZ t2.gh hs2 ((gtx_and rfl (gtx_of (gt_test (gd_B0 (gd_var rfl (.int m)) gd_int))) (gtx_or rfl (gtx_of (gt_test (gd_eq (gd_var rfl (.int m)) gd_int rfl rfl))) (gtx_test (gx_B0 rfl (gx_draw (n := 5) rfl gd_int (by decide) (by decide)) (gx_of gd_int) fun d e h1 h2 => by
    obtain ⟨r, rfl, _⟩ := h1
    subst h2
    exact ⟨r, 0, rfl, rfl⟩)))).cost (by omega)) (fun G3 H3 t3 hs3 => ?_) fun G3 H3 t3 hs3 => ?_
  · have t23 := t2.trans t3
    by_cases e : a = b
    · exact fin (c := 1) (by decide) (.inl rfl) (gd_if (b := true) (gt_test ((gd_eq (gd_var rfl (.int a)) (gd_var rfl (.int b)) rfl rfl).is (by rw [eqv_ints, decide_eq_true e]))) (fun _ => gd_int) (fun z => nomatch z)) t23 hs3
    · exact fin (c := 1) (by decide) (.inr rfl) (gd_if (b := false) (gt_test ((gd_eq (gd_var rfl (.int a)) (gd_var rfl (.int b)) rfl rfl).is (by rw [eqv_ints, decide_eq_false e]))) (fun z => nomatch z) (fun _ => gd_neg gd_int)) t23 hs3
  · have t23 := t2.trans t3
    exact sx_ret (k := k) (c := 1) (M := Z) exZ t23.gh hs3 (gx_sgn rfl rfl) fun d v' G4 H4 hd t4 hs4 dx => q d v' G4 H4 hd (t23.trans t4) hs4 dx
end
end Sg

/-! the table of signs *-/
namespace Sg
open PySem PySem.Spec PyProof.Rows L2
open Evl (Ex)
abbrev Tab := List ((Nat × Nat) × Int)
def tkey (t : Nat × Nat) : List Key := [.inl (t.1 : Int), .inl (t.2 : Int)]
def tvs (g : Tab) : List (List Key × V) := g.map fun e => (tkey e.1, .int e.2)
def tabG (g : Tab) (t : Nat × Nat) : Option Int := (g.find? fun e => decide (e.1 = t)).map (·.2)
def putS (g : Tab) (t : Nat × Nat) (z : Int) : Tab := if (g.any fun e => decide (e.1 = t)) = true then g.map (fun e => if e.1 = t then (e.1, z) else e) else g ++ [(t, z)]
/-- signs of pairs of places -/
def TabP (n : Nat) (g : Tab) : Prop := ∀ e ∈ g, e.1.1 < e.1.2 ∧ e.1.2 < n ∧ (e.2 = 1 ∨ e.2 = -1)
theorem tkey_inj {t u : Nat × Nat} (h : tkey t = tkey u) : t = u := by
  unfold tkey at h
  injection h with h1 h2
  injection h2 with h2 _
  have e1 := Sum.inl.inj h1
  have e2 := Sum.inl.inj h2
  exact Prod.ext (by omega) (by omega)
theorem valV_tvs : ∀ (g : Tab) (t : Nat × Nat), valV (tvs g) (tkey t) = (tabG g t).map V.int
  | [], _ => rfl
  | e :: g, t => by
    have ih := valV_tvs g t
    by_cases h : e.1 = t
    · subst h
      have e1 : tabG (e :: g) e.1 = some e.2 := by
        unfold tabG
        rw [List.find?_cons, decide_eq_true rfl]
        rfl
      rw [e1]
      exact valV_pos (p := (tkey e.1, V.int e.2)) rfl
    · have e1 : tabG (e :: g) t = tabG g t := by
        unfold tabG
        rw [List.find?_cons, decide_eq_false h]
      rw [e1, ← ih]
      exact valV_neg (p := (tkey e.1, V.int e.2)) fun q => h (tkey_inj q)
theorem any_tvs (g : Tab) (t : Nat × Nat) : ((tvs g).any fun kv => decide (kv.1 = tkey t)) = g.any fun e => decide (e.1 = t) := by
  unfold tvs
  rw [List.any_map]
  congr 1
  funext e
  show decide (tkey e.1 = tkey t) = decide (e.1 = t)
  by_cases h : e.1 = t
  · rw [h, decide_eq_true rfl, decide_eq_true rfl]
  · rw [decide_eq_false h, decide_eq_false fun q => h (tkey_inj q)]
theorem putK_tvs (g : Tab) (t : Nat × Nat) (z : Int) : putK (tvs g) (tkey t) (.int z) = tvs (putS g t z) := by
  unfold putK putS
  rw [any_tvs]
  split
  · unfold tvs
    rw [List.map_map, List.map_map]
    refine List.map_congr_left fun e _ => ?_
    show (if tkey e.1 = tkey t then (tkey e.1, V.int z) else (tkey e.1, .int e.2)) = _
    by_cases h : e.1 = t
    · simp [h]
    · have : ¬ tkey e.1 = tkey t := fun q => h (tkey_inj q)
      simp [h, this]
  · unfold tvs
    rw [List.map_append]
    rfl
theorem tvs_len (g : Tab) : (tvs g).length = g.length := List.length_map ..
theorem TabP.put {n : Nat} {g : Tab} (h : TabP n g) {t : Nat × Nat} {z : Int} (h1 : t.1 < t.2) (h2 : t.2 < n) (hz : z = 1 ∨ z = -1) : TabP n (putS g t z) := fun e he => by
  unfold putS at he
  split at he
  · obtain ⟨e0, he0, rfl⟩ := List.mem_map.mp he
    obtain ⟨k1, k2, k3⟩ := h e0 he0
    by_cases q : e0.1 = t
    · rw [if_pos q]
      exact ⟨k1, k2, hz⟩
    · rw [if_neg q]
      exact ⟨k1, k2, k3⟩
  · rcases List.mem_append.mp he with he | he
    · exact h e he
    · rw [List.mem_singleton.mp he]
      exact ⟨h1, h2, hz⟩
theorem putS_len (g : Tab) (t : Nat × Nat) (z : Int) : (putS g t z).length ≤ g.length + 1 := by
  unfold putS
  split
  · rw [List.length_map]
    omega
  · rw [List.length_append, List.length_singleton]
    exact Nat.le_refl _
theorem tabG_some {g : Tab} {t : Nat × Nat} {z : Int} (h : tabG g t = some z) : (t, z) ∈ g := by
  unfold tabG at h
  obtain ⟨e, he, rfl⟩ := Option.map_eq_some_iff.mp h
  have h1 := List.mem_of_find?_eq_some he
  have h2 := List.find?_some he
  have h3 : e.1 = t := of_decide_eq_true h2
  rw [← h3]
  exact h1
/-- the web of a table -/
def tabV (g : Tab) (x y : Nat) : Int := (tabG g (min x y, max x y)).getD 0
def tabW (n : Nat) (g : Tab) : Web := (List.range n).map fun x => (List.range n).map fun y => tabV g x y
theorem tabW_sg {n : Nat} {g : Tab} (x y : Nat) : sg (tabW n g) x y = if x < n ∧ y < n then tabV g x y else 0 := by
  unfold sg tabW
  by_cases hx : x < n
  · have e1 : ((List.range n).map fun x => (List.range n).map fun y => tabV g x y).getD x [] = (List.range n).map fun y => tabV g x y := by
      rw [List.getD_eq_getElem?_getD, List.getElem?_map, List.getElem?_range hx]
      rfl
    rw [e1]
    by_cases hy : y < n
    · rw [if_pos ⟨hx, hy⟩, List.getD_eq_getElem?_getD, List.getElem?_map, List.getElem?_range hy]
      rfl
    · rw [if_neg (fun q => hy q.2), List.getD_eq_getElem?_getD, List.getElem?_eq_none (by rw [List.length_map, List.length_range]; omega)]
      rfl
  · have e1 : ((List.range n).map fun x => (List.range n).map fun y => tabV g x y).getD x [] = [] := by
      rw [List.getD_eq_getElem?_getD, List.getElem?_eq_none (by rw [List.length_map, List.length_range]; omega)]
      rfl
    rw [e1, if_neg (fun q => hx q.1)]
    rfl
theorem tabV_or {n : Nat} {g : Tab} (h : TabP n g) (x y : Nat) : tabV g x y = -1 ∨ tabV g x y = 0 ∨ tabV g x y = 1 := by
  unfold tabV
  cases q : tabG g (min x y, max x y) with
  | none => exact .inr (.inl rfl)
  | some z =>
    rcases (h _ (tabG_some q)).2.2 with e | e
    · exact .inr (.inr e)
    · exact .inl e
theorem tabW_ok {n : Nat} {g : Tab} (h : TabP n g) (h1 : 1 ≤ n) (h2 : n ≤ 10) : WebOk (tabW n g) where
  pos := by
    unfold tabW
    rw [List.length_map, List.length_range]
    exact h1
  le := by
    unfold tabW
    rw [List.length_map, List.length_range]
    exact h2
  rows := fun r hr => by
    unfold tabW at hr ⊢
    obtain ⟨x, _, rfl⟩ := List.mem_map.mp hr
    simp
  ent := fun x y => by
    rw [tabW_sg]
    split
    · exact tabV_or h x y
    · exact .inr (.inl rfl)
  sym := fun x y => by
    rw [tabW_sg, tabW_sg]
    unfold tabV
    rw [Nat.min_comm, Nat.max_comm]
    by_cases q : x < n ∧ y < n
    · rw [if_pos q, if_pos ⟨q.2, q.1⟩]
    · rw [if_neg q, if_neg (fun z => q ⟨z.2, z.1⟩)]
  diag := fun x => by
    rw [tabW_sg]
    split
    · unfold tabV
      cases q : tabG g (min x x, max x x) with
      | none => rfl
      | some z =>
        have := (h _ (tabG_some q)).1
        simp at this
    · rfl
theorem tabW_len (n : Nat) (g : Tab) : (tabW n g).length = n := by
  unfold tabW
  rw [List.length_map, List.length_range]
section
variable {K : PySem.W.Frag} {σ : L2.St} {M G H : Hp} {te ta tb : TE} {D : Ends} {tz : TS}
theorem gd_min {x y : Nat} (ha : Gd ta σ M G (.int x)) (hb : Gd tb σ M G (.int y)) : Gd (tCB (fun xs H Q => ∃ i j, xs = [V.int i, .int j] ∧ Q (.int (if j < i then j else i)) H) (tCons ta (tCons tb tNil))) σ M G (.int (min x y : Nat)) := gd_cb (ga_cons ha (ga_cons hb ga_nil)) fun vs G1 H _ hG hv Q q => by
  obtain ⟨u, v, rfl, d1, d2⟩ := hv.two
  cases d1
  cases d2
  refine ⟨x, y, rfl, ?_⟩
  have e : (if (y : Int) < x then (y : Int) else x) = ((min x y : Nat) : Int) := by
    split <;> omega
  rw [e]
  exact q.go hG (.int _)
theorem gd_max {x y : Nat} (ha : Gd ta σ M G (.int x)) (hb : Gd tb σ M G (.int y)) : Gd (tCB (fun xs H Q => ∃ i j, xs = [V.int i, .int j] ∧ Q (.int (if j > i then j else i)) H) (tCons ta (tCons tb tNil))) σ M G (.int (max x y : Nat)) := gd_cb (ga_cons ha (ga_cons hb ga_nil)) fun vs G1 H _ hG hv Q q => by
  obtain ⟨u, v, rfl, d1, d2⟩ := hv.two
  cases d1
  cases d2
  refine ⟨x, y, rfl, ?_⟩
  have e : (if (y : Int) > x then (y : Int) else x) = ((max x y : Nat) : Int) := by
    split <;> omega
  rw [e]
  exact q.go hG (.int _)
/-- d.get((x, y), 0) -/
theorem gd_tget {i : Nat} {p : Addr} {g : Tab} {t : Nat × Nat} (h : σ[i]? = some (some (.ref p))) (hp : M p = some (.dT (tvs g))) (ha : Gd ta σ M G (.int t.1)) (hb : Gd tb σ M G (.int t.2)) : Gd (tDGet2 (tVar i) (tTup (tCons ta (tCons tb tNil))) (tC (.int 0))) σ M G (.int ((tabG g t).getD 0)) := fun H hM hG Q q =>
  ⟨_, h, p, rfl, .inr ⟨_, .inl (hM _ _ hp)⟩, gd_tup (ga_cons ha (ga_cons hb ga_nil)) (by simp) H hM hG _ fun v G1 H1 s1 dv => by
    obtain ⟨b, xs, rfl, gb, hx⟩ := dv.tup_of
    obtain ⟨u, w, rfl, d1, d2⟩ := hx.two
    cases d1
    cases d2
    refine ⟨valV (tvs g) (tkey t), DGet.t (s1.h _ _ (hM _ _ hp)) (s1.gh _ _ gb), ?_⟩
    rw [valV_tvs]
    have e : ((tabG g t).map V.int).getD (.int 0) = .int ((tabG g t).getD 0) := by
      cases tabG g t <;> rfl
    rw [e]
    exact q _ G1 H1 s1 (.int _)⟩
end
/-- a table's promise -/
def SpTab : Sp := fun vs H Q _ => ∃ (n : Nat) (p : Addr) (g : Tab) (G : Hp), vs = [.int n, .ref p] ∧ Ex G H ∧ H p = some (.dT (tvs g)) ∧ TabP n g ∧ 1 ≤ n ∧ n ≤ 10 ∧ ∀ W, WebOk W → W.length = n → Ret G H (webD W) Q
section
variable {P : Program} {w : World} {K : PySem.W.Frag} {mg : Str → Option Value} {base : Heap} {f : Addr} {fd : FuncData}
theorem scLawTable : FnScope ["_law_many", "_law_signs", "_law_lines", "_law_x", "_law_y"] ["_law_many", "_law_signs"] (defScope sLawTable) := ⟨rfl, rfl, rfl, by decide +kernel, rfl, by decide +kernel, by decide +kernel⟩
theorem ok_law_table (D : Df K mg "_law_table" sLawTable ["_law_many", "_law_signs"] f fd) (B : Bi mg) : FnOk P w K mg base CX0 1 f fd ["_law_many", "_law_signs"] SpTab := by
  refine D.F.ok scLawTable (fun vs H Q E ⟨n, p, g, G, e, _⟩ => by rw [e]; rfl) (fun cdv A outer s H vs Q E hr h => ?_)
  obtain ⟨n, p, g, G, rfl, hG, hp, tp, n1, n2, q⟩ := h
  have hu := hu_of hr
  refine ⟨_, PSs.nox (pss_cons (ps_set (i := 2) scLawTable.nd rfl (.inl rfl) (pe_lst pa_nil)) (pss_cons (ps_for PassesOwn.never rfl (pi_range1 (by rfl) B.range (pa_cons (pv 0) pa_nil)) (pg_name (i := 3) scLawTable.nd rfl (.inr rfl)) (pss_one (ps_expr (pe_bm PySem.F.plainAttrs_list PySem.F.slot_list_append PySem.F.type_list_append mt_append (pv 2) (pa_cons (pe_callTy (call_tupK (K := K) rfl) (by rfl) B.tuple bb_tuple (pa_cons (pe_lc (own := [("_law_y", 4)]) rfl scLawTable.nd (pi_range1 (by rfl) B.range (pa_cons (pv 0) pa_nil)) (blkOk_by (own := [("_law_y", 4)]) (N := ["_law_many", "_law_signs", "_law_lines", "_law_x", "_law_y"]) (sc := defScope sLawTable) (by decide +kernel)) (fun _ _ _ _ _ => (pg_name (i := 4) scLawTable.nd rfl (.inl rfl))) (fun _ _ _ _ _ => pts_nil) (fun _ _ _ _ _ => (pe_dget2 hu (pv 1) (pe_tup (pa_cons (pe_callB (call_min2 rfl) (by rfl) B.min bb_min (pa_cons (pv 3) (pa_cons (pv 4) pa_nil))) (pa_cons (pe_callB (call_max2 rfl) (by rfl) B.max bb_max (pa_cons (pv 3) (pa_cons (pv 4) pa_nil))) pa_nil))) pe_int ⟨by rfl, by rfl, by rfl, by rfl⟩))) pa_nil)) pa_nil))))) (pss_one (ps_ret (pe_callTy (call_tupK (K := K) rfl) (by rfl) B.tuple bb_tuple (pa_cons (pv 2) pa_nil)))))), ?_⟩
  have mex : ∀ {H' : Hp}, Ex H H' → Ex (upd Z p (.dT (tvs g))) H' := fun {H'} e a u ha => by
    by_cases q : a = p
    · subst q
      rw [upd_same] at ha
      rw [← ha]
      exact e _ _ hp
    · rw [upd_ne q] at ha
      cases ha
  refine s_lst (M := Z) exZ hG ga_nil (by simp) fun pl us0 G1 H1 s1 npl ho du => ?_
  refine s_for (n := n) (M := Z) (fun i σ G' H' => ∃ us l3, Stp G H G' H' ∧ Hold G' H' pl us ∧ DxA G' us (((List.range i).map fun x => (List.range n).map fun y => tabV g x y).map rowD) ∧ us.length = i ∧ σ = [some (.int (n : Int)), some (.ref p), some (.ref pl), l3, none]) exZ s1.gh (src_range1 (gd_var rfl (.int (n : Int))) (by omega))
    (fun G2 H2 s2 => ⟨us0, none, s1.trans s2, ho.step s2, du.up s2.g, du.length, rfl⟩) ?_ ?_
  · rintro i σ' G2 H2 x G3 H3 hi g2 gh2 ⟨us, l3, s2, ho2, du2, lu, rfl⟩ s3 hx
    cases hx
    have s23 := s2.trans s3
    refine s_appE (M := upd Z p (.dT (tvs g))) (d := rowD ((List.range n).map fun y => tabV g i y)) (mex s23.h) s3.gh (ho2.step s3) rfl (by omega) ((gd_tupleL ((gd_lc (n := n) (fun _ => true) (fun y => .int (tabV g i y)) (src_range1 (gd_var rfl (.int (n : Int))) (by omega)) (by omega) fun y G4 v hy e4 hv => ⟨_, tg_name, rfl, gt_yes, fun _ => gd_tget (t := (min i y, max i y)) rfl upd_same (gd_min (gd_var rfl (.int (i : Int))) (gd_var rfl hv)) (gd_max (gd_var rfl (.int (i : Int))) (gd_var rfl hv))⟩).is ?_))) fun v G4 H4 s4 ho4 dv => ?_
    · congr 1
      unfold kept1
      rw [List.filter_eq_self.mpr (fun _ _ => rfl), List.map_map]
      rfl
    · refine ⟨G4, s3.g.trans s4.g, ho4.ex s4.gh, us ++ [v], _, ho4.stp (s23.trans s4) npl, ho4.put, ?_, by rw [List.length_append, lu]; rfl, rfl⟩
      rw [List.range_succ, List.map_append, List.map_append]
      exact (du2.up (s3.g.trans s4.g)).append (.cons dv .nil)
  · rintro σ' G2 H2 g2 gh2 ⟨us, l3, s2, ho2, du2, lu, rfl⟩
    have s3 := ho2.know s2 npl
    have q' := q (tabW n g) (tabW_ok tp n1 n2) (tabW_len n g)
    exact s_ret (M := Z) exZ s3.gh (gd_tupleL (gd_var rfl (.lst upd_same (du2.up ho2.up)))) (q'.from s3)
end
end Sg

/-! the webs that are drawn -/
namespace Sg
open PySem PySem.Spec PyProof.Rows L2
open Evl (Ex)
section
variable {K : PySem.W.Frag} {σ : L2.St} {s : Addr} {M G H : Hp} {te ta tb : TE} {tt : TT} {DE : Ends} {tz : TS} {c k : Nat} {D : PyData → Prop}
theorem set_same {i : Nat} {x : Option V} (h : σ[i]? = some x) : σ.set i x = σ := by
  refine List.ext_getElem? fun j => ?_
  by_cases e : i = j
  · subst e
    rw [List.getElem?_set_self (List.getElem?_eq_some_iff.mp h).1, h]
  · rw [List.getElem?_set_ne e]
def isBl (d : PyData) : Prop := ∃ b, d = .bool b
/-- if ..: x = a bool, where x holds one -/
theorem sx_setB {i : Nat} {b0 b : Bool} (nM : M s = none) (hM : Ex M H) (hG : Ex G (rm s H)) (hs : SrcAt H s (k + c)) (hi : σ[i]? = some (some (.bl b0))) (ht : Gt tt σ M G b) (h : Gx te σ s M G isBl c) (q : ∀ b G' H', Stp G (rm s H) G' (rm s H') → SrcAt H' s k → tz DE (σ.set i (some (.bl b))) H') :
    tSeq (tIfS tt (tAsg te (gName i)) tNext) tz DE σ H := s_if hM (exRm hG) ht (fun _ G1 H1 s1 => by
  have t1 := s1.rm (noRm hG) hs.nz
  exact (h.mono t1.g) H1 k (hM.trans s1.h) t1.gh (hs.ext s1.h) _ fun d v G2 H2 hd t2 hs2 dv => by
    obtain ⟨b, rfl⟩ := hd
    cases dv
    exact q b G2 H2 (t1.trans t2) hs2) fun _ G1 H1 s1 => by
  have t1 := s1.rm (noRm hG) hs.nz
  have := q b0 G1 H1 t1 ((hs.ext s1.h).mono (by omega))
  rw [set_same hi] at this
  exact this
/-- d[x, y] = a sign -/
theorem sx_tputE {i : Nat} {p : Addr} {g : Tab} {t : Nat × Nat} (nM : M s = none) (hM : Ex M H) (hG : Ex G (rm s H)) (hs : SrcAt H s (k + c)) (hp : HoldO G H p (.dT (tvs g))) (ne : p ≠ s) (hi : σ[i]? = some (some (.ref p))) (hl : g.length < 1000) (ha : Gd ta σ M G (.int t.1)) (hb : Gd tb σ M G (.int t.2))
    (hx : Gx te σ s M G (fun d => d = .int 1 ∨ d = .int (-1)) c) (q : ∀ z G' H', (z = 1 ∨ z = -1) → Stp G (rm s H) G' (rm s H') → SrcAt H' s k → HoldO G' H' p (.dT (tvs g)) → DE.nx σ (upd H' p (.dT (tvs (putS g t z))))) : sDPut (tVar i) (tTup (tCons ta (tCons tb tNil))) te DE σ H := hx H k hM hG hs _ fun d v G1 H1 hd t1 hs1 dv => by
  have h1 := hp.stepX ne t1
  refine ⟨_, hi, ?_⟩
  refine gd_tup (ga_cons (ha.mono t1.g) (ga_cons (hb.mono t1.g) ga_nil)) (by simp) H1 (readRm hM nM t1) (exRm t1.gh) _ fun w G2 H2 s2 dw => ?_
  obtain ⟨b, xs, rfl, gb, hx2⟩ := dw.tup_of
  obtain ⟨u1, u2, rfl, d1, d2⟩ := hx2.two
  cases d1
  cases d2
  have h2 := h1.step s2
  have t2 := t1.trans (s2.rm (noRm t1.gh) hs1.nz)
  have key : ∀ z : Int, (z = 1 ∨ z = -1) → v = .int z → ∃ a H4, V.ref p = .ref a ∧ DPut H2 a (.ref b) v H4 ∧ DE.nx σ H4 := fun z hz e => by
    subst e
    refine ⟨p, _, rfl, DPut.t (k := tkey t) h2.h (s2.gh _ _ gb) (szl (by rw [tvs_len]; omega)), ?_⟩
    rw [putK_tvs]
    exact q z G2 H2 hz t2 (hs1.ext s2.h) h2
  rcases hd with rfl | rfl
  · exact key 1 (.inl rfl) dv.int_of
  · exact key (-1) (.inr rfl) dv.int_of
theorem gx_bit {K : PySem.W.Frag} {i n m : Nat} {E : XK} (nM : M s = none) (hi : σ[i]? = some (some (.ref s))) (h : Gd te σ M G (.int n)) (h1 : 1 ≤ n) (h2 : n ≤ 1000) : Gx (tOp (rEqD K) (tCall (Spx 1 QDraw PDraw) [] E (tCons (tVar i) (tCons te tNil))) (tC (.int m))) σ s M G isBl 1 :=
  (gx_eq nM (gx_draw hi h h1 h2) (gx_of gd_int) fun d e h3 h4 => by
    obtain ⟨r, rfl, _⟩ := h3
    subst h4
    exact ⟨rfl, rfl⟩).cost (by omega)
theorem gx_gt {i n : Nat} {m : Int} {E : XK} (nM : M s = none) (hi : σ[i]? = some (some (.ref s))) (h : Gd te σ M G (.int n)) (h1 : 1 ≤ n) (h2 : n ≤ 1000) : Gx (tOp (rI0 fun i j => .bl (decide (j < i))) (tCall (Spx 1 QDraw PDraw) [] E (tCons (tVar i) (tCons te tNil))) (tC (.int m))) σ s M G isBl 1 :=
  (gx_B0 nM (gx_draw hi h h1 h2) (gx_of gd_int) fun d e h3 h4 => by
    obtain ⟨r, rfl, _⟩ := h3
    subst h4
    exact ⟨r, m, rfl, rfl⟩).cost (by omega)
theorem gx_blOf {b : Bool} (h : Gd te σ M G (.bool b)) : Gx te σ s M G isBl 0 := (gx_of h).imp fun d e => ⟨b, e⟩
end
def QWeb (ds : List PyData) : Prop := ∃ n : Nat, 1 ≤ n ∧ n ≤ 10 ∧ ds = [.int n]
def PWeb (ds : List PyData) (d : PyData) : Prop := ∃ W, WebOk W ∧ d = webD W
section
variable {P : Program} {w : World} {K : PySem.W.Frag} {mg : Str → Option Value} {base : Heap} {f : Addr} {fd : FuncData}
theorem scLawSomeWeb : FnScope ["_law_source_here", "_law_many", "_law_kind", "_law_mode", "_law_share", "_law_x", "_law_side", "_law_camp", "_law_row_here", "_law_signs", "_law_y", "_law_chosen"] ["_law_source_here", "_law_many"] (defScope sLawSomeWeb) := ⟨rfl, rfl, rfl, by decide +kernel, rfl, by decide +kernel, by decide +kernel⟩
theorem ok_law_some_web (D : Df K mg "_law_some_web" sLawSomeWeb ["_law_source_here", "_law_many"] f fd) (B : Bi mg) (c_law_draw : Has P w K mg base 1 "_law_draw" (Spx 1 QDraw PDraw)) (c_law_row : Has P w K mg base 2 "_law_row" (Spx 100 QRow PRow))
    (c_law_drawn_sign : Has P w K mg base 2 "_law_drawn_sign" (Spx 2 QSign PSign)) (c_law_table : Has P w K mg base 1 "_law_table" SpTab) : FnOk P w K mg base CX0 3 f fd ["_law_source_here", "_law_many"] (Spx 700 QWeb PWeb) := by
  refine D.F.ok scLawSomeWeb (Spx.len (n := 2) fun ds ⟨_, _, _, e⟩ => by rw [e]; rfl) (fun cdv A outer s H vs Q E hr h => ?_)
  obtain ⟨sa, us, G, ds, k, rfl, hG, hv, ⟨n, n1, n2, rfl⟩, hs, q⟩ := h
  obtain ⟨v, rfl, hn⟩ := hv.one
  cases hn
  have hu := hu_of hr
  refine ⟨_, PSs.nox (pss_cons (ps_par3 (i := 2) (j := 3) (l := 4) rfl scLawSomeWeb.nd rfl rfl rfl (by decide) (by decide) (by decide) rfl rfl rfl (pa_cons (pe_has c_law_draw hr (by decide) (by rfl) (pa_cons (pv 0) (pa_cons pe_int pa_nil))) (pa_cons (pe_has c_law_draw hr (by decide) (by rfl) (pa_cons (pv 0) (pa_cons pe_int pa_nil))) (pa_cons (pe_op (op_plusK (K := K) rfl) pe_int (pe_has c_law_draw hr (by decide) (by rfl) (pa_cons (pv 0) (pa_cons pe_int pa_nil)))) pa_nil))) (by rfl)) (pss_cons (ps_setLc (i := 6) (own := [("_law_x", 5)]) rfl scLawSomeWeb.nd rfl rfl (sw_true rfl rfl rfl (by decide +kernel)) (pi_range1 (by rfl) B.range (pa_cons (pv 1) pa_nil)) (blkOk_by (own := [("_law_x", 5)]) (N := ["_law_source_here", "_law_many", "_law_kind", "_law_mode", "_law_share", "_law_x", "_law_side", "_law_camp", "_law_row_here", "_law_signs", "_law_y", "_law_chosen"]) (sc := defScope sLawSomeWeb) (by decide +kernel)) (fun _ _ _ _ _ => (pg_name (i := 5) scLawSomeWeb.nd rfl (.inl rfl))) (fun _ _ _ _ _ => pts_nil) (fun _ _ _ _ _ => (pe_has c_law_draw hr (by decide) (by rfl) (pa_cons (pv 0) (pa_cons pe_int pa_nil))))) (pss_cons (ps_setLc (i := 7) (own := [("_law_x", 5)]) rfl scLawSomeWeb.nd rfl rfl (sw_true rfl rfl rfl (by decide +kernel)) (pi_range1 (by rfl) B.range (pa_cons (pv 1) pa_nil)) (blkOk_by (own := [("_law_x", 5)]) (N := ["_law_source_here", "_law_many", "_law_kind", "_law_mode", "_law_share", "_law_x", "_law_side", "_law_camp", "_law_row_here", "_law_signs", "_law_y", "_law_chosen"]) (sc := defScope sLawSomeWeb) (by decide +kernel)) (fun _ _ _ _ _ => (pg_name (i := 5) scLawSomeWeb.nd rfl (.inl rfl))) (fun _ _ _ _ _ => pts_nil) (fun _ _ _ _ _ => (pe_has c_law_draw hr (by decide) (by rfl) (pa_cons (pv 0) (pa_cons pe_int pa_nil))))) (pss_cons (ps_par (i := 8) (j := 9) rfl scLawSomeWeb.nd rfl rfl (by decide) rfl rfl (pa_cons (pe_has c_law_row hr (by decide) (by rfl) (pa_cons (pv 0) (pa_cons (pv 1) pa_nil))) (pa_cons pe_dnewT pa_nil)) (by rfl)) (pss_cons (ps_for PassesOwn.never rfl (pi_range1 (by rfl) B.range (pa_cons (pv 1) pa_nil)) (pg_name (i := 5) scLawSomeWeb.nd rfl (.inl rfl)) (pss_one (ps_for PassesOwn.never rfl (pi_range2 (by rfl) B.range (pa_cons (pe_op (op_plusK (K := K) rfl) (pv 5) pe_int) (pa_cons (pv 1) pa_nil))) (pg_name (i := 10) scLawSomeWeb.nd rfl (.inl rfl)) (pss_cons (ps_set (i := 11) scLawSomeWeb.nd rfl (.inl rfl) (pe_cmpR (op_eqDK (K := K) rfl hr.units) (pe_has c_law_draw hr (by decide) (by rfl) (pa_cons (pv 0) (pa_cons (pe_op (op_plusK (K := K) rfl) (pv 4) pe_int) pa_nil))) pe_int (nomark _))) (pss_cons (ps_if (PW.pt (pw_or (pt_cmpR (op_eqDK (K := K) rfl hr.units) (pv 2) pe_int (nomark _)) (pw_or1 (pt_cmpR (op_eqDK (K := K) rfl hr.units) (pv 2) pe_int (nomark _))))) (pss_one (ps_set (i := 11) scLawSomeWeb.nd rfl (.inl rfl) (pe_or (pe_cmpR (op_eqDK (K := K) rfl hr.units) (pv 10) (pe_op (op_plusK (K := K) rfl) (pv 5) pe_int) (nomark _)) (pe_one (pe_and (pe_cmpR (op_eqDK (K := K) rfl hr.units) (pv 2) pe_int (nomark _)) (pe_and (pe_cmpR (op_eqDK (K := K) rfl hr.units) (pv 5) pe_int (nomark _)) (pe_one (pe_cmpR (op_eqDK (K := K) rfl hr.units) (pv 10) (pe_op op_sub (pv 1) pe_int) (nomark _))))))))) pss_nil) (pss_cons (ps_if (pt_cmpR (op_eqDK (K := K) rfl hr.units) (pv 2) pe_int (nomark _)) (pss_one (ps_set (i := 11) scLawSomeWeb.nd rfl (.inl rfl) (pe_cmpR (op_eqDK (K := K) rfl hr.units) (pv 5) pe_int (nomark _)))) pss_nil) (pss_cons (ps_if (pt_cmpR (op_eqDK (K := K) rfl hr.units) (pv 2) pe_int (nomark _)) (pss_one (ps_set (i := 11) scLawSomeWeb.nd rfl (.inl rfl) pe_bl)) pss_nil) (pss_cons (ps_if (pt_cmpR (op_eqDK (K := K) rfl hr.units) (pv 2) pe_int (nomark _)) (pss_one (ps_set (i := 11) scLawSomeWeb.nd rfl (.inl rfl) (pe_and (pe_cmpR (op_neDK (K := K) rfl hr.units) (pe_ix (ix_twoK (K := K) rfl) (pv 6) (pv 5) (fun _ _ => rfl)) (pe_ix (ix_twoK (K := K) rfl) (pv 6) (pv 10) (fun _ _ => rfl)) (nomark _)) (pe_one (pe_cmpR op_gt (pe_has c_law_draw hr (by decide) (by rfl) (pa_cons (pv 0) (pa_cons pe_int pa_nil))) pe_int (nomark _)))))) pss_nil) (pss_cons (ps_if (pt_cmpR (op_eqDK (K := K) rfl hr.units) (pv 2) pe_int (nomark _)) (pss_one (ps_set (i := 11) scLawSomeWeb.nd rfl (.inl rfl) (pe_cmpR op_gt (pe_has c_law_draw hr (by decide) (by rfl) (pa_cons (pv 0) (pa_cons pe_int pa_nil))) pe_int (nomark _)))) pss_nil) (pss_one (ps_if (pt_val (pv 11)) (pss_one (ps_dput hu (pv 9) (pe_tup (pa_cons (pe_callB (call_min2 rfl) (by rfl) B.min bb_min (pa_cons (pe_ix (ix_twoK (K := K) rfl) (pv 8) (pv 5) (fun _ _ => rfl)) (pa_cons (pe_ix (ix_twoK (K := K) rfl) (pv 8) (pv 10) (fun _ _ => rfl)) pa_nil))) (pa_cons (pe_callB (call_max2 rfl) (by rfl) B.max bb_max (pa_cons (pe_ix (ix_twoK (K := K) rfl) (pv 8) (pv 5) (fun _ _ => rfl)) (pa_cons (pe_ix (ix_twoK (K := K) rfl) (pv 8) (pv 10) (fun _ _ => rfl)) pa_nil))) pa_nil))) (pe_has c_law_drawn_sign hr (by decide) (by rfl) (pa_cons (pv 0) (pa_cons (pv 3) (pa_cons (pe_ix (ix_twoK (K := K) rfl) (pv 7) (pv 5) (fun _ _ => rfl)) (pa_cons (pe_ix (ix_twoK (K := K) rfl) (pv 7) (pv 10) (fun _ _ => rfl)) pa_nil))))) rfl)) pss_nil))))))))))) (pss_one (ps_ret (pe_has c_law_table hr (by decide) (by rfl) (pa_cons (pv 1) (pa_cons (pv 9) pa_nil)))))))))), ?_⟩
  refine sx_par3 (k := k + 620) (c := 3) (M := Z) exZ hG (hs.mono (by omega)) ((gxa_cons rfl (gx_draw (n := 8) rfl gd_int (by decide) (by decide)) (gxa_cons rfl (gx_draw (n := 6) rfl gd_int (by decide) (by decide)) (gxa_cons rfl (gx_plus (D := fun d => ∃ sh : Nat, d = .int sh ∧ 1 ≤ sh ∧ sh ≤ 4) rfl (gx_of gd_int) (gx_draw (n := 4) rfl gd_int (by decide) (by decide)) fun d e h1 h2 => by
    subst h1
    obtain ⟨r, rfl, hr⟩ := h2
    exact ⟨1, r, rfl, rfl, r + 1, by congr 1; omega, by omega, by omega⟩) gxa_nil))).cost (by omega)) (fun l ⟨d, ds, _, ⟨e, es, _, ⟨z, zs, _, e4, e3⟩, e2⟩, e1⟩ => ⟨d, e, z, by rw [e1, e2, e3, e4]⟩) fun a b e va vb ve G1 H1 hd t1 hs1 da db de => ?_
  obtain ⟨d', ds', ⟨kd, hkd, _⟩, ⟨e', es', ⟨md, hmd, _⟩, ⟨z', zs', ⟨sh, hsh, sh1, sh4⟩, e4, e3⟩, e2⟩, e1⟩ := hd
  subst e4 e3 e2
  injection e1 with e1 e2
  injection e2 with e2 e3
  injection e3 with e3 _
  subst e1 e2 e3 hkd hmd hsh
  cases da
  cases db
  cases de
  refine sx_asg (k := k + 610) (c := 10) (M := Z) exZ t1.gh hs1 ((gx_lc (n := n) (c := 1) (fun it i d => isNat 2 d) rfl (srx_of (src_range1 (gd_var rfl (.int (n : Int))) (by omega))) (by omega) fun it _ i G2 x hi e2 hx => ⟨_, tg_name, rfl, gx_draw (n := 2) rfl gd_int (by decide) (by decide)⟩).cost (by omega)) fun d vs1 G2 H2 hd t2 hs2 dsd => ?_
  obtain ⟨_, sides, _, rfl, ls, hside⟩ := hd
  refine sx_asg (k := k + 600) (c := 10) (M := Z) exZ t2.gh hs2 ((gx_lc (n := n) (c := 1) (fun it i d => isNat 2 d) rfl (srx_of (src_range1 (gd_var rfl (.int (n : Int))) (by omega))) (by omega) fun it _ i G3 x hi e2 hx => ⟨_, tg_name, rfl, gx_draw (n := 2) rfl gd_int (by decide) (by decide)⟩).cost (by omega)) fun d vs2 G3 H3 hd t3 hs3 dcp => ?_
  obtain ⟨_, camps, _, rfl, lcp, hcamp⟩ := hd
  have t13 := (t1.trans t2).trans t3
  refine (gx_call (c := 100) (pre := QRow) (P := PRow) (E := E0) (s := sa) (M := Z) (G := G3) (i := 0) rfl (gxa_of (ga_cons (gd_var (i := 1) rfl (.int (n : Int))) ga_nil)) fun ds e => ⟨n, by omega, e⟩) H3 (k + 500) exZ t3.gh (hs3.mono (by omega)) _ fun d vr G4 H4 hd t4 hs4 drw => fun pd npd => ⟨_, _, rfl, ?_⟩
  obtain ⟨ds0, e0, hrow⟩ := hd
  obtain ⟨l, pm, rfl⟩ := hrow n e0
  have t14 := t13.trans t4
  have ned := ne_src hs4 npd
  have ll : l.length = n := by rw [pm.length_eq, List.length_range]
  have nd : l.Nodup := pm.nodup_iff.mpr List.nodup_range
  have npd0 : H pd = none := by
    have := fresh_of t14.h ((rm_ne ned).trans npd)
    rw [rm_ne ned] at this
    exact this
  have t5 : Stp G (rm sa H) G4 (rm sa (upd H4 pd (.dT []))) := by
    rw [rm_upd ned]
    exact t14.new ((rm_ne ned).trans npd)
  have hd5 : HoldO G4 (upd H4 pd (.dT [])) pd (.dT (tvs [])) := ⟨fresh_of (exRm t14.gh) npd, upd_same⟩
  have dsd4 := dsd.up (t3.g.trans t4.g)
  have dcp4 := dcp.up t4.g
  refine s_for (n := n) (M := Z) (fun i σ G' H' => ∃ (g : Tab) (x5 y10 ch : Option V), TabP n g ∧ g.length ≤ i * 10 ∧ Stp G (rm sa H) G' (rm sa H') ∧ SrcAt H' sa (k + (n - i) * 50) ∧ HoldO G' H' pd (.dT (tvs g)) ∧ σ = [some (.ref sa), some (.int (n : Int)), some (.int (kd : Int)), some (.int (md : Int)), some (.int (sh : Int)), x5, some vs1, some vs2, some vr, some (.ref pd), y10, ch]) exZ (exRm t5.gh)
    (src_range1 (gd_var rfl (.int (n : Int))) (by omega)) (fun G5 H5 s5 => ⟨[], none, none, none, (fun e he => nomatch he), Nat.zero_le _, t5.trans (s5.rm (noRm t5.gh) (hs4.ups ned).nz), ((hs4.ups ned).ext s5.h).mono (by omega), hd5.step s5, rfl⟩) ?_ ?_
  · rintro x σ' G5 H5 xv G6 H6 hx g5 gh5 ⟨g, x5, y10, ch, tp, lg, t5, hs5, hd5, rfl⟩ s6 hxv
    cases hxv
    have t6 := t5.trans (s6.rm (noRm t5.gh) hs5.nz)
    have hs6 := hs5.ext s6.h
    have e50 : k + (n - x) * 50 = (k + (n - (x + 1)) * 50) + 50 := by omega
    rw [e50] at hs6
    refine s_forE (n := n - (x + 1)) (M := Z) (fun j σ G' H' => ∃ (g : Tab) (y10 ch : Option V), TabP n g ∧ g.length ≤ x * 10 + j ∧ Stp G (rm sa H) G' (rm sa H') ∧ SrcAt H' sa ((k + (n - (x + 1)) * 50) + (n - (x + 1) - j) * 5) ∧ HoldO G' H' pd (.dT (tvs g)) ∧ σ = [some (.ref sa), some (.int (n : Int)), some (.int (kd : Int)), some (.int (md : Int)), some (.int (sh : Int)), some (.int (x : Int)), some vs1, some vs2, some vr, some (.ref pd), y10, ch]) exZ (exRm t6.gh)
      (src_eq (src_range2 (gd_plus (gd_var rfl (.int (x : Int))) gd_int) (gd_var rfl (.int (n : Int))) (by omega)) (by omega) (fun _ _ => rfl)) (fun G7 H7 s7 => ⟨g, y10, ch, tp, lg, t6.trans (s7.rm (noRm t6.gh) hs6.nz), (hs6.ext s7.h).mono (by omega), hd5.step (s6.trans s7), rfl⟩) ?_ ?_
    · rintro j σ' G7 H7 yv G8 H8 hj g7 gh7 ⟨g, y10, ch, tp, lg, t7, hs7, hd7, rfl⟩ s8 hyv
      have ey : ((x : Int) + 1) + (j : Int) = ((x + 1 + j : Nat) : Int) := by omega
      rw [ey] at hyv
      cases hyv
      have hy : x + 1 + j < n := by omega
      generalize hyx : x + 1 + j = y at hy
      have t8 := t7.trans (s8.rm (noRm t7.gh) hs7.nz)
      have hs8 := hs7.ext s8.h
      have hd8 := hd7.step s8
      have e5 : (k + (n - (x + 1)) * 50) + (n - (x + 1) - j) * 5 = ((k + (n - (x + 1)) * 50) + (n - (x + 1) - (j + 1)) * 5) + 5 := by omega
      rw [e5] at hs8
      generalize (k + (n - (x + 1)) * 50) + (n - (x + 1) - (j + 1)) * 5 = kk at hs8
      have g48 : Ex G4 G8 := (g5.trans s6.g).trans (g7.trans s8.g)
      have at6 : ∀ z, z < n → sides[z]? = some (sides.getD z .none) := fun z hz => getD_get (by omega)
      have at7 : ∀ z, z < n → camps[z]? = some (camps.getD z .none) := fun z hz => getD_get (by omega)
      refine sx_asg (k := kk + 4) (c := 1) (M := Z) exZ t8.gh hs8 (gx_bit (n := sh + 1) (m := 0) rfl rfl ((gd_plus (gd_var rfl (.int (sh : Int))) gd_int).is (by rw [Int.natCast_add]; rfl)) (by omega) (by omega)) fun d v11 G9 H9 hdb t9 hs9 d11 => ?_
      obtain ⟨b, rfl⟩ := hdb
      cases d11
      have t19 := t8.trans t9
      have hd9 := hd8.stepX ned t9
      refine sx_setB (k := kk + 4) (c := 0) (M := Z) (i := 11) rfl exZ t9.gh hs9 rfl (gt_or (gt_test (gd_eq (gd_var rfl (.int (kd : Int))) gd_int rfl rfl)) fun _ => gt_test (gd_eq (gd_var rfl (.int (kd : Int))) gd_int rfl rfl)) (gx_blOf (gd_or (gd_eq (gd_var rfl (.int (y : Int))) (gd_plus (gd_var rfl (.int (x : Int))) gd_int) rfl rfl) fun _ => gd_and (gd_eq (gd_var rfl (.int (kd : Int))) gd_int rfl rfl) fun _ => gd_and (gd_eq (gd_var rfl (.int (x : Int))) gd_int rfl rfl) fun _ => gd_eq (gd_var rfl (.int (y : Int))) (gd_I0 (gd_var rfl (.int (n : Int))) gd_int) rfl rfl)) fun b G10 H10 t10 hs10 => ?_
      have t20 := t19.trans t10
      have hd10 := hd9.stepX ned t10
      refine sx_setB (k := kk + 4) (c := 0) (M := Z) (i := 11) rfl exZ t10.gh hs10 rfl (gt_test (gd_eq (gd_var rfl (.int (kd : Int))) gd_int rfl rfl)) (gx_blOf (gd_eq (gd_var rfl (.int (x : Int))) gd_int rfl rfl)) fun b G11 H11 t11 hs11 => ?_
      have t21 := t20.trans t11
      have hd11 := hd10.stepX ned t11
      refine sx_setB (k := kk + 4) (c := 0) (M := Z) (i := 11) rfl exZ t11.gh hs11 rfl (gt_test (gd_eq (gd_var rfl (.int (kd : Int))) gd_int rfl rfl)) (gx_blOf gd_bl) fun b G12 H12 t12 hs12 => ?_
      have t22 := t21.trans t12
      have hd12 := hd11.stepX ned t12
      have g412 : Ex G4 G12 := g48.trans (((t9.g.trans t10.g).trans t11.g).trans t12.g)
      have sh1 := hside x hx
      have sh2 := hside y hy
      obtain ⟨s1, hs1e, _⟩ := sh1
      obtain ⟨s2, hs2e, _⟩ := sh2
      refine sx_setB (k := kk + 3) (c := 1) (M := Z) (i := 11) rfl exZ t12.gh hs12 rfl (gt_test (gd_eq (gd_var rfl (.int (kd : Int))) gd_int rfl rfl)) ((gx_and rfl (gx_blOf (gd_ne (gd_ixL (gd_var rfl (dsd4.up g412)) (gd_var rfl (.int (x : Int))) (atI_nat (at6 x hx))) (gd_ixL (gd_var rfl (dsd4.up g412)) (gd_var rfl (.int (y : Int))) (atI_nat (at6 y hy))) (by rw [hs1e]; rfl) (by rw [hs2e]; rfl))) (gx_gt rfl rfl gd_int (by decide) (by decide) (n := 4))).cost (by omega)) fun b G13 H13 t13' hs13 => ?_
      have t23 := t22.trans t13'
      have hd13 := hd12.stepX ned t13'
      refine sx_setB (k := kk + 2) (c := 1) (M := Z) (i := 11) rfl exZ t13'.gh hs13 rfl (gt_test (gd_eq (gd_var rfl (.int (kd : Int))) gd_int rfl rfl)) (gx_gt rfl rfl gd_int (by decide) (by decide) (n := 4)) fun b G14 H14 t14' hs14 => ?_
      have t24 := t23.trans t14'
      have hd14 := hd13.stepX ned t14'
      have g414 : Ex G4 G14 := g412.trans (t13'.g.trans t14'.g)
      refine s_ifE (M := Z) exZ (exRm t14'.gh) (gt_B (gd_var rfl (.bl b))) (fun _ G15 H15 s15 => ?_) (fun _ G15 H15 s15 => ?_)
      · have t25 := t24.trans (s15.rm (noRm t24.gh) hs14.nz)
        have hs15 := hs14.ext s15.h
        have hd15 := hd14.step s15
        have g415 := g414.trans s15.g
        have drw15 := drw.up g415
        have lx : l[x]? = some (l.getD x 0) := getD_get (by omega)
        have ly : l[y]? = some (l.getD y 0) := getD_get (by omega)
        have nlt : l.getD x 0 ≠ l.getD y 0 := fun e => by
          have h1 : l[x]'(by omega) = l[y]'(by omega) := by
            have e1 := List.getElem?_eq_getElem (l := l) (i := x) (by omega)
            have e2 := List.getElem?_eq_getElem (l := l) (i := y) (by omega)
            rw [lx] at e1
            rw [ly] at e2
            rw [← Option.some.inj e1, ← Option.some.inj e2, e]
          have := (List.getElem_inj (h₀ := by omega) (h₁ := by omega) nd).mp h1
          omega
        have b1 : l.getD x 0 < n := List.mem_range.mp (pm.mem_iff.mp (getD_mem (by omega)))
        have b2 : l.getD y 0 < n := List.mem_range.mp (pm.mem_iff.mp (getD_mem (by omega)))
        obtain ⟨c1, hc1e, _⟩ := hcamp x hx
        obtain ⟨c2, hc2e, _⟩ := hcamp y hy
        have rx : ∀ {σ : L2.St}, σ[8]? = some (some vr) → ∀ {i : Nat} {z : Nat}, σ[i]? = some (some (.int (z : Int))) → ∀ {w : Nat}, l[z]? = some w → Gd (tOp (rIx2 K) (tVar 8) (tVar i)) σ Z G15 (.int (w : Nat)) := fun {σ} h8 {i} {z} h {w} hw => gd_ixT (gd_var h8 drw15) (gd_var h (.int (z : Int))) (atI_map hw)
        generalize l.getD x 0 = u at lx nlt b1
        generalize l.getD y 0 = u' at ly nlt b2
        refine sx_tputE (k := kk) (c := 2) (t := (min u u', max u u')) (M := Z) rfl exZ t25.gh hs15 hd15 ned rfl (by omega) (gd_min (rx rfl rfl lx) (rx rfl rfl ly)) (gd_max (rx rfl rfl lx) (rx rfl rfl ly)) (((gx_call (c := 2) (pre := QSign) (P := PSign) (E := E0) (i := 0) rfl (gxa_of (ga_cons (gd_var rfl (.int (md : Int))) (ga_cons (gd_ixL (gd_var rfl (dcp4.up g415)) (gd_var rfl (.int (x : Int))) (atI_nat (at7 x hx))) (ga_cons (gd_ixL (gd_var rfl (dcp4.up g415)) (gd_var rfl (.int (y : Int))) (atI_nat (at7 y hy))) ga_nil)))) fun ds e => ⟨md, c1, c2, by rw [e, hc1e, hc2e]⟩).cost (by omega)).imp fun d ⟨_, _, h⟩ => h) fun z G16 H16 hz t16 hs16 hd16 => ?_
        have t26 := t25.trans t16
        refine ⟨G16, ((s8.g.trans (((t9.g.trans t10.g).trans t11.g).trans t12.g)).trans (t13'.g.trans t14'.g)).trans (s15.g.trans t16.g), (exRm t16.gh).mut hd16.g, putS g (min u u', max u u') z, _, _, tp.put (by show min u u' < max u u'; omega) (by show max u u' < n; omega) hz, by have := putS_len g (min u u', max u u') z; omega, ?_, hs16.ups ned, ⟨hd16.g, upd_same⟩, rfl⟩
        rw [rm_upd ned]
        exact t26.mut ((rm_ne ned).trans npd0) hd16.g
      · have t25 := t24.trans (s15.rm (noRm t24.gh) hs14.nz)
        exact ⟨G15, ((s8.g.trans (((t9.g.trans t10.g).trans t11.g).trans t12.g)).trans (t13'.g.trans t14'.g)).trans s15.g, s15.gh, g, _, _, tp, by omega, t25, (hs14.ext s15.h).mono (by omega), hd14.step s15, rfl⟩
    · rintro σ' G7 H7 g7 gh7 ⟨g, y10, ch, tp, lg, t7, hs7, hd7, rfl⟩
      exact ⟨G7, s6.g.trans g7, gh7, g, _, _, _, tp, by omega, t7, hs7.mono (by omega), hd7, rfl⟩
  · rintro σ' G5 H5 g5 gh5 ⟨g, x5, y10, ch, tp, lg, t5, hs5, hd5, rfl⟩
    refine ⟨_, rfl, _, rfl, n, pd, g, G5, rfl, exRm t5.gh, hd5.h, tp, n1, n2, fun W ok lw v G6 H6 s6 dv => ?_⟩
    exact q _ v G6 H6 ⟨W, ok, rfl⟩ (t5.trans (s6.rm (noRm t5.gh) hs5.nz)) ((hs5.ext s6.h).mono (by omega)) dv
end
end Sg

/-! web, thin_web -/
namespace Sg
open PySem PySem.Spec PyProof.Rows L2
open Evl (Ex)
def QWeb5 (ds : List PyData) : Prop := ds = [.int 5]
def QThin (ds : List PyData) : Prop := ∃ few top most : Nat, 1 ≤ few ∧ few ≤ top ∧ top ≤ 10 ∧ ds = [.int few, .int top, .int most]
section
variable {K : PySem.W.Frag} {σ : L2.St} {M G H : Hp} {te ta tb : TE}
theorem gd_lenD {i : Nat} {p : Addr} {g : Tab} (h : σ[i]? = some (some (.ref p))) (hp : M p = some (.dT (tvs g))) : Gd (tCB rLenT (tCons (tVar i) tNil)) σ M G (.int g.length) := fun H hM hG Q q =>
  ⟨_, h, p, tvs g, rfl, hM _ _ hp, by rw [tvs_len]; exact q _ G H (Stp.refl hG) (.int _)⟩
/-- (x, y) not in d: some bool -/
theorem gt_tnotin {i : Nat} {p : Addr} {g : Tab} {t : Nat × Nat} (h : σ[i]? = some (some (.ref p))) (hp : M p = some (.dT (tvs g))) (ha : Gd ta σ M G (.int t.1)) (hb : Gd tb σ M G (.int t.2)) : Gt (tB (tDNotIn (tTup (tCons ta (tCons tb tNil))) (tVar i))) σ M G (!(tabG g t).isSome) := fun H hM hG Q q => by
  show tTup (tCons ta (tCons tb tNil)) σ H (fun y H1 => tVar i σ H1 fun x H2 => ∃ a o, x = V.ref a ∧ DGet H2 a y o ∧ ∃ c, V.bl (!o.isSome) = V.bl c ∧ Q c H2)
  exact gd_tup (ga_cons ha (ga_cons hb ga_nil)) (by simp) H hM hG _ fun v G1 H1 s1 dv => by
    obtain ⟨b, xs, rfl, gb, hx⟩ := dv.tup_of
    obtain ⟨u, w, rfl, d1, d2⟩ := hx.two
    cases d1
    cases d2
    refine ⟨_, h, p, valV (tvs g) (tkey t), rfl, DGet.t (s1.h _ _ (hM _ _ hp)) (s1.gh _ _ gb), _, rfl, ?_⟩
    rw [valV_tvs]
    have e : (!((tabG g t).map V.int).isSome) = !(tabG g t).isSome := by
      cases tabG g t <;> rfl
    rw [e]
    exact q G1 H1 s1
end
section
variable {P : Program} {w : World} {K : PySem.W.Frag} {mg : Str → Option Value} {base : Heap} {f : Addr} {fd : FuncData}
theorem scLawWeb : FnScope ["_law_source_here", "_law_most"] ["_law_source_here", "_law_most"] (defScope sLawWeb) := ⟨rfl, rfl, rfl, by decide +kernel, rfl, by decide +kernel, by decide +kernel⟩
theorem ok_law_web (D : Df K mg "_law_web" sLawWeb ["_law_source_here", "_law_most"] f fd) (B : Bi mg) (c_law_draw : Has P w K mg base 1 "_law_draw" (Spx 1 QDraw PDraw)) (c_law_some_web : Has P w K mg base 3 "_law_some_web" (Spx 700 QWeb PWeb)) :
    FnOk P w K mg base CX0 4 f fd ["_law_source_here", "_law_most"] (Spx 701 QWeb5 PWeb) := by
  refine D.F.ok scLawWeb (Spx.len (n := 2) fun ds e => by unfold QWeb5 at e; rw [e]; rfl) (fun cdv A outer s H vs Q E hr h => ?_)
  obtain ⟨sa, us, G, ds, k, rfl, hG, hv, e, hs, q⟩ := h
  unfold QWeb5 at e
  subst e
  obtain ⟨v, rfl, hn⟩ := hv.one
  cases hn
  refine ⟨_, PSs.nox (pss_one (ps_ret (pe_has c_law_some_web hr (by decide) (by rfl) (pa_cons (pv 0) (pa_cons (pe_op (op_plusK (K := K) rfl) pe_int (pe_has c_law_draw hr (by decide) (by rfl) (pa_cons (pv 0) (pa_cons (pv 1) pa_nil)))) pa_nil))))), ?_⟩
  refine sx_ret (k := k) (c := 701) (M := Z) exZ hG hs ((gx_call (c := 700) (pre := QWeb) (P := PWeb) (E := E0) (i := 0) rfl (gxa_cons rfl (gx_plus (D := fun d => ∃ n : Nat, d = .int n ∧ 1 ≤ n ∧ n ≤ 10) rfl (gx_of gd_int) (gx_draw (n := 5) (i := 0) rfl (gd_var (i := 1) rfl (.int 5)) (by decide) (by decide)) fun d e h1 h2 => by
    subst h1
    obtain ⟨r, rfl, hr⟩ := h2
    exact ⟨1, r, rfl, rfl, r + 1, by congr 1; omega, by omega, by omega⟩) gxa_nil) fun ds ⟨d, es, ⟨n, e1, n1, n2⟩, e2, e3⟩ => ⟨n, n1, n2, by rw [e3, e2, e1]⟩).cost (by omega)) fun d v' G1 H1 ⟨ds, _, W, ok, e⟩ t1 hs1 dx => q d v' G1 H1 ⟨W, ok, e⟩ t1 hs1 dx
theorem scLawThinWeb : FnScope ["_law_source_here", "_law_few", "_law_top", "_law_most", "_law_many", "_law_signs", "_law_y", "_law_x", "_law_step"] ["_law_source_here", "_law_few", "_law_top", "_law_most"] (defScope sLawThinWeb) := ⟨rfl, rfl, rfl, by decide +kernel, rfl, by decide +kernel, by decide +kernel⟩
theorem ok_law_thin_web (D : Df K mg "_law_thin_web" sLawThinWeb ["_law_source_here", "_law_few", "_law_top", "_law_most"] f fd) (B : Bi mg) (c_law_draw : Has P w K mg base 1 "_law_draw" (Spx 1 QDraw PDraw)) (c_law_table : Has P w K mg base 1 "_law_table" SpTab) :
    FnOk P w K mg base CX0 2 f fd ["_law_source_here", "_law_few", "_law_top", "_law_most"] (Spx 100 QThin PWeb) := by
  refine D.F.ok scLawThinWeb (Spx.len (n := 4) fun ds ⟨_, _, _, _, _, _, e⟩ => by rw [e]; rfl) (fun cdv A outer s H vs Q E hr h => ?_)
  obtain ⟨sa, us, G, ds, k, rfl, hG, hv, ⟨few, top, most, f1, f2, f3, rfl⟩, hs, q⟩ := h
  obtain ⟨v1, v2, v3, rfl, d1, d2, d3⟩ := hv.three
  cases d1
  cases d2
  cases d3
  have hu := hu_of hr
  refine ⟨_, PSs.nox (pss_cons (ps_set (i := 4) scLawThinWeb.nd rfl (.inl rfl) (pe_op (op_plusK (K := K) rfl) (pv 1) (pe_has c_law_draw hr (by decide) (by rfl) (pa_cons (pv 0) (pa_cons (pe_op op_sub (pe_op (op_plusK (K := K) rfl) (pv 2) pe_int) (pv 1)) pa_nil))))) (pss_cons (ps_set (i := 5) scLawThinWeb.nd rfl (.inl rfl) pe_dnewT) (pss_cons (ps_for PassesOwn.never rfl (pi_range2 (by rfl) B.range (pa_cons pe_int (pa_cons (pv 4) pa_nil))) (pg_name (i := 6) scLawThinWeb.nd rfl (.inl rfl)) (pss_cons (ps_set (i := 7) scLawThinWeb.nd rfl (.inl rfl) (pe_ifExp (pt_cmpR (op_eqDK (K := K) rfl hr.units) (pe_has c_law_draw hr (by decide) (by rfl) (pa_cons (pv 0) (pa_cons pe_int pa_nil))) pe_int (nomark _)) (pe_has c_law_draw hr (by decide) (by rfl) (pa_cons (pv 0) (pa_cons (pv 6) pa_nil))) (pe_op op_sub (pv 6) pe_int))) (pss_one (ps_if (PW.pt (pw_and (pt_cmpR op_lt (pe_callB call_len_dT (by rfl) B.len bb_len (pa_cons (pv 5) pa_nil)) (pv 3) (nomark _)) (pw_and1 (pt_cmpR op_gt (pe_has c_law_draw hr (by decide) (by rfl) (pa_cons (pv 0) (pa_cons pe_int pa_nil))) pe_int (nomark _))))) (pss_one (ps_dput hu (pv 5) (pe_tup (pa_cons (pv 7) (pa_cons (pv 6) pa_nil))) (pe_op op_sub pe_int (pe_op op_times pe_int (pe_has c_law_draw hr (by decide) (by rfl) (pa_cons (pv 0) (pa_cons pe_int pa_nil))))) rfl)) pss_nil)))) (pss_cons (ps_for PassesOwn.never rfl (pi_range1 (by rfl) B.range (pa_cons pe_int pa_nil)) (pg_name (i := 8) scLawThinWeb.nd rfl (.inl rfl)) (pss_cons (ps_par (i := 7) (j := 6) rfl scLawThinWeb.nd rfl rfl (by decide) rfl rfl (pa_cons (pe_has c_law_draw hr (by decide) (by rfl) (pa_cons (pv 0) (pa_cons (pv 4) pa_nil))) (pa_cons (pe_has c_law_draw hr (by decide) (by rfl) (pa_cons (pv 0) (pa_cons (pv 4) pa_nil))) pa_nil)) (by rfl)) (pss_one (ps_if (PW.pt (pw_and (pt_cmpR op_lt (pe_callB call_len_dT (by rfl) B.len bb_len (pa_cons (pv 5) pa_nil)) (pv 3) (nomark _)) (pw_and (pt_cmpR op_lt (pv 7) (pv 6) (nomark _)) (pw_and1 (pt_cmp (pc_dnotin hu (pe_tup (pa_cons (pv 7) (pa_cons (pv 6) pa_nil))) (pv 5))))))) (pss_one (ps_dput hu (pv 5) (pe_tup (pa_cons (pv 7) (pa_cons (pv 6) pa_nil))) (pe_op op_sub pe_int (pe_op op_times pe_int (pe_has c_law_draw hr (by decide) (by rfl) (pa_cons (pv 0) (pa_cons pe_int pa_nil))))) rfl)) pss_nil)))) (pss_one (ps_ret (pe_has c_law_table hr (by decide) (by rfl) (pa_cons (pv 4) (pa_cons (pv 5) pa_nil))))))))), ?_⟩
  refine sx_asg (k := k + 99) (c := 1) (M := Z) exZ hG (hs.mono (by omega)) ((gx_plus (D := fun d => ∃ n : Nat, d = .int n ∧ 1 ≤ n ∧ n ≤ 10) rfl (gx_of (gd_var rfl (.int (few : Int)))) (gx_draw (n := top + 1 - few) (i := 0) rfl ((gd_I0 (gd_plus (gd_var rfl (.int (top : Int))) gd_int) (gd_var rfl (.int (few : Int)))).is (by congr 1; omega)) (by omega) (by omega)) fun d e h1 h2 => by
    subst h1
    obtain ⟨r, rfl, hr⟩ := h2
    exact ⟨few, r, rfl, rfl, few + r, by congr 1, by omega, by omega⟩).cost (by omega)) fun d vn G1 H1 ⟨n, e, n1, n2⟩ t1 hs1 dn => ?_
  subst e
  cases dn
  refine fun pd npd => ?_
  have ned := ne_src hs1 npd
  have npd0 : H pd = none := by
    have := fresh_of t1.h ((rm_ne ned).trans npd)
    rw [rm_ne ned] at this
    exact this
  have t2 : Stp G (rm sa H) G1 (rm sa (upd H1 pd (.dT []))) := by
    rw [rm_upd ned]
    exact t1.new ((rm_ne ned).trans npd)
  have hd2 : HoldO G1 (upd H1 pd (.dT [])) pd (.dT (tvs [])) := ⟨fresh_of (exRm t1.gh) npd, upd_same⟩
  have nM : ∀ o, (upd Z pd o) sa = none := fun o => upd_ne (fun e => ned e.symm)
  have mutD : ∀ {G' H' : Hp} {o u : HO}, Stp G (rm sa H) G' (rm sa H') → HoldO G' H' pd o → Stp G (rm sa H) G' (rm sa (upd H' pd u)) := fun {G' H' o u} t h => by
    rw [rm_upd ned]
    exact t.mut ((rm_ne ned).trans npd0) h.g
  show tSeq _ _ _ _ (upd H1 pd (.dT []))
  refine s_for (n := n - 1) (M := Z) (fun i σ G' H' => ∃ (g : Tab) (x y st : Option V), TabP n g ∧ g.length ≤ i ∧ Stp G (rm sa H) G' (rm sa H') ∧ SrcAt H' sa (k + 20 + (n - 1 - i) * 5) ∧ HoldO G' H' pd (.dT (tvs g)) ∧ σ = [some (.ref sa), some (.int (few : Int)), some (.int (top : Int)), some (.int (most : Int)), some (.int (n : Int)), some (.ref pd), y, x, st]) exZ (exRm t2.gh)
    (src_eq (src_range2 gd_int (gd_var rfl (.int (n : Int))) (by omega)) (by omega) (fun _ _ => rfl)) (fun G5 H5 s5 => ⟨[], none, none, none, (fun e he => nomatch he), Nat.le_refl _, t2.trans (s5.rm (noRm t2.gh) (hs1.ups ned).nz), ((hs1.ups ned).ext s5.h).mono (by omega), hd2.step s5, rfl⟩) ?_ ?_
  · rintro i σ' G5 H5 yv G6 H6 hi g5 gh5 ⟨g, x, y0, st, tp, lg, t5, hs5, hd5, rfl⟩ s6 hyv
    have ey : (1 : Int) + (i : Int) = ((1 + i : Nat) : Int) := by omega
    rw [ey] at hyv
    cases hyv
    have hy : 1 + i < n := by omega
    have hy1 : 1 ≤ 1 + i := by omega
    generalize 1 + i = y at hy hy1
    have t6 := t5.trans (s6.rm (noRm t5.gh) hs5.nz)
    have hs6 := hs5.ext s6.h
    have hd6 := hd5.step s6
    have e5 : k + 20 + (n - 1 - i) * 5 = (k + 20 + (n - 1 - (i + 1)) * 5) + 5 := by omega
    rw [e5] at hs6
    generalize k + 20 + (n - 1 - (i + 1)) * 5 = kk at hs6
    refine sx_asg (k := kk + 3) (c := 2) (M := Z) exZ t6.gh hs6 ((gx_if (D := fun d => ∃ x : Nat, d = .int x ∧ x < y) (c := 1) (c1 := 1) rfl (gtx_test (gx_bit (n := 2) (m := 0) rfl rfl gd_int (by decide) (by decide))) ((gx_draw (n := y) (i := 0) rfl (gd_var rfl (.int (y : Int))) (by omega) (by omega)).imp fun d h => h) (((gx_of ((gd_I0 (gd_var rfl (.int (y : Int))) gd_int).is (show _ = PyData.int ((y - 1 : Nat) : Int) by congr 1; omega))).cost (by omega)).imp fun d e => ⟨y - 1, e, by omega⟩)).cost (by omega)) fun d xv G7 H7 ⟨x', e, hx⟩ t7 hs7 dx => ?_
    subst e
    cases dx
    have t17 := t6.trans t7
    have hd7 := hd6.stepX ned t7
    refine sx_ifE (k := kk + 1) (c := 2) (M := upd Z pd (.dT (tvs g))) hd7.one t7.gh hs7 ((gtx_and (nM _) (gtx_of (gt_test (gd_B0 (gd_lenD rfl upd_same) (gd_var rfl (.int (most : Int)))))) (gtx_test (gx_gt (nM _) rfl gd_int (by decide) (by decide) (n := 6)))).cost (by omega)) (fun G8 H8 t8 hs8 => ?_) (fun G8 H8 t8 hs8 => ?_)
    · have t18 := t17.trans t8
      have hd8 := hd7.stepX ned t8
      refine sx_tputE (k := kk) (c := 1) (t := (x', y)) (M := Z) rfl exZ t8.gh hs8 hd8 ned rfl (by omega) (gd_var rfl (.int (x' : Int))) (gd_var rfl (.int (y : Int))) (gx_sgn rfl rfl) fun z G9 H9 hz t9 hs9 hd9 => ?_
      exact ⟨G9, (s6.g.trans t7.g).trans (t8.g.trans t9.g), (exRm t9.gh).mut hd9.g, putS g (x', y) z, _, _, _, tp.put hx hy hz, by have := putS_len g (x', y) z; omega, mutD (t18.trans t9) hd9, hs9.ups ned, ⟨hd9.g, upd_same⟩, rfl⟩
    · exact ⟨G8, (s6.g.trans t7.g).trans t8.g, exRm t8.gh, g, _, _, _, tp, by omega, t17.trans t8, hs8.mono (by omega), hd7.stepX ned t8, rfl⟩
  · rintro σ' G5 H5 g5 gh5 ⟨g, x, y0, st, tp, lg, t5, hs5, hd5, rfl⟩
    refine s_for (n := 6) (M := Z) (fun i σ G' H' => ∃ (g : Tab) (x y st : Option V), TabP n g ∧ g.length ≤ 10 + i ∧ Stp G (rm sa H) G' (rm sa H') ∧ SrcAt H' sa (k + (6 - i) * 3) ∧ HoldO G' H' pd (.dT (tvs g)) ∧ σ = [some (.ref sa), some (.int (few : Int)), some (.int (top : Int)), some (.int (most : Int)), some (.int (n : Int)), some (.ref pd), y, x, st]) exZ gh5
      (src_range1 (n := 6) gd_int (by decide)) (fun G6 H6 s6 => ⟨g, x, y0, st, tp, by omega, t5.trans (s6.rm (noRm t5.gh) hs5.nz), (hs5.ext s6.h).mono (by omega), hd5.step s6, rfl⟩) ?_ ?_
    · rintro i σ' G6 H6 sv G7 H7 hi g6 gh6 ⟨g, x, y0, st, tp, lg, t6, hs6, hd6, rfl⟩ s7 hsv
      cases hsv
      have t7 := t6.trans (s7.rm (noRm t6.gh) hs6.nz)
      have hs7 := hs6.ext s7.h
      have hd7 := hd6.step s7
      have e3 : k + (6 - i) * 3 = (k + (6 - (i + 1)) * 3) + 3 := by omega
      rw [e3] at hs7
      generalize k + (6 - (i + 1)) * 3 = kk at hs7
      refine sx_par2 (k := kk + 1) (c := 2) (M := Z) exZ t7.gh hs7 ((gxa_cons rfl (gx_draw (n := n) (i := 0) rfl (gd_var rfl (.int (n : Int))) (by omega) (by omega)) (gxa_cons rfl (gx_draw (n := n) (i := 0) rfl (gd_var rfl (.int (n : Int))) (by omega) (by omega)) gxa_nil)).cost (by omega)) (fun l ⟨d, ds, _, ⟨e, es, _, e3, e2⟩, e1⟩ => ⟨d, e, by rw [e1, e2, e3]⟩) fun a b xv yv G8 H8 hd t8 hs8 da db => ?_
      obtain ⟨a', ds', ⟨x', e1, hx⟩, ⟨b', es', ⟨y', e2, hy⟩, e3, e4⟩, e5⟩ := hd
      subst e3 e4
      injection e5 with e5 e6
      injection e6 with e6 _
      subst e5 e6 e1 e2
      cases da
      cases db
      have t18 := t7.trans t8
      have hd8 := hd7.stepX ned t8
      refine s_ifE (M := upd Z pd (.dT (tvs g))) hd8.one (exRm t8.gh) (gt_and (a := decide ((g.length : Int) < most)) (gt_test (gd_B0 (gd_lenD rfl upd_same) (gd_var rfl (.int (most : Int))))) fun _ => gt_and (a := decide ((x' : Int) < y')) (gt_test (gd_B0 (gd_var rfl (.int (x' : Int))) (gd_var rfl (.int (y' : Int))))) fun _ => gt_tnotin (t := (x', y')) rfl upd_same (gd_var rfl (.int (x' : Int))) (gd_var rfl (.int (y' : Int)))) (fun hb G9 H9 s9 => ?_) (fun _ G9 H9 s9 => ?_)
      · have hb2 := (Bool.and_eq_true_iff.mp (Bool.and_eq_true_iff.mp hb).2).1
        have lt : (x' : Int) < y' := of_decide_eq_true hb2
        have t19 := t18.trans (s9.rm (noRm t18.gh) hs8.nz)
        have hd9 := hd8.step s9
        refine sx_tputE (k := kk) (c := 1) (t := (x', y')) (M := Z) rfl exZ t19.gh (hs8.ext s9.h) hd9 ned rfl (by omega) (gd_var rfl (.int (x' : Int))) (gd_var rfl (.int (y' : Int))) (gx_sgn rfl rfl) fun z G10 H10 hz t10 hs10 hd10 => ?_
        exact ⟨G10, (s7.g.trans t8.g).trans (s9.g.trans t10.g), (exRm t10.gh).mut hd10.g, putS g (x', y') z, _, _, _, tp.put (by show x' < y'; omega) hy hz, by have := putS_len g (x', y') z; omega, mutD (t19.trans t10) hd10, hs10.ups ned, ⟨hd10.g, upd_same⟩, rfl⟩
      · exact ⟨G9, (s7.g.trans t8.g).trans s9.g, s9.gh, g, _, _, _, tp, by omega, t18.trans (s9.rm (noRm t18.gh) hs8.nz), (hs8.ext s9.h).mono (by omega), hd8.step s9, rfl⟩
    · rintro σ' G6 H6 g6 gh6 ⟨g, x, y0, st, tp, lg, t6, hs6, hd6, rfl⟩
      refine ⟨_, rfl, _, rfl, n, pd, g, G6, rfl, exRm t6.gh, hd6.h, tp, n1, n2, fun W ok lw v G7 H7 s7 dv => ?_⟩
      exact q _ v G7 H7 ⟨W, ok, rfl⟩ (t6.trans (s7.rm (noRm t6.gh) hs6.nz)) ((hs6.ext s7.h).mono (by omega)) dv
end
end Sg

/-! drawn_choice, walk -/
namespace Sg
open PySem PySem.Spec PyProof.Rows L2
open Evl (Ex)
def QChoice (ds : List PyData) : Prop := ∃ W, WebOk W ∧ ds = [webD W]
def PChoice (ds : List PyData) (d : PyData) : Prop := ∃ W C, ds = [webD W] ∧ ChOk W C ∧ d = chD C
def QWalk (ds : List PyData) : Prop := ∃ W C C', WebOk W ∧ Stands W C ∧ Stands W C' ∧ ds = [webD W, chD C, chD C']
def PWalk (ds : List PyData) (d : PyData) : Prop := ∃ W C C' ts, ds = [webD W, chD C, chD C'] ∧ Leads W C C' ts ∧ d = tieL ts
section
variable {K : PySem.W.Frag} {σ : L2.St} {M G : Hp} {te tx : TE} {s : Addr}
/-- c[:k] + (-c[k],) + c[k + 1:] -/
theorem gd_flip {i j : Nat} {vc vk : V} {C : List Int} {k : Nat} (hi : σ[i]? = some (some vc)) (hj : σ[j]? = some (some vk)) (hc : Dx G vc (chD C)) (hx : Dx G vk (.int k)) (hk : k < C.length) (l1 : C.length ≤ 1000) :
    Gd (tOp (rPlus K) (tOp (rPlus K) (tSl (rSlA K) (tVar i) tNoPart (tPart (tVar j))) (tTup (tCons (tUn (rU fun i => .int (-i)) (tOp (rIx2 K) (tVar i) (tVar j))) tNil))) (tSl (rSlA K) (tVar i) (tPart (tOp (rPlus K) (tVar j) (tC (.int 1)))) tNoPart)) σ M G (chD (flip C k)) := by
  have lm : (C.map PyData.int).length = C.length := List.length_map ..
  have e1 : ((k + 1 : Nat) : Int) = (k : Int) + 1 := by omega
  refine (gd_catT (gd_catT (gd_takeT (gd_var hi hc) (gd_var hj hx) (by omega)) (gd_tup (ga_cons (gd_neg (gd_ixT (gd_var hi hc) (gd_var hj hx) (atI_map (getD_get (z := 0) hk)))) ga_nil) (by simp)) ?_) (gd_dropT (k := k + 1) (gd_var hi hc) ((gd_plus (gd_var hj hx) gd_int).is (by rw [e1])) (by omega)) ?_).is ?_
  · simp only [List.length_take, List.length_map, List.length_singleton]
    omega
  · simp only [List.length_append, List.length_take, List.length_drop, List.length_map, List.length_singleton]
    omega
  · show _ = chD (flip C k)
    rw [flip_cut hk]
    unfold chD
    simp [List.map_take, List.map_drop]
theorem gx_len1 {i j : Nat} {n : Nat} {v : V} {c : Nat} {Pn : List PyData → PyData → Prop} {Q : List PyData → Prop} {E : XK} {d : PyData} (hi : σ[i]? = some (some (.ref s))) (h : Gd te σ M G (.int n)) (hq : Q [.int n]) : Gx (tCall (Spx c Q Pn) [] E (tCons (tVar i) (tCons te tNil))) σ s M G (Pn [.int n]) c :=
  ((gx_call (c := c) hi (gxa_of (ga_cons h ga_nil)) fun ds e => by rw [e]; exact hq).cost (by omega)).imp fun z ⟨ds, e, hz⟩ => by rw [e] at hz; exact hz
end
section
variable {P : Program} {w : World} {K : PySem.W.Frag} {mg : Str → Option Value} {base : Heap} {f : Addr} {fd : FuncData}
/-- kept(web, sized_row(source, len(web))) -/
theorem gx_keptRow {σ : L2.St} {M G : Hp} {s : Addr} {i j : Nat} {vw : V} {W : Web} {E E' : XK} (nM : M s = none) (ok : WebOk W) (hi : σ[i]? = some (some (.ref s))) (hj : σ[j]? = some (some vw)) (hw : Dx G vw (webD W)) :
    Gx (tCall (Spd PKept) [] E (tCons (tVar j) (tCons (tCall (Spx 200 QRow PSized) [] E' (tCons (tVar i) (tCons (tCB (rLen2 K) (tCons (tVar j) tNil)) tNil))) tNil))) σ s M G (fun d => ∃ C, Stands W C ∧ d = chD C) 200 := by
  have le := ok.le
  refine (gx_callP (DL := fun ds => ∃ d es, d = webD W ∧ (∃ r rs, (∃ q, Sized W.length q ∧ r = rowD q) ∧ rs = [] ∧ es = r :: rs) ∧ ds = d :: es) (D := fun d => ∃ C, Stands W C ∧ d = chD C) (gxa_cons nM (gx_of (gd_var hj hw)) (gxa_cons nM (((gx_call (c := 200) (pre := QRow) (P := PSized) (i := i) hi (gxa_of (ga_cons ((gd_lenT (gd_var hj hw)).is (by rw [List.length_map])) ga_nil)) fun ds e => ⟨W.length, by omega, e⟩).cost (show 0 + 200 ≤ 200 by omega)).imp fun z ⟨ds, e, hz⟩ => hz _ e) gxa_nil)) fun ds ⟨d, es, e1, ⟨r, rs, ⟨q, hq, e2⟩, e3, e4⟩, e5⟩ => ?_).cost (by omega)
  exact ⟨_, ⟨W, q, ok, hq.len, by rw [e5, e4, e3, e2, e1], rfl⟩, _, hq.keeps ok, rfl⟩
theorem scLawDrawnChoice : FnScope ["_law_source_here", "_law_web_here", "_law_found", "_law_way", "_law_at", "_law_one"] ["_law_source_here", "_law_web_here"] (defScope sLawDrawnChoice) := ⟨rfl, rfl, rfl, by decide +kernel, rfl, by decide +kernel, by decide +kernel⟩
theorem ok_law_drawn_choice (D : Df K mg "_law_drawn_choice" sLawDrawnChoice ["_law_source_here", "_law_web_here"] f fd) (B : Bi mg) (c_law_draw : Has P w K mg base 1 "_law_draw" (Spx 1 QDraw PDraw)) (c_law_kept : Has P w K mg base 2 "_law_kept" (Spd PKept)) (c_law_sized_row : Has P w K mg base 3 "_law_sized_row" (Spx 200 QRow PSized)) :
    FnOk P w K mg base CX0 4 f fd ["_law_source_here", "_law_web_here"] (Spx 300 QChoice PChoice) := by
  refine D.F.ok scLawDrawnChoice (Spx.len (n := 2) fun ds ⟨_, _, e⟩ => by rw [e]; rfl) (fun cdv A outer s H vs Q E hr h => ?_)
  obtain ⟨sa, us, G, ds, k, rfl, hG, hv, ⟨W, ok, rfl⟩, hs, q⟩ := h
  obtain ⟨v, rfl, hw⟩ := hv.one
  refine ⟨_, PSs.nox (pss_cons (ps_par (i := 2) (j := 3) rfl scLawDrawnChoice.nd rfl rfl (by decide) rfl rfl (pa_cons (pe_has c_law_kept hr (by decide) (by rfl) (pa_cons (pv 1) (pa_cons (pe_has c_law_sized_row hr (by decide) (by rfl) (pa_cons (pv 0) (pa_cons (pe_callB (call_lenK (K := K) rfl) (by rfl) B.len bb_len (pa_cons (pv 1) pa_nil)) pa_nil))) pa_nil))) (pa_cons (pe_has c_law_draw hr (by decide) (by rfl) (pa_cons (pv 0) (pa_cons pe_int pa_nil))) pa_nil)) (by rfl)) (pss_cons (ps_if (PW.pt (pw_and (pt_cmpR (op_eqDK (K := K) rfl hr.units) (pv 3) pe_int (nomark _)) (pw_and1 (pt_cmpR (op_neDK (K := K) rfl hr.units) (pv 2) (pe_tup pa_nil) (nomark _))))) (pss_cons (ps_set (i := 4) scLawDrawnChoice.nd rfl (.inl rfl) (pe_has c_law_draw hr (by decide) (by rfl) (pa_cons (pv 0) (pa_cons (pe_callB (call_lenK (K := K) rfl) (by rfl) B.len bb_len (pa_cons (pv 2) pa_nil)) pa_nil)))) (pss_one (ps_set (i := 2) scLawDrawnChoice.nd rfl (.inl rfl) (pe_op (op_plusK (K := K) rfl) (pe_op (op_plusK (K := K) rfl) (pe_slice (sl_tupK (K := K) rfl) (pv 2) po_none (po_some (pv 4))) (pe_tup (pa_cons (pe_un un_neg (pe_ix (ix_twoK (K := K) rfl) (pv 2) (pv 4) (fun _ _ => rfl))) pa_nil))) (pe_slice (sl_tupK (K := K) rfl) (pv 2) (po_some (pe_op (op_plusK (K := K) rfl) (pv 4) pe_int)) po_none))))) pss_nil) (pss_cons (ps_if (pt_cmpR (op_eqDK (K := K) rfl hr.units) (pv 3) pe_int (nomark _)) (pss_one (ps_set (i := 2) scLawDrawnChoice.nd rfl (.inl rfl) (pe_callTy (call_tupK (K := K) rfl) (by rfl) B.tuple bb_tuple (pa_cons (pe_lc (own := [("_law_one", 5)]) rfl scLawDrawnChoice.nd (pi_tupK (K := K) rfl (pv 2)) (blkOk_by (own := [("_law_one", 5)]) (N := ["_law_source_here", "_law_web_here", "_law_found", "_law_way", "_law_at", "_law_one"]) (sc := defScope sLawDrawnChoice) (by decide +kernel)) (fun _ _ _ _ _ => (pg_name (i := 5) scLawDrawnChoice.nd rfl (.inl rfl))) (fun _ _ _ _ _ => pts_nil) (fun _ _ _ _ _ => (pe_op op_sub pe_int (pe_op op_times pe_int (pe_has c_law_draw hr (by decide) (by rfl) (pa_cons (pv 0) (pa_cons pe_int pa_nil))))))) pa_nil)))) pss_nil) (pss_one (ps_ret (pv 2)))))), ?_⟩
  have tl := ties_len ok
  have ga0 := gxa_cons (σ := start ["_law_source_here", "_law_web_here", "_law_found", "_law_way", "_law_at", "_law_one"] [.ref sa, v]) (s := sa) (M := Z) (G := G) rfl (gx_keptRow (K := K) (E := E0) (E' := E0) rfl ok (i := 0) (j := 1) rfl rfl hw) (gxa_cons rfl (gx_draw (E := E0) (n := 4) (i := 0) rfl gd_int (by decide) (by decide)) gxa_nil)
  refine sx_par2 (k := k + 99) (c := 201) (M := Z) exZ hG hs (ga0.cost (by omega)) (fun l ⟨d, ds, _, ⟨e, es, _, e3, e2⟩, e1⟩ => ⟨d, e, by rw [e1, e2, e3]⟩) fun a b vc vw G1 H1 hd t1 hs1 da db => ?_
  obtain ⟨a', ds', ⟨C, st, e1⟩, ⟨b', es', ⟨wy, e2, _⟩, e3, e4⟩, e5⟩ := hd
  subst e3 e4
  injection e5 with e5 e6
  injection e6 with e6 _
  subst e5 e6 e1 e2
  cases db
  have hC := st.ok
  have cl := ch_len ok hC
  have lay0 : SeqAt.shaped (.tuple []) = true := (lay_tup (n := 0) (ds := []) fun d hd => nomatch hd).sh
  have shC : ∀ C : List Int, SeqAt.shaped (.tuple (C.map PyData.int)) = true := fun C => (lay_chD C).sh
  -- the first if
  have fin : ∀ (C1 : List Int) (vc1 : V) (at4 : Option V) (G2 H2 : Hp), ChOk W C1 → Dx G2 vc1 (chD C1) → Stp G (rm sa H) G2 (rm sa H2) → SrcAt H2 sa (k + 98) →
      tSeq (tIfS (tTest (tOp (rEqD K) (tVar 3) (tC (.int 2)))) (tAsg (tCB (rTup1 K) (tCons (tLc (iTup K (tVar 2)) (gName 5) tYes (tOp (rI0 fun i j => .int (i - j)) (tC (.int 1)) (tOp rTimes (tC (.int 2)) (tCall (Spx 1 QDraw PDraw) [] E0 (tCons (tVar 0) (tCons (tC (.int 2)) tNil))))) [5]) tNil)) (gName 2)) tNext) (tRet (tVar 2)) { nx := fun _ H' => Q .non H', rt := Q } [some (.ref sa), some v, some vc1, some (.int (wy : Int)), at4, none] H2 := fun C1 vc1 at4 G2 H2 hC1 dc1 t2 hs2 => by
    have cl1 := ch_len ok hC1
    refine s_if (M := Z) exZ (exRm t2.gh) (gt_test (gd_eq (gd_var rfl (.int (wy : Int))) gd_int rfl rfl)) (fun _ G3 H3 s3 => ?_) (fun _ G3 H3 s3 => ?_)
    · have t3 := t2.trans (s3.rm (noRm t2.gh) hs2.nz)
      have lc := gx_lc (c := 1) (s := sa) (te := tOp (rI0 fun i j => .int (i - j)) (tC (.int 1)) (tOp rTimes (tC (.int 2)) (tCall (Spx 1 QDraw PDraw) [] E0 (tCons (tVar 0) (tCons (tC (.int 2)) tNil))))) (g := gName 5) (vs := [5]) (fun it i d => d = .int 1 ∨ d = .int (-1)) (M := Z) rfl
        (srx_of (src_tup (K := K) (M := Z) (gd_var (i := 2) (σ := [some (.ref sa), some v, some vc1, some (.int (wy : Int)), at4, none]) rfl (dc1.up s3.g)))) (by rw [List.length_map]; omega) fun it _ i G4 x hi e4 hx => ⟨_, tg_name, rfl, gx_sgn rfl rfl⟩
      have all := gx_cb (D := fun d => ∃ C2, ChOk W C2 ∧ d = chD C2) (r := rTup1 K) (gxa_cons rfl lc gxa_nil) fun ds ⟨d, ds1, hd, e1, e2⟩ => by
        subst e1
        subst e2
        obtain ⟨it, es, _, rfl, len, hde⟩ := hd
        rw [List.length_map] at len hde
        have hints : es = (es.map unInt).map PyData.int := ints_un fun d hd => by
          obtain ⟨i, hi, rfl⟩ := List.getElem_of_mem hd
          have := hde i (by omega)
          rw [List.getD_eq_getElem?_getD, List.getElem?_eq_getElem hi] at this
          rcases this with e | e
          · exact ⟨1, e⟩
          · exact ⟨-1, e⟩
        refine ⟨chD (es.map unInt), ⟨_, ⟨by rw [List.length_map, len]; exact hC1.1, fun w hw => ?_⟩, rfl⟩, fun vs G1 H1 hG1 hv1 Q1 q1 => ?_⟩
        · obtain ⟨d, hd, rfl⟩ := List.mem_map.mp hw
          obtain ⟨i, hi, rfl⟩ := List.getElem_of_mem hd
          have := hde i (by omega)
          rw [List.getD_eq_getElem?_getD, List.getElem?_eq_getElem hi] at this
          rcases this with e | e
          · left
            show unInt es[i] = 1
            rw [show es[i] = PyData.int 1 from e]
            rfl
          · right
            show unInt es[i] = -1
            rw [show es[i] = PyData.int (-1) from e]
            rfl
        · obtain ⟨u, rfl, d1⟩ := hv1.one
          obtain ⟨a, xs, rfl, ga, hx⟩ := d1.lst_of
          unfold chD at q1
          rw [← hints] at q1
          exact ⟨a, xs, rfl, .inl ⟨SqL.of (hG1 _ _ ga), ret_tup hG1 hx q1⟩⟩
      refine sx_asgE (k := k) (c := 98) (M := Z) exZ t3.gh (hs2.ext s3.h) (all.cost (by rw [List.length_map]; omega)) fun d vd G4 H4 ⟨C2, hC2, e⟩ t4 hs4 dx => ?_
      subst e
      exact ⟨_, rfl, q _ vd G4 H4 ⟨W, C2, rfl, hC2, rfl⟩ (t3.trans t4) hs4 dx⟩
    · have t3 := t2.trans (s3.rm (noRm t2.gh) hs2.nz)
      exact ⟨_, rfl, q _ vc1 G3 H3 ⟨W, C1, rfl, hC1, rfl⟩ t3 ((hs2.ext s3.h).mono (by omega)) (dc1.up s3.g)⟩
  refine s_if (M := Z) exZ (exRm t1.gh) (gt_and (a := decide ((wy : Int) = 1)) (gt_test ((gd_eq (gd_var rfl (.int (wy : Int))) gd_int rfl rfl).is (by rw [eqv_ints]))) fun _ => gt_test (gd_ne (gd_var rfl da) (gd_tup ga_nil (by simp)) (shC C) lay0)) (fun hb G2 H2 s2 => ?_) (fun hb G2 H2 s2 => ?_)
  · have ne : C ≠ [] := by
      rintro rfl
      have := (Bool.and_eq_true_iff.mp hb).2
      rw [show PyData.eqv (chD []) (.tuple []) = true from (eqv_ch [] []).trans (decide_eq_true rfl)] at this
      cases this
    have pos : 0 < C.length := List.length_pos_iff.mpr ne
    have t2 := t1.trans (s2.rm (noRm t1.gh) hs1.nz)
    have da2 := da.up s2.g
    refine sx_asg (k := k + 98) (c := 1) (M := Z) exZ t2.gh (hs1.ext s2.h) (gx_draw (n := C.length) (i := 0) rfl ((gd_lenT (gd_var rfl da2)).is (by rw [List.length_map])) (by omega) (by omega)) fun d vk G3 H3 ⟨r, e, hr⟩ t3 hs3 dk => ?_
    subst e
    cases dk
    have t23 := t2.trans t3
    refine s_asgE (M := Z) exZ (exRm t3.gh) (gd_flip rfl rfl (da2.up t3.g) (.int (r : Int)) hr (by omega)) fun vc2 G4 H4 s4 dc2 => ?_
    exact fin _ vc2 _ G4 H4 (flip_ok hC r) dc2 (t23.trans (s4.rm (noRm t3.gh) hs3.nz)) (hs3.ext s4.h)
  · exact fin C vc none G2 H2 hC (da.up s2.g) (t1.trans (s2.rm (noRm t1.gh) hs1.nz)) ((hs1.ext s2.h).mono (by omega))
/-- x, y, z = (a, b, c), raw -/
theorem s_tup3 {σ : L2.St} {H : Hp} {DE : Ends} {tz : TS} {ta tb tc : TE} {i j l : Nat} (h : ta σ H fun x H1 => tb σ H1 fun y H2 => tc σ H2 fun z H3 => 3 ≤ sizeLine ∧ ∀ p, H3 p = none → gTup K 3 (gCons (gName i) (gCons (gName j) (gCons (gName l) gNil))) (.ref p) σ (upd H3 p (.tup [x, y, z])) fun σ2 H4 => tz DE σ2 H4) :
    tSeq (tAsg (tTup (tCons ta (tCons tb (tCons tc tNil)))) (gTup K 3 (gCons (gName i) (gCons (gName j) (gCons (gName l) gNil))))) tz DE σ H := h
theorem nodup_tieOf {W : Web} {ks : List Nat} (nd : ks.Nodup) (lt : ∀ k ∈ ks, k < (ties W).length) : (ks.map fun k => (ties W).getD k (0, 0)).Nodup := by
  refine List.pairwise_map.mpr (List.Pairwise.imp_of_mem (fun {a b} ha hb ne e => ne ?_) nd)
  rw [← idx_tie (lt a ha), ← idx_tie (lt b hb), e]
theorem scLawWalk : FnScope ["_law_source_here", "_law_web_here", "_law_choice", "_law_other_here", "_law_ties_here", "_law_found", "_law_here", "_law_turn", "_law_unlike", "_law_some", "_law_at", "_law_k"] ["_law_source_here", "_law_web_here", "_law_choice", "_law_other_here"] (defScope sLawWalk) := ⟨rfl, rfl, rfl, by decide +kernel, rfl, by decide +kernel, by decide +kernel⟩
theorem ok_law_walk (D : Df K mg "_law_walk" sLawWalk ["_law_source_here", "_law_web_here", "_law_choice", "_law_other_here"] f fd) (B : Bi mg) (c_law_draw : Has P w K mg base 1 "_law_draw" (Spx 1 QDraw PDraw)) (c_law_ties : Has P w K mg base 1 "_law_ties" (Spd PTies)) (c_law_downward : Has P w K mg base 2 "_law_downward" (Spd PStands)) (c_law_other : Has P w K mg base 1 "_law_other" (Spd POther)) :
    FnOk P w K mg base CX0 3 f fd ["_law_source_here", "_law_web_here", "_law_choice", "_law_other_here"] (Spx 50 QWalk PWalk) := by
  refine D.F.ok scLawWalk (Spx.len (n := 4) fun ds ⟨_, _, _, _, _, _, e⟩ => by rw [e]; rfl) (fun cdv A outer s H vs Q E hr h => ?_)
  obtain ⟨sa, us, G, ds, k, rfl, hG, hv, ⟨W, C, C', ok, st, st', rfl⟩, hs, q⟩ := h
  obtain ⟨vw, vc, vo, rfl, hw, hc, hd⟩ := hv.three
  refine ⟨_, PSs.nox (pss_cons (ps_asg (pe_tup (pa_cons (pe_has c_law_ties hr (by decide) (by rfl) (pa_cons (pv 1) pa_nil)) (pa_cons (pe_lst pa_nil) (pa_cons (pv 2) pa_nil)))) (pg_tupK (K := K) (n := 3) rfl rfl (pgs_cons (pg_name (i := 4) scLawWalk.nd rfl (.inl rfl)) (pgs_cons (pg_name (i := 5) scLawWalk.nd rfl (.inl rfl)) (pgs_cons (pg_name (i := 6) scLawWalk.nd rfl (.inr rfl)) pgs_nil))))) (pss_cons (ps_for PassesOwn.never rfl (pi_range1 (by rfl) B.range (pa_cons (pe_callB (call_lenK (K := K) rfl) (by rfl) B.len bb_len (pa_cons (pv 4) pa_nil)) pa_nil)) (pg_name (i := 7) scLawWalk.nd rfl (.inl rfl)) (pss_cons (ps_setLc (i := 8) (own := [("_law_k", 11)]) rfl scLawWalk.nd rfl rfl (sw_true rfl rfl rfl (by decide +kernel)) (pi_range1 (by rfl) B.range (pa_cons (pe_callB (call_lenK (K := K) rfl) (by rfl) B.len bb_len (pa_cons (pv 4) pa_nil)) pa_nil)) (blkOk_by (own := [("_law_k", 11)]) (N := ["_law_source_here", "_law_web_here", "_law_choice", "_law_other_here", "_law_ties_here", "_law_found", "_law_here", "_law_turn", "_law_unlike", "_law_some", "_law_at", "_law_k"]) (sc := defScope sLawWalk) (by decide +kernel)) (fun _ _ _ _ _ => (pg_name (i := 11) scLawWalk.nd rfl (.inl rfl))) (fun _ _ _ _ _ => (pts_one (pt_cmpR (op_neDK (K := K) rfl hr.units) (pe_ix (ix_twoK (K := K) rfl) (pv 6) (pv 11) (fun _ _ => rfl)) (pe_ix (ix_twoK (K := K) rfl) (pv 3) (pv 11) (fun _ _ => rfl)) (nomark _)))) (fun _ _ _ _ _ => (pv 11))) (pss_one (ps_if (pt_cmpR (op_neDK (K := K) rfl hr.units) (pv 8) (pe_lst pa_nil) (nomark _)) (pss_cons (ps_setLc (i := 9) (own := [("_law_k", 11)]) rfl scLawWalk.nd rfl rfl (sw_true rfl rfl rfl (by decide +kernel)) (pi_lstK (K := K) rfl (pv 8)) (blkOk_by (own := [("_law_k", 11)]) (N := ["_law_source_here", "_law_web_here", "_law_choice", "_law_other_here", "_law_ties_here", "_law_found", "_law_here", "_law_turn", "_law_unlike", "_law_some", "_law_at", "_law_k"]) (sc := defScope sLawWalk) (by decide +kernel)) (fun _ _ _ _ _ => (pg_name (i := 11) scLawWalk.nd rfl (.inl rfl))) (fun _ _ _ _ _ => (pts_one (pt_val (pe_has c_law_downward hr (by decide) (by rfl) (pa_cons (pv 1) (pa_cons (pe_has c_law_other hr (by decide) (by rfl) (pa_cons (pv 6) (pa_cons (pv 11) pa_nil))) pa_nil)))))) (fun _ _ _ _ _ => (pv 11))) (pss_cons (ps_if (pt_cmpR (op_eqDK (K := K) rfl hr.units) (pv 9) (pe_lst pa_nil) (nomark _)) (pss_one (ps_ret pe_non)) pss_nil) (pss_cons (ps_set (i := 10) scLawWalk.nd rfl (.inl rfl) (pe_ix (ix_twoK (K := K) rfl) (pv 9) (pe_has c_law_draw hr (by decide) (by rfl) (pa_cons (pv 0) (pa_cons (pe_callB (call_lenK (K := K) rfl) (by rfl) B.len bb_len (pa_cons (pv 9) pa_nil)) pa_nil))) (fun _ _ => rfl))) (pss_cons (ps_expr (pe_bm PySem.F.plainAttrs_list PySem.F.slot_list_append PySem.F.type_list_append mt_append (pv 5) (pa_cons (pe_ix (ix_twoK (K := K) rfl) (pv 4) (pv 10) (fun _ _ => rfl)) pa_nil))) (pss_one (ps_set (i := 6) scLawWalk.nd rfl (.inr rfl) (pe_has c_law_other hr (by decide) (by rfl) (pa_cons (pv 6) (pa_cons (pv 10) pa_nil))))))))) pss_nil)))) (pss_one (ps_ret (pv 5))))), ?_⟩
  have tl := ties_len ok
  have eC' := st'.ok.1
  refine s_tup3 ?_
  refine gd_call (M := Z) (ga_cons (gd_var rfl hw) ga_nil) ⟨W, ok, rfl, rfl⟩ H exZ (exRm hG) _ fun vt G1 H1 s1 dt => ⟨Nat.zero_le _, fun pf npf => ⟨_, rfl, by decide, fun p np => ⟨p, _, rfl, SqT.of upd_same, rfl, _, _, rfl, _, _, rfl, _, _, rfl, rfl, ?_⟩⟩⟩
  have t1 := s1.rm (noRm hG) hs.nz
  have hs1 := hs.ext s1.h
  have nef := ne_src hs1 npf
  have hs2 := hs1.ups (o := .lst []) nef
  have nep := ne_src hs2 np
  have npf0 : H pf = none := fresh_of s1.h npf
  have fp : pf ≠ p := by
    rintro rfl
    rw [upd_same] at np
    cases np
  have np0 : H1 p = none := (upd_ne (fun e => fp e.symm)).symm.trans np
  have t2 : Stp G (rm sa H) G1 (rm sa (upd (upd H1 pf (.lst [])) p (.tup [vt, .ref pf, vc]))) := by
    rw [rm_upd nep, rm_upd nef]
    exact (t1.new ((rm_ne nef).trans npf)).new (by rw [upd_ne (fun e => fp e.symm)]; exact (rm_ne nep).trans np0)
  have ho2 : Hold G1 (upd (upd H1 pf (.lst [])) p (.tup [vt, .ref pf, vc])) pf [] := ⟨fresh_of s1.gh npf, (upd_ne fp).trans upd_same⟩
  have hs3 := hs2.ups (o := .tup [vt, .ref pf, vc]) nep
  have ul0 : (unlike C C').length ≤ (ties W).length := by
    have h := List.length_filter_le (fun k => decide (C.getD k 0 ≠ C'.getD k 0)) (List.range C.length)
    rw [List.length_range] at h
    have := st.ok.1
    unfold unlike
    omega
  refine s_for (n := (ties W).length) (M := Z) (fun t σ G' H' => ∃ (Ct : List Int) (ks : List Nat) (h : V) (us : List V) (l7 l8 l9 l10 : Option V), Stands W Ct ∧ Stp G (rm sa H) G' (rm sa H') ∧ SrcAt H' sa (k + ((ties W).length - t)) ∧ Hold G' H' pf us ∧ DxA G' us (ks.map fun k => tieD ((ties W).getD k (0, 0))) ∧ Dx G' h (chD Ct) ∧ Dx G' vt (tieL (ties W)) ∧ ks.Nodup ∧ (∀ k ∈ ks, k < (ties W).length ∧ k ∉ unlike Ct C') ∧
    (∀ rest, Path W C' Ct rest → Path W C' C ((ks.map fun k => (ties W).getD k (0, 0)) ++ rest)) ∧ (unlike Ct C').length ≤ (ties W).length - t ∧ ks.length ≤ t ∧ σ = [some (.ref sa), some vw, some vc, some vo, some vt, some (.ref pf), some h, l7, l8, l9, l10, none]) exZ (exRm t2.gh) (src_range1 ((gd_lenL (gd_var rfl dt)).is (by rw [List.length_map])) (by omega))
    (fun G3 H3 s3 => ⟨C, [], vc, [], none, none, none, none, st, t2.trans (s3.rm (noRm t2.gh) hs3.nz), (hs3.ext s3.h).mono (by omega), ho2.step s3, .nil, (hc.up s1.g).up s3.g, dt.up s3.g, List.nodup_nil, (fun k hk => nomatch hk), fun rest h => h, by omega, Nat.zero_le _, rfl⟩) ?_ ?_
  · rintro t σ' G3 H3 tv G4 H4 ht g3 gh3 ⟨Ct, ks, h, us, l7, l8, l9, l10, stt, t3, hs3, ho3, du3, dh3, dt3, nd, kin, path, ul, lk, rfl⟩ s4 htv
    have t4 := t3.trans (s4.rm (noRm t3.gh) hs3.nz)
    have hs4 := hs3.ext s4.h
    have ho4 := ho3.step s4
    have dh4 := dh3.up s4.g
    have eCt := stt.ok.1
    have cl := ch_len ok stt.ok
    refine s_asg (M := Z) exZ (exRm t4.gh) ((gd_lc (n := (ties W).length) (fun k => decide (Ct.getD k 0 ≠ C'.getD k 0)) (fun k => .int (k : Int)) (src_range1 ((gd_lenL (gd_var rfl (dt3.up s4.g))).is (by rw [List.length_map])) (by omega)) (by omega) fun k G1 x hk e1 hx => ⟨_, tg_name, rfl, gt_test ((gd_ne (gd_ixT (gd_var rfl (dh4.up e1)) (gd_var rfl hx) (atI_map (getD_get (z := 0) (by omega)))) (gd_ixT (gd_var rfl ((hd.up t4.g).up e1)) (gd_var rfl hx) (atI_map (getD_get (z := 0) (by omega)))) rfl rfl).is ?_), fun _ => gd_var rfl hx⟩).is (show _ = nD (unlike Ct C') by unfold unlike; rw [eCt]; rfl)) fun v8 G5 H5 s5 d8 => ?_
    · rw [eqv_ints]
      congr 1
      by_cases h : Ct.getD k 0 = C'.getD k 0 <;> simp [h]
    have t5 := t4.trans (s5.rm (noRm t4.gh) hs4.nz)
    have hs5 := hs4.ext s5.h
    have ho5 := ho4.step s5
    refine s_ifE (M := Z) (b := !(unlike Ct C').isEmpty) exZ s5.gh (gt_test ((gd_ne (gd_var rfl d8) (gd_lst ga_nil (by simp)) (lay_nD _).sh lay_nil.sh).is (by unfold nD; rw [eqv_nil, List.isEmpty_map]))) (fun hb G6 H6 s6 => ?_) (fun hb G6 H6 s6 => ?_)
    · have une : unlike Ct C' ≠ [] := by
        intro e
        rw [e] at hb
        cases hb
      have ne : Ct ≠ C' := fun e => une ((unlike_nil stt.ok st'.ok).mpr e)
      obtain ⟨n1, n2, n3⟩ := nextK_ok ok stt st' ne
      have t6 := t5.trans (s6.rm (noRm t5.gh) hs5.nz)
      have hs6 := hs5.ext s6.h
      have ho6 := ho5.step s6
      have g46 := s5.g.trans s6.g
      have dh6 := dh4.up g46
      have hw6 := hw.up t6.g
      have ul45 : (unlike Ct C').length ≤ 45 := by omega
      refine s_asg (M := Z) exZ s6.gh ((gd_lc (fun i => standsB W (flip Ct ((unlike Ct C').getD i 0))) (fun i => .int ((unlike Ct C').getD i 0 : Nat)) (src_list (gd_var rfl (d8.up s6.g))) (by rw [List.length_map]; omega) fun i G2 x hi e2 hx => ?_).is (show _ = nD ((unlike Ct C').filter fun k => standsB W (flip Ct k)) by
        rw [List.length_map]
        exact congrArg PyData.list (kept1_list (unlike Ct C') 0 (fun k => standsB W (flip Ct k)) fun k : Nat => PyData.int k))) fun v9 G7 H7 s7 d9 => ?_
      · rw [List.length_map] at hi
        rw [getD_map (z := 0) hi] at hx
        have hk : (unlike Ct C').getD i 0 < Ct.length := (mem_unlike.mp (getD_mem hi)).1
        exact ⟨_, tg_name, rfl, gt_B (gd_call (ga_cons (gd_var rfl (hw6.up e2)) (ga_cons (gd_call (ga_cons (gd_var rfl (dh6.up e2)) (ga_cons (gd_var rfl hx) ga_nil)) ⟨Ct, _, hk, by omega, rfl, rfl⟩) ga_nil)) ⟨W, _, ok, flip_ok stt.ok _, rfl, rfl⟩), fun _ => gd_var rfl hx⟩
      have fin : ∀ a ∈ (unlike Ct C').filter fun k => standsB W (flip Ct k), a ∈ unlike Ct C' ∧ Stands W (flip Ct a) := fun a ha => ⟨(List.mem_filter.mp ha).1, standsB_iff.mp (List.mem_filter.mp ha).2⟩
      have pos : 0 < ((unlike Ct C').filter fun k => standsB W (flip Ct k)).length := by
        have := (List.getElem?_eq_some_iff.mp n1).1
        omega
      have fl := List.length_filter_le (fun k => standsB W (flip Ct k)) (unlike Ct C')
      generalize (unlike Ct C').filter (fun k => standsB W (flip Ct k)) = F at d9 fin pos fl
      have t7 := t6.trans (s7.rm (noRm t6.gh) hs6.nz)
      have hs7 := hs6.ext s7.h
      have ho7 := ho6.step s7
      refine s_unless (M := Z) exZ s7.gh (gt_test ((gd_eq (gd_var rfl d9) (gd_lst ga_nil (by simp)) (lay_nD _).sh lay_nil.sh).is (by
        unfold nD
        rw [eqv_nil, List.isEmpty_map]
        cases F with
        | nil => exact absurd pos (Nat.lt_irrefl 0)
        | cons a r => rfl))) fun G8 H8 s8 => ?_
      have t8 := t7.trans (s8.rm (noRm t7.gh) hs7.nz)
      have hs8 := hs7.ext s8.h
      have ho8 := ho7.step s8
      have d98 := d9.up s8.g
      have ek : k + ((ties W).length - t) = (k + ((ties W).length - (t + 1))) + 1 := by omega
      rw [ek] at hs8
      refine sx_asg (k := k + ((ties W).length - (t + 1))) (c := 1) (M := Z) exZ t8.gh hs8 ((gx_op (D := fun d => ∃ a : Nat, a ∈ F ∧ d = .int a) rfl (gx_of (gd_var rfl d98)) (gx_draw (n := F.length) (i := 0) rfl ((gd_lenL (gd_var rfl d98)).is (by rw [List.length_map])) (by omega) (by omega)) fun d e h1 h2 => ?_).cost (by omega)) fun d v10 G9 H9 ⟨a, ha, e⟩ t9 hs9 d10 => ?_
      · subst h1
        obtain ⟨r, rfl, hr⟩ := h2
        refine ⟨.int (F.getD r 0 : Nat), ⟨_, getD_mem hr, rfl⟩, fun v w G1 H hG1 k1 k2 Q1 q1 => ?_⟩
        obtain ⟨pa, xs, rfl, ga, hx⟩ := k1.lst_of
        cases k2
        obtain ⟨z, z1, z2⟩ := hx.get (i := r) (d := .int (F.getD r 0 : Nat)) (by rw [List.getElem?_map, getD_get (z := 0) hr]; rfl)
        exact .inl ⟨pa, xs, r, z, rfl, rfl, SqL.of (hG1 _ _ ga), atI_nat z1, q1.go hG1 z2⟩
      subst e
      cases d10
      obtain ⟨au, as⟩ := fin a ha
      have ak : a < Ct.length := (mem_unlike.mp au).1
      have t19 := t8.trans t9
      have ho9 := ho8.stepX nef t9
      have g49 : Ex G4 G9 := (g46.trans s7.g).trans (s8.g.trans t9.g)
      have lus : us.length ≤ t := by
        have := du3.length
        rw [List.length_map] at this
        omega
      refine s_app (M := Z) exZ (exRm t9.gh) ho9 rfl (by omega) (gd_ixL (gd_var rfl ((dt3.up s4.g).up g49)) (gd_var rfl (.int (a : Int))) (atI_map (getD_get (z := (0, 0)) (by omega)))) fun x G10 H10 s10 ho10 dx => ?_
      have t20 := t19.trans (s10.rm (noRm t19.gh) hs9.nz)
      have tA := ho10.stpX nef t20 npf0 (o := .lst (us ++ [x]))
      have hsA := (hs9.ext s10.h).ups (o := .lst (us ++ [x])) nef
      have hoA : Hold G10 (upd H10 pf (.lst (us ++ [x]))) pf (us ++ [x]) := ho10.put
      have g410 := g49.trans s10.g
      refine s_asgE (M := Z) exZ (exRm tA.gh) (gd_call (ga_cons (gd_var rfl (dh4.up g410)) (ga_cons (gd_var rfl (.int (a : Int))) ga_nil)) ⟨Ct, a, ak, by omega, rfl, rfl⟩) fun y G11 H11 s11 dy => ?_
      have g311 : Ex G3 G11 := (s4.g.trans g410).trans s11.g
      have uf := unlike_flip stt.ok st'.ok au
      have ufl := unlike_flip_len stt.ok st'.ok au
      refine ⟨G11, g311, s11.gh, flip Ct a, ks ++ [a], y, us ++ [x], _, _, _, _, as, tA.trans (s11.rm (noRm tA.gh) hsA.nz), hsA.ext s11.h, hoA.step s11, ?_, dy, dt3.up g311, ?_, fun b hb => ?_, fun rest hp => ?_, by omega, by rw [List.length_append, List.length_singleton]; omega, rfl⟩
      · rw [List.map_append]
        exact (du3.up g311).append (.cons (dx.up s11.g) .nil)
      · refine List.nodup_append.mpr ⟨nd, List.nodup_cons.mpr ⟨(fun z => nomatch z), List.nodup_nil⟩, fun b hb c hc e => ?_⟩
        rw [List.mem_singleton.mp hc] at e
        subst e
        exact (kin _ hb).2 au
      · rcases List.mem_append.mp hb with hb | hb
        · obtain ⟨k1, k2⟩ := kin b hb
          refine ⟨k1, fun z => k2 ?_⟩
          rw [uf] at z
          exact (List.mem_filter.mp z).1
        · rw [List.mem_singleton.mp hb]
          refine ⟨by omega, fun z => ?_⟩
          rw [uf] at z
          exact of_decide_eq_true (List.mem_filter.mp z).2 rfl
      · rw [List.map_append, List.append_assoc]
        refine path _ ⟨stt, ?_⟩
        show Path W C' (flip Ct ((ties W).idxOf ((ties W).getD a (0, 0)))) rest
        rw [idx_tie (by omega)]
        exact hp
    · have u0 : unlike Ct C' = [] := by
        cases hq : unlike Ct C' with
        | nil => rfl
        | cons a r =>
          rw [hq] at hb
          cases hb
      have g36 := (s4.g.trans s5.g).trans s6.g
      exact ⟨G6, g36, s6.gh, Ct, ks, h, us, _, _, _, _, stt, t5.trans (s6.rm (noRm t5.gh) hs5.nz), (hs5.ext s6.h).mono (by omega), ho5.step s6, du3.up g36, dh3.up g36, dt3.up g36, nd, kin, path, by rw [u0]; exact Nat.zero_le _, by omega, rfl⟩
  · rintro σ' G3 H3 g3 gh3 ⟨Ct, ks, h, us, l7, l8, l9, l10, stt, t3, hs3, ho3, du3, dh3, dt3, nd, kin, path, ul, lk, rfl⟩
    have u0 : unlike Ct C' = [] := List.eq_nil_of_length_eq_zero (by omega)
    have e := (unlike_nil stt.ok st'.ok).mp u0
    have t4 := ho3.knowX nef t3 npf0
    have p := path [] ⟨stt, e⟩
    rw [List.append_nil] at p
    refine ⟨_, rfl, q _ (.ref pf) _ H3 ⟨W, C, C', ks.map fun k => (ties W).getD k (0, 0), rfl, ⟨fun t ht => ?_, nodup_tieOf nd fun k hk => (kin k hk).1, p⟩, rfl⟩ t4 (hs3.mono (by omega)) (.lst upd_same ?_)⟩
    · obtain ⟨k, hk, rfl⟩ := List.mem_map.mp ht
      exact tie_mem (kin k hk).1
    · rw [List.map_map]
      exact du3.up ho3.up
end
end Sg

/-! repr of data -/
namespace Sg
open PySem PySem.Spec PyProof.Rows L2
open Evl (Ex)
def rRepr (K : PySem.W.Frag) : List V → Hp → VK → Prop := fun xs H Q => ∃ v d, xs = [v] ∧ Dp K H v d ∧ d.showable = true ∧ d.hasDict = false ∧ d.shown.length ≤ sizeLine ∧ d.depth ≤ 60 ∧ Q (.str d.shown) H
theorem call_reprD {X : Cx} {K : PySem.W.Frag} (eK : X.K = K) (hg : X.A.guards = some []) (hu : X.A.units + 65 < cLine) : CallR X (.builtin "repr") (rRepr K) := fun pins u σ H xs us Q I r h => by
  subst eK
  obtain ⟨v, d, rfl, hd, h1, h2, h3, h4, q⟩ := h
  obtain ⟨w, rfl, rw'⟩ := vals1 r
  obtain ⟨as, rd⟩ := Dp.reads I d v w hd rw'
  have fin : ∀ {h' : Heap} {t tk : Nat}, (∀ b o, u.heap.get? b = some o → h'.get? b = some o) → EP X pins σ Q (.str d.shown t) { u with heap := h', toks := tk } := fun {h' t tk} k => ⟨.str d.shown, H, I.kept k, ⟨_, rfl⟩, q⟩
  have rd' := rd
  cases rd with
  | none => exact P.repr_of_none (fin fun _ _ e => e)
  | bool b => cases b with
    | true => exact P.repr_of_bool (fin fun _ _ e => e)
    | false => exact P.repr_of_bool (fin fun _ _ e => e)
  | int i t => exact P.repr_of_int (of_decide_eq_true h1) (fin fun _ _ e => e)
  | str x t => exact P.repr_of_str (fin fun _ _ e => e) h3
  | list ho hc hdt hs => exact repr_of_reads' rd' h1 (PyData.noDict_hsm h2) hg (by omega) (fun _ _ e => e) (fun h' t tk k => fin k) h3
  | tuple ho hc hdt hs => exact repr_of_reads' rd' h1 (PyData.noDict_hsm h2) hg (by omega) (fun _ _ e => e) (fun h' t tk k => fin k) h3
  | dict ho hc hdt hs hs2 => exact repr_of_reads' rd' h1 (PyData.noDict_hsm h2) hg (by omega) (fun _ _ e => e) (fun h' t tk k => fin k) h3
/-! ### values that are judged -/
structure ItemJ (d : PyData) : Prop where
  ok : OkItem d
  sh : d.showable = true
  nd : d.hasDict = false
  ln : d.shown.length ≤ 60
structure OkJ (d : PyData) : Prop where
  ok : OkV d
  sh : d.showable = true
  nd : d.hasDict = false
  ln : d.shown.length ≤ 100000
theorem all_shown : ∀ {xs : List PyData}, (∀ y ∈ xs, ItemJ y) → PyData.showableAll xs = true ∧ PyData.hasDictAll xs = false ∧ (PyData.shownAll xs).length = xs.length ∧ ((PyData.shownAll xs).map (·.length)).sum ≤ 60 * xs.length
  | [], _ => ⟨by simp [PyData.showableAll], by simp [PyData.hasDictAll], by simp [PyData.shownAll], by simp [PyData.shownAll]⟩
  | x :: xs, h => by
    obtain ⟨h1, h2, h3, h4⟩ := all_shown (xs := xs) fun y hy => h y (List.mem_cons_of_mem _ hy)
    have hx := h x List.mem_cons_self
    refine ⟨by simp [PyData.showableAll, h1, hx.sh], by simp [PyData.hasDictAll, h2, hx.nd], by simp [PyData.shownAll, h3], ?_⟩
    simp only [PyData.shownAll, List.map_cons, List.sum_cons, List.length_cons]
    have := hx.ln
    omega
theorem lst_J {xs : List PyData} (h : ∀ y ∈ xs, ItemJ y) (l : xs.length ≤ 200) : OkJ (.list xs) := by
  obtain ⟨h1, h2, h3, h4⟩ := all_shown h
  refine ⟨⟨lay_lst (n := 2) fun y hy => (h y hy).ok.1, fun ys e => ?_⟩, by simp only [PyData.showable]; exact h1, by simp only [PyData.hasDict]; exact h2, ?_⟩
  · injection e with e
    subst e
    exact ⟨l, fun y hy => (h y hy).ok⟩
  · simp only [PyData.shown]
    have := listText_len_le (PyData.shownAll xs)
    omega
theorem tup_J {xs : List PyData} (h : ∀ y ∈ xs, ItemJ y) (l : xs.length ≤ 200) : OkJ (.tuple xs) := by
  obtain ⟨h1, h2, h3, h4⟩ := all_shown h
  refine ⟨⟨lay_tup (n := 2) fun y hy => (h y hy).ok.1, fun ys e => nomatch e⟩, by simp only [PyData.showable]; exact h1, by simp only [PyData.hasDict]; exact h2, ?_⟩
  simp only [PyData.shown]
  have := tupleText_len_le (PyData.shownAll xs)
  omega
theorem non_J : OkJ .none := ⟨⟨lay_non, fun xs e => nomatch e⟩, rfl, rfl, by decide⟩
theorem five_J : OkJ (.int 5) := ⟨⟨lay_int 5, fun xs e => nomatch e⟩, by decide +kernel, rfl, by decide +kernel⟩
theorem two_ok {a b : PyData} (ha : Lay 1 a) (hb : Lay 1 b) : OkItem (.tuple [a, b]) ∧ OkItem (.list [a, b]) := by
  have h : ∀ d ∈ [a, b], Lay 1 d := fun d hd => by
    rcases List.mem_cons.mp hd with rfl | hd
    · exact ha
    · rw [List.mem_singleton.mp hd]
      exact hb
  refine ⟨⟨lay_tup h, fun xs e => ?_⟩, ⟨lay_lst h, fun xs e => ?_⟩⟩
  · rcases e with e | e
    · cases e
    · cases e
      simp
  · rcases e with e | e
    · cases e
      simp
    · cases e
/-- the pairs of small numbers, as tuples and as lists -/
def pairsShort : Bool := (List.range 10).all fun a => (List.range 10).all fun b =>
  (PyData.tuple [.int (a : Int), .int (b : Int)]).showable && decide ((PyData.tuple [.int (a : Int), .int (b : Int)]).shown.length ≤ 60) && (PyData.list [.int (a : Int), .int (b : Int)]).showable && decide ((PyData.list [.int (a : Int), .int (b : Int)]).shown.length ≤ 60)
theorem pairs_short : pairsShort = true := by decide +kernel
theorem pair_J {a b : Nat} (ha : a < 10) (hb : b < 10) : ItemJ (.tuple [.int (a : Int), .int (b : Int)]) ∧ ItemJ (.list [.int (a : Int), .int (b : Int)]) := by
  have h := List.all_eq_true.mp (List.all_eq_true.mp pairs_short a (List.mem_range.mpr ha)) b (List.mem_range.mpr hb)
  rw [Bool.and_eq_true, Bool.and_eq_true, Bool.and_eq_true] at h
  obtain ⟨⟨⟨h1, h2⟩, h3⟩, h4⟩ := h
  obtain ⟨k1, k2⟩ := two_ok (lay_int (n := 1) (a : Int)) (lay_int (b : Int))
  exact ⟨⟨k1, h1, rfl, of_decide_eq_true h2⟩, ⟨k2, h3, rfl, of_decide_eq_true h4⟩⟩
theorem tie_J {W : Web} (ok : WebOk W) {t : Nat × Nat} (ht : t ∈ ties W) : ItemJ (tieD t) ∧ ItemJ (.list [.int (t.1 : Int), .int (t.2 : Int)]) := by
  obtain ⟨h1, h2, _⟩ := mem_ties.mp ht
  have le := ok.le
  exact pair_J (by omega) (by omega)
theorem tieL_J {W : Web} (ok : WebOk W) {ts : List (Nat × Nat)} (h : ∀ t ∈ ts, t ∈ ties W) (l : ts.length ≤ 200) : OkJ (tieL ts) := lst_J (fun y hy => by
  obtain ⟨t, ht, rfl⟩ := List.mem_map.mp hy
  exact (tie_J ok (h t ht)).1) (by rw [List.length_map]; exact l)
/-- what a walk is bent with -/
def oddD : List PyData := [.tuple [.int 0, .int 0], .tuple [.int 1, .int 0], .tuple [.int 0, .int 99], .none, .int 0, .list [.int 0, .int 1], .tuple [.int 0, .bool true], .str "01", .tuple [.int 0], .tuple []]
theorem odd_J : ∀ d ∈ oddD, ItemJ d := by
  have key : ∀ d : PyData, d.canLay0 = true → d.depth ≤ 2 → (∀ xs, (d = .list xs ∨ d = .tuple xs) → xs.length ≤ 200) → d.showable = true → d.hasDict = false → d.shown.length ≤ 60 → ItemJ d := fun d h1 h2 h3 h4 h5 h6 => ⟨⟨⟨h1, h2⟩, h3⟩, h4, h5, h6⟩
  have len : ∀ (d : PyData) (ys : List PyData), (d = .list ys ∨ d = .tuple ys) → ys.length ≤ 200 → ∀ xs, (d = .list xs ∨ d = .tuple xs) → xs.length ≤ 200 := fun d ys h1 h2 xs h3 => by
    rcases h1 with rfl | rfl <;> rcases h3 with h3 | h3 <;> first | (injection h3 with h3; subst h3; exact h2) | cases h3
  intro d hd
  simp only [oddD, List.mem_cons, List.not_mem_nil, or_false] at hd
  rcases hd with rfl | rfl | rfl | rfl | rfl | rfl | rfl | rfl | rfl | rfl
  · exact key _ (by decide +kernel) (by decide +kernel) (len _ _ (.inr rfl) (by decide)) (by decide +kernel) rfl (by decide +kernel)
  · exact key _ (by decide +kernel) (by decide +kernel) (len _ _ (.inr rfl) (by decide)) (by decide +kernel) rfl (by decide +kernel)
  · exact key _ (by decide +kernel) (by decide +kernel) (len _ _ (.inr rfl) (by decide)) (by decide +kernel) rfl (by decide +kernel)
  · exact key _ (by decide +kernel) (by decide +kernel) (fun xs e => by rcases e with e | e <;> cases e) (by decide +kernel) rfl (by decide +kernel)
  · exact key _ (by decide +kernel) (by decide +kernel) (fun xs e => by rcases e with e | e <;> cases e) (by decide +kernel) rfl (by decide +kernel)
  · exact key _ (by decide +kernel) (by decide +kernel) (len _ _ (.inl rfl) (by decide)) (by decide +kernel) rfl (by decide +kernel)
  · exact key _ (by decide +kernel) (by decide +kernel) (len _ _ (.inr rfl) (by decide)) (by decide +kernel) rfl (by decide +kernel)
  · exact key _ (by decide +kernel) (by decide +kernel) (fun xs e => by rcases e with e | e <;> cases e) (by decide +kernel) rfl (by decide +kernel)
  · exact key _ (by decide +kernel) (by decide +kernel) (len _ _ (.inr rfl) (by decide)) (by decide +kernel) rfl (by decide +kernel)
  · exact key _ (by decide +kernel) (by decide +kernel) (len _ _ (.inr rfl) (by decide)) (by decide +kernel) rfl (by decide +kernel)
section
variable {K : PySem.W.Frag} {σ : L2.St} {M G : Hp} {te tx : TE} {d : PyData} {ds : List PyData}
/-- repr(x) -/
theorem gd_repr (h : Gd te σ M G d) (h1 : d.showable = true) (h2 : d.hasDict = false) (h3 : d.shown.length ≤ 100000) (h4 : d.depth ≤ 60) : Gd (tCB (rRepr K) (tCons te tNil)) σ M G (.str d.shown) := gd_cb (ga_cons h ga_nil) fun vs G1 H _ hG hv Q q => by
  obtain ⟨v, rfl, d1⟩ := hv.one
  exact ⟨v, d, rfl, (d1.up hG).dp, h1, h2, sz h3, h4, q.go hG (.str _)⟩
/-! slices of lists -/
theorem gd_takeL {k : Nat} (h : Gd te σ M G (.list ds)) (hx : Gd tx σ M G (.int k)) (hk : k ≤ ds.length) : Gd (tSl (rSlL K) te tNoPart (tPart tx)) σ M G (.list (ds.take k)) := fun H hM hG Q q =>
  h H hM hG _ fun v G1 H1 s1 d1 => (hx.mono s1.g) H1 (hM.trans s1.h) s1.gh _ fun w G2 H2 s2 d2 => by
    obtain ⟨a, xs, rfl, ga, dx⟩ := (d1.up s2.g).lst_of
    cases d2
    have lx := dx.length
    refine ⟨k, rfl, a, xs, rfl, SqL.of (s2.gh _ _ ga), fun p hp => ?_⟩
    have e : cutV xs none (some (k : Int)) = xs.take k := by
      unfold cutV
      rw [sIx_pos (show k ≤ xs.length by omega)]
      have e0 : HT.sIx xs.length 0 none = 0 := rfl
      rw [e0, List.drop_zero, Nat.sub_zero]
    rw [e]
    exact ret_lst s2.gh (dx.take k) (q.from (s1.trans s2)) p hp
theorem gd_dropL {k : Nat} (h : Gd te σ M G (.list ds)) (hx : Gd tx σ M G (.int k)) : Gd (tSl (rSlL K) te (tPart tx) tNoPart) σ M G (.list (ds.drop k)) := fun H hM hG Q q =>
  h H hM hG _ fun v G1 H1 s1 d1 => (hx.mono s1.g) H1 (hM.trans s1.h) s1.gh _ fun w G2 H2 s2 d2 => by
    obtain ⟨a, xs, rfl, ga, dx⟩ := (d1.up s2.g).lst_of
    cases d2
    refine ⟨k, rfl, a, xs, rfl, SqL.of (s2.gh _ _ ga), fun p hp => ?_⟩
    have e : cutV xs (some (k : Int)) none = xs.drop k := by
      unfold cutV
      have e1 : HT.sIx xs.length 0 (some (k : Int)) = min k xs.length := HT.sIx_nat _ _ _
      have e0 : HT.sIx xs.length xs.length none = xs.length := rfl
      rw [e1, e0]
      by_cases hk : k ≤ xs.length
      · rw [Nat.min_eq_left hk]
        exact List.take_of_length_le (by rw [List.length_drop]; exact Nat.le_refl _)
      · rw [Nat.min_eq_right (by omega), List.drop_eq_nil_of_le (Nat.le_refl _), List.drop_eq_nil_of_le (by omega), List.take_nil]
    rw [e]
    exact ret_lst s2.gh (dx.drop k) (q.from (s1.trans s2)) p hp
theorem DxA.rev {G : Hp} : ∀ {vs : List V} {ds : List PyData}, DxA G vs ds → DxA G vs.reverse ds.reverse
  | _, _, .nil => .nil
  | _, _, .cons h hs => by
    rw [List.reverse_cons, List.reverse_cons]
    exact (DxA.rev hs).append (.cons h .nil)
theorem gd_rev (h : Gd te σ M G (.list ds)) : Gd (tRevL K te) σ M G (.list ds.reverse) := fun H hM hG Q q =>
  h H hM hG _ fun v G1 H1 s1 d1 => by
    obtain ⟨a, xs, rfl, ga, dx⟩ := d1.lst_of
    exact ⟨a, xs, rfl, SqL.of (s1.gh _ _ ga), ret_lst s1.gh dx.rev (q.from s1)⟩
end
end Sg

/-! bent -/
namespace Sg
open PySem PySem.Spec PyProof.Rows L2
open Evl (Ex)
def QBent (ds : List PyData) : Prop := ∃ W ts, WebOk W ∧ (∀ t ∈ ts, t ∈ ties W) ∧ ts.length ≤ 45 ∧ ds = [webD W, tieL ts]
def PBent (ds : List PyData) (d : PyData) : Prop := OkJ d
section
variable {P : Program} {w : World} {K : PySem.W.Frag} {mg : Str → Option Value} {base : Heap} {f : Addr} {fd : FuncData}
/-- l[draw(source, len)] -/
theorem gx_pick {σ : L2.St} {s : Addr} {M G : Hp} {te tn : TE} {ds : List PyData} {E : XK} {i : Nat} (nM : M s = none) (hi : σ[i]? = some (some (.ref s))) (h : Gd te σ M G (.list ds)) (hn : Gd tn σ M G (.int ds.length)) (h1 : 1 ≤ ds.length) (h2 : ds.length ≤ 1000) :
    Gx (tOp (rIx2 K) te (tCall (Spx 1 QDraw PDraw) [] E (tCons (tVar i) (tCons tn tNil)))) σ s M G (fun d => d ∈ ds) 1 :=
  (gx_op (D := fun d => d ∈ ds) nM (gx_of h) (gx_draw (n := ds.length) (i := i) hi hn h1 h2) fun d e k1 k2 => by
    subst k1
    obtain ⟨r, rfl, hr⟩ := k2
    refine ⟨ds.getD r .none, getD_mem hr, fun v w G1 H hG1 d1 d2 Q1 q1 => ?_⟩
    obtain ⟨pa, xs, rfl, ga, hx⟩ := d1.lst_of
    cases d2
    obtain ⟨z, z1, z2⟩ := hx.get (i := r) (d := ds.getD r .none) (getD_get hr)
    exact .inl ⟨pa, xs, r, z, rfl, rfl, SqL.of (hG1 _ _ ga), atI_nat z1, q1.go hG1 z2⟩).cost (by omega)
theorem scLawBent : FnScope ["_law_source_here", "_law_web_here", "_law_walk_here", "_law_ties_here", "_law_at", "_law_new", "_law_mixed", "_law_some", "_law_k", "_law_tie"] ["_law_source_here", "_law_web_here", "_law_walk_here"] (defScope sLawBent) := ⟨rfl, rfl, rfl, by decide +kernel, rfl, by decide +kernel, by decide +kernel⟩
theorem ok_law_bent (D : Df K mg "_law_bent" sLawBent ["_law_source_here", "_law_web_here", "_law_walk_here"] f fd) (B : Bi mg) (c_law_draw : Has P w K mg base 1 "_law_draw" (Spx 1 QDraw PDraw)) (c_law_row : Has P w K mg base 2 "_law_row" (Spx 100 QRow PRow)) (c_law_ties : Has P w K mg base 1 "_law_ties" (Spd PTies)) :
    FnOk P w K mg base CX0 3 f fd ["_law_source_here", "_law_web_here", "_law_walk_here"] (Spx 110 QBent PBent) := by
  refine D.F.ok scLawBent (Spx.len (n := 3) fun ds ⟨_, _, _, _, _, e⟩ => by rw [e]; rfl) (fun cdv A outer s H vs Q E hr h => ?_)
  obtain ⟨sa, us, G, ds, k, rfl, hG, hv, ⟨W, ts, ok, hts, l45, rfl⟩, hs, q⟩ := h
  obtain ⟨vw, vl, rfl, hw, hl⟩ := hv.two
  refine ⟨_, PSs.nox (pss_cons (ps_set (i := 3) scLawBent.nd rfl (.inl rfl) (pe_has c_law_ties hr (by decide) (by rfl) (pa_cons (pv 1) pa_nil))) (pss_cons (ps_set (i := 4) scLawBent.nd rfl (.inl rfl) (pe_has c_law_draw hr (by decide) (by rfl) (pa_cons (pv 0) (pa_cons (pe_op (op_plusK (K := K) rfl) (pe_callB (call_lenK (K := K) rfl) (by rfl) B.len bb_len (pa_cons (pv 2) pa_nil)) pe_int) pa_nil)))) (pss_cons (ps_set (i := 5) scLawBent.nd rfl (.inl rfl) (pe_ix (ix_twoK (K := K) rfl) (pe_op (op_plusK (K := K) rfl) (pv 3) (pe_lst (pa_cons (pe_tup (pa_cons pe_int (pa_cons pe_int pa_nil))) (pa_cons (pe_tup (pa_cons pe_int (pa_cons pe_int pa_nil))) (pa_cons (pe_tup (pa_cons pe_int (pa_cons pe_int pa_nil))) (pa_cons pe_non (pa_cons pe_int (pa_cons (pe_lst (pa_cons pe_int (pa_cons pe_int pa_nil))) (pa_cons (pe_tup (pa_cons pe_int (pa_cons pe_bl pa_nil))) (pa_cons pe_str (pa_cons (pe_tup (pa_cons pe_int pa_nil)) (pa_cons (pe_tup pa_nil) pa_nil)))))))))))) (pe_has c_law_draw hr (by decide) (by rfl) (pa_cons (pv 0) (pa_cons (pe_op (op_plusK (K := K) rfl) (pe_callB (call_lenK (K := K) rfl) (by rfl) B.len bb_len (pa_cons (pv 3) pa_nil)) pe_int) pa_nil))) (fun _ _ => rfl))) (pss_cons (ps_setLc (i := 6) (own := [("_law_k", 8)]) rfl scLawBent.nd rfl rfl (sw_true rfl rfl rfl (by decide +kernel)) (pi_tupK (K := K) rfl (pe_has c_law_row hr (by decide) (by rfl) (pa_cons (pv 0) (pa_cons (pe_callB (call_lenK (K := K) rfl) (by rfl) B.len bb_len (pa_cons (pv 2) pa_nil)) pa_nil)))) (blkOk_by (own := [("_law_k", 8)]) (N := ["_law_source_here", "_law_web_here", "_law_walk_here", "_law_ties_here", "_law_at", "_law_new", "_law_mixed", "_law_some", "_law_k", "_law_tie"]) (sc := defScope sLawBent) (by decide +kernel)) (fun _ _ _ _ _ => (pg_name (i := 8) scLawBent.nd rfl (.inl rfl))) (fun _ _ _ _ _ => pts_nil) (fun _ _ _ _ _ => (pe_ix (ix_twoK (K := K) rfl) (pv 2) (pv 8) (fun _ _ => rfl)))) (pss_cons (ps_set (i := 7) scLawBent.nd rfl (.inl rfl) (pe_lst (pa_cons (pe_op (op_plusK (K := K) rfl) (pe_slice (sl_lstK (K := K) rfl) (pv 2) po_none (po_some (pv 4))) (pe_slice (sl_lstK (K := K) rfl) (pv 2) (po_some (pe_op (op_plusK (K := K) rfl) (pv 4) pe_int)) po_none)) (pa_cons (pe_op (op_plusK (K := K) rfl) (pe_op (op_plusK (K := K) rfl) (pe_slice (sl_lstK (K := K) rfl) (pv 2) po_none (po_some (pv 4))) (pe_lst (pa_cons (pv 5) pa_nil))) (pe_slice (sl_lstK (K := K) rfl) (pv 2) (po_some (pv 4)) po_none)) (pa_cons (pe_op (op_plusK (K := K) rfl) (pe_op (op_plusK (K := K) rfl) (pe_op (op_plusK (K := K) rfl) (pe_slice (sl_lstK (K := K) rfl) (pv 2) po_none (po_some (pv 4))) (pe_lst (pa_cons (pv 5) pa_nil))) (pe_slice (sl_lstK (K := K) rfl) (pv 2) (po_some (pv 4)) po_none)) (pe_lst (pa_cons (pv 5) pa_nil))) (pa_cons (pe_revK (K := K) rfl (pv 2)) pa_nil)))))) (pss_cons (ps_set (i := 7) scLawBent.nd rfl (.inl rfl) (pe_op (op_plusK (K := K) rfl) (pv 7) (pe_lst (pa_cons (pv 6) (pa_cons (pv 6) (pa_cons (pe_op (op_plusK (K := K) rfl) (pe_op (op_plusK (K := K) rfl) (pe_slice (sl_lstK (K := K) rfl) (pv 2) po_none (po_some (pv 4))) (pe_lst (pa_cons (pv 5) pa_nil))) (pe_slice (sl_lstK (K := K) rfl) (pv 2) (po_some (pe_op (op_plusK (K := K) rfl) (pv 4) pe_int)) po_none)) (pa_cons (pe_callTy (call_tupK (K := K) rfl) (by rfl) B.tuple bb_tuple (pa_cons (pv 2) pa_nil)) (pa_cons pe_non (pa_cons (pe_lst pa_nil) (pa_cons (pe_op (op_plusK (K := K) rfl) (pv 2) (pv 2)) (pa_cons pe_int (pa_cons (pe_lc (own := [("_law_tie", 9)]) rfl scLawBent.nd (pi_lstK (K := K) rfl (pv 2)) (blkOk_by (own := [("_law_tie", 9)]) (N := ["_law_source_here", "_law_web_here", "_law_walk_here", "_law_ties_here", "_law_at", "_law_new", "_law_mixed", "_law_some", "_law_k", "_law_tie"]) (sc := defScope sLawBent) (by decide +kernel)) (fun _ _ _ _ _ => (pg_name (i := 9) scLawBent.nd rfl (.inl rfl))) (fun _ _ _ _ _ => pts_nil) (fun _ _ _ _ _ => (pe_callTy (call_lstK (K := K) rfl) (by rfl) B.list bb_list (pa_cons (pv 9) pa_nil)))) pa_nil)))))))))))) (pss_one (ps_ret (pe_ix (ix_twoK (K := K) rfl) (pv 7) (pe_has c_law_draw hr (by decide) (by rfl) (pa_cons (pv 0) (pa_cons (pe_callB (call_lenK (K := K) rfl) (by rfl) B.len bb_len (pa_cons (pv 7) pa_nil)) pa_nil))) (fun _ _ => rfl)))))))))), ?_⟩
  have tl := ties_len ok
  have XJ : ∀ y ∈ ts.map tieD, ItemJ y := fun y hy => by
    obtain ⟨t, ht, rfl⟩ := List.mem_map.mp hy
    exact (tie_J ok (hts t ht)).1
  have Xl : (ts.map tieD).length = ts.length := List.length_map ..
  refine s_asg (M := Z) exZ (exRm hG) (gd_call (ga_cons (gd_var rfl hw) ga_nil) ⟨W, ok, rfl, rfl⟩) fun vt G1 H1 s1 dt => ?_
  have t1 := s1.rm (noRm hG) hs.nz
  have hs1 := hs.ext s1.h
  refine sx_asg (k := k + 109) (c := 1) (M := Z) exZ t1.gh hs1 (gx_draw (n := ts.length + 1) (i := 0) rfl ((gd_plus (gd_lenL (gd_var rfl (hl.up t1.g))) gd_int).is (by rw [Xl, Int.natCast_add]; rfl)) (by omega) (by omega)) fun d va G2 H2 ⟨a, e, ha⟩ t2 hs2 da => ?_
  subst e
  cases da
  have LJ : ∀ y ∈ (ties W).map tieD ++ oddD, ItemJ y := fun y hy => by
    rcases List.mem_append.mp hy with hy | hy
    · obtain ⟨t, ht, rfl⟩ := List.mem_map.mp hy
      exact (tie_J ok ht).1
    · exact odd_J y hy
  have Ll : ((ties W).map tieD ++ oddD).length = (ties W).length + 10 := by
    rw [List.length_append, List.length_map]
    rfl
  have c0 : ∀ {σ : L2.St} {G : Hp}, Ga (tCons (tTup (tCons (tC (.int 0)) (tCons (tC (.int 0)) tNil))) (tCons (tTup (tCons (tC (.int 1)) (tCons (tC (.int 0)) tNil))) (tCons (tTup (tCons (tC (.int 0)) (tCons (tC (.int 99)) tNil))) (tCons (tC .non) (tCons (tC (.int 0)) (tCons (tLst (tCons (tC (.int 0)) (tCons (tC (.int 1)) tNil))) (tCons (tTup (tCons (tC (.int 0)) (tCons (tC (.bl true)) tNil))) (tCons (tC (.str "01")) (tCons (tTup (tCons (tC (.int 0)) tNil)) (tCons (tTup tNil) tNil)))))))))) σ Z G oddD := fun {σ G} =>
    ga_cons (gd_tup (ga_cons gd_int (ga_cons gd_int ga_nil)) (by simp)) (ga_cons (gd_tup (ga_cons gd_int (ga_cons gd_int ga_nil)) (by simp)) (ga_cons (gd_tup (ga_cons gd_int (ga_cons gd_int ga_nil)) (by simp)) (ga_cons gd_non (ga_cons gd_int (ga_cons (gd_lst (ga_cons gd_int (ga_cons gd_int ga_nil)) (by simp)) (ga_cons (gd_tup (ga_cons gd_int (ga_cons gd_bl ga_nil)) (by simp)) (ga_cons gd_str (ga_cons (gd_tup (ga_cons gd_int ga_nil) (by simp)) (ga_cons (gd_tup ga_nil (by simp)) ga_nil)))))))))
  have dt2 := dt.up t2.g
  refine sx_asg (k := k + 108) (c := 1) (M := Z) exZ t2.gh hs2 (gx_pick (ds := (ties W).map tieD ++ oddD) rfl rfl (gd_catL (gd_var rfl dt2) (gd_lst c0 (by decide)) (by rw [List.length_map]; have : oddD.length = 10 := rfl; omega)) ((gd_plus (gd_lenL (gd_var rfl dt2)) gd_int).is (by rw [Ll, List.length_map, Int.natCast_add]; rfl)) (by omega) (by omega)) fun nw vn G3 H3 hnw t3 hs3 dn => ?_
  have nJ := LJ nw hnw
  have t13 := (t1.trans t2).trans t3
  have hl3 := hl.up t13.g
  have rw1 := (gx_call (c := 100) (pre := QRow) (P := PRow) (E := E0) (σ := wipe [some (.ref sa), some vw, some vl, some vt, some (.int (a : Int)), some vn, none, none, none, none] []) (s := sa) (M := Z) (G := G3) (i := 0) rfl (gxa_of (ga_cons ((gd_lenL (K := K) (gd_var (i := 2) rfl hl3)).is (show _ = PyData.int (ts.length : Nat) by rw [Xl])) ga_nil)) fun ds e => ⟨ts.length, by omega, e⟩)
  have sx := srx_tup (K := K) (n := ts.length) rw1 fun d ⟨ds, e, hz⟩ => by
    obtain ⟨l, pm, rfl⟩ := hz _ e
    exact ⟨_, rfl, by rw [List.length_map, pm.length_eq, List.length_range]⟩
  have lc := gx_lc (c := 0) (te := tOp (rIx2 K) (tVar 2) (tVar 8)) (g := gName 8) (vs := [8]) (fun it i d => d ∈ ts.map tieD) rfl sx (by omega) fun it ⟨ds, ⟨ds1, e1, hz⟩, eit⟩ i G4 x hi e4 hx => by
    obtain ⟨l, pm, e3⟩ := hz _ e1
    injection e3 with e3
    subst e3
    have hl' : i < l.length := by
      rw [pm.length_eq, List.length_range]
      exact hi
    have eat : it i = .int (l.getD i 0 : Nat) := by
      rw [eit]
      exact getD_map hl'
    rw [eat] at hx
    have small : l.getD i 0 < ts.length := List.mem_range.mp (pm.mem_iff.mp (getD_mem hl'))
    exact ⟨_, tg_name, rfl, (gx_of (gd_ixL (gd_var rfl (hl3.up e4)) (gd_var rfl hx) (atI_map (getD_get (z := (0, 0)) small)))).imp fun d e => by
      rw [e]
      exact List.mem_map.mpr ⟨_, getD_mem small, rfl⟩⟩
  refine sx_asg (k := k + 8) (c := 100) (M := Z) exZ t3.gh hs3 (lc.cost (by omega)) fun d vm G4 H4 hd t4 hs4 dm => ?_
  obtain ⟨it, es, _, rfl, les, hes⟩ := hd
  have EJ : ∀ y ∈ es, ItemJ y := fun y hy => by
    obtain ⟨i, hi, rfl⟩ := List.getElem_of_mem hy
    have := hes i (by omega)
    rw [List.getD_eq_getElem?_getD, List.getElem?_eq_getElem hi] at this
    exact XJ _ this
  have t14 := t13.trans t4
  have hl4 := hl.up t14.g
  have dn4 := dn.up t4.g
  have e1 : ((a + 1 : Nat) : Int) = (a : Int) + 1 := by omega
  have vA : ∀ {σ : L2.St} {G : Hp}, σ[4]? = some (some (.int (a : Int))) → Gd (tVar 4) σ Z G (.int (a : Int)) := fun h => gd_var h (.int _)
  have vA1 : ∀ {σ : L2.St} {G : Hp}, σ[4]? = some (some (.int (a : Int))) → Gd (tOp (rPlus K) (tVar 4) (tC (.int 1))) σ Z G (.int (a + 1 : Nat)) := fun h => (gd_plus (vA h) gd_int).is (by rw [e1])
  have vN : ∀ {σ : L2.St} {G : Hp}, Ex G4 G → σ[5]? = some (some vn) → Gd (tLst (tCons (tVar 5) tNil)) σ Z G (.list [nw]) := fun e h => gd_lst (ga_cons (gd_var h (dn4.up e)) ga_nil) (by simp)
  have pT : ∀ {σ : L2.St} {G : Hp}, Ex G4 G → σ[2]? = some (some vl) → σ[4]? = some (some (.int (a : Int))) → Gd (tSl (rSlL K) (tVar 2) tNoPart (tPart (tVar 4))) σ Z G (.list ((ts.map tieD).take a)) := fun e h h' => gd_takeL (gd_var h (hl4.up e)) (vA h') (by rw [Xl]; omega)
  have pD : ∀ {σ : L2.St} {G : Hp}, Ex G4 G → σ[2]? = some (some vl) → σ[4]? = some (some (.int (a : Int))) → Gd (tSl (rSlL K) (tVar 2) (tPart (tVar 4)) tNoPart) σ Z G (.list ((ts.map tieD).drop a)) := fun e h h' => gd_dropL (gd_var h (hl4.up e)) (vA h')
  have pD1 : ∀ {σ : L2.St} {G : Hp}, Ex G4 G → σ[2]? = some (some vl) → σ[4]? = some (some (.int (a : Int))) → Gd (tSl (rSlL K) (tVar 2) (tPart (tOp (rPlus K) (tVar 4) (tC (.int 1)))) tNoPart) σ Z G (.list ((ts.map tieD).drop (a + 1))) := fun e h h' => gd_dropL (gd_var h (hl4.up e)) (vA1 h')
  have lT : ((ts.map tieD).take a).length ≤ 45 := by
    rw [List.length_take]
    omega
  have lD : ((ts.map tieD).drop a).length ≤ 45 := by
    rw [List.length_drop]
    omega
  have lD1 : ((ts.map tieD).drop (a + 1)).length ≤ 45 := by
    rw [List.length_drop]
    omega
  have TJ : ∀ y ∈ (ts.map tieD).take a, ItemJ y := fun y hy => XJ y (List.mem_of_mem_take hy)
  have DJ : ∀ b, ∀ y ∈ (ts.map tieD).drop b, ItemJ y := fun b y hy => XJ y (List.mem_of_mem_drop hy)
  have NJ : ∀ y ∈ [nw], ItemJ y := fun y hy => by
    rw [List.mem_singleton.mp hy]
    exact nJ
  have cJ : ∀ {x y : List PyData}, (∀ z ∈ x, ItemJ z) → (∀ z ∈ y, ItemJ z) → ∀ z ∈ x ++ y, ItemJ z := fun h1 h2 z hz => (List.mem_append.mp hz).elim (h1 z) (h2 z)
  generalize hT : (ts.map tieD).take a = xT at pT lT TJ
  generalize hD : (ts.map tieD).drop a = xD at pD lD
  generalize hD1 : (ts.map tieD).drop (a + 1) = xD1 at pD1 lD1
  have DJ0 : ∀ y ∈ xD, ItemJ y := by
    rw [← hD]
    exact DJ a
  have DJ1 : ∀ y ∈ xD1, ItemJ y := by
    rw [← hD1]
    exact DJ (a + 1)
  refine s_asg (M := Z) exZ (exRm t4.gh) (gd_lst (ga_cons (gd_catL (pT (Ex.refl _) rfl rfl) (pD1 (Ex.refl _) rfl rfl) (by omega)) (ga_cons (gd_catL (gd_catL (pT (Ex.refl _) rfl rfl) (vN (Ex.refl _) rfl) (by rw [List.length_singleton]; omega)) (pD (Ex.refl _) rfl rfl) (by rw [List.length_append, List.length_singleton]; omega))
    (ga_cons (gd_catL (gd_catL (gd_catL (pT (Ex.refl _) rfl rfl) (vN (Ex.refl _) rfl) (by rw [List.length_singleton]; omega)) (pD (Ex.refl _) rfl rfl) (by rw [List.length_append, List.length_singleton]; omega)) (vN (Ex.refl _) rfl) (by rw [List.length_append, List.length_append, List.length_singleton]; omega)) (ga_cons (gd_rev (gd_var rfl hl4)) ga_nil)))) (by simp)) fun v7 G5 H5 s5 d7 => ?_
  have t5 := t14.trans (s5.rm (noRm t14.gh) hs4.nz)
  have hs5 := hs4.ext s5.h
  have hl5 := hl4.up s5.g
  refine s_asg (M := Z) exZ s5.gh (gd_catL (gd_var rfl d7) (gd_lst (ga_cons (gd_var rfl (dm.up s5.g)) (ga_cons (gd_var rfl (dm.up s5.g)) (ga_cons (gd_catL (gd_catL (pT s5.g rfl rfl) (vN s5.g rfl) (by rw [List.length_singleton]; omega)) (pD1 s5.g rfl rfl) (by rw [List.length_append, List.length_singleton]; omega)) (ga_cons (gd_tupleL (gd_var rfl hl5)) (ga_cons gd_non (ga_cons (gd_lst ga_nil (by simp)) (ga_cons (gd_catL (gd_var rfl hl5) (gd_var rfl hl5) (by rw [Xl]; omega)) (ga_cons gd_int (ga_cons
    ((gd_lc (fun _ => true) (fun i => .list [.int ((ts.getD i (0, 0)).1 : Int), .int ((ts.getD i (0, 0)).2 : Int)]) (src_list (gd_var rfl hl5)) (by rw [Xl]; omega) fun i G6 x hi e6 hx => by
      rw [Xl] at hi
      rw [getD_map (z := (0, 0)) hi] at hx
      exact ⟨_, tg_name, rfl, gt_yes, fun _ => gd_listT (gd_var rfl hx)⟩).is (show _ = PyData.list (ts.map fun t => .list [.int (t.1 : Int), .int (t.2 : Int)]) by
        have := kept1_list ts (0, 0) (fun _ => true) fun t => PyData.list [.int (t.1 : Int), .int (t.2 : Int)]
        rw [List.filter_eq_self.mpr (fun _ _ => rfl)] at this
        rw [Xl]
        exact congrArg PyData.list this)) ga_nil))))))))) (by simp)) (by simp)) fun v8 G6 H6 s6 d8 => ?_
  have t6 := t5.trans (s6.rm (noRm t5.gh) hs5.nz)
  have hs6 := hs5.ext s6.h
  refine sx_ret (k := k) (c := 8) (M := Z) exZ t6.gh hs6 ((gx_pick (i := 0) rfl rfl (gd_var rfl d8) (gd_lenL (gd_var rfl d8)) (by simp) (by simp)).cost (by omega)) fun d v9 G7 H7 hd t7 hs7 d9 => q d v9 G7 H7 ?_ (t6.trans t7) hs7 d9
  simp only [List.mem_append, List.mem_cons, List.not_mem_nil, or_false, false_or] at hd
  have two : ∀ {x y : List PyData}, (∀ z ∈ x, ItemJ z) → (∀ z ∈ y, ItemJ z) → x.length + y.length ≤ 200 → OkJ (.list (x ++ y)) := fun h1 h2 l => lst_J (cJ h1 h2) (by rw [List.length_append]; exact l)
  rcases hd with (rfl | rfl | rfl | rfl) | rfl | rfl | rfl | rfl | rfl | rfl | rfl | rfl | rfl
  · exact two TJ DJ1 (by omega)
  · exact two (cJ TJ NJ) DJ0 (by rw [List.length_append, List.length_singleton]; omega)
  · exact two (cJ (cJ TJ NJ) DJ0) NJ (by rw [List.length_append, List.length_append, List.length_singleton]; omega)
  · exact lst_J (fun y hy => XJ y (List.mem_reverse.mp hy)) (by rw [List.length_reverse, Xl]; omega)
  · exact lst_J EJ (by omega)
  · exact lst_J EJ (by omega)
  · exact two (cJ TJ NJ) DJ1 (by rw [List.length_append, List.length_singleton]; omega)
  · exact tup_J XJ (by rw [Xl]; omega)
  · exact non_J
  · exact lst_J (fun y hy => nomatch hy) (Nat.zero_le _)
  · exact two XJ XJ (by rw [Xl]; omega)
  · exact five_J
  · exact lst_J (fun y hy => by
      obtain ⟨t, ht, rfl⟩ := List.mem_map.mp hy
      exact (tie_J ok (hts t ht)).2) (by rw [List.length_map]; omega)
end
end Sg

/-! calls by keywords alone; defs that ask that no repr is under way; the law's call -/
namespace Sg
open PySem PySem.Spec PyProof.Rows L2
open Evl (Ex)
section
variable {P : Program} {w : World} {K : PySem.W.Frag} {mg : Str → Option Value} {base : Heap} {x qual : Str} {params : Arguments} {body : List Stmt} {scope : Scope} {kws : List (Str × V)} {f : Addr} {fd : FuncData}
/-! ### keywords alone, named from the last parameter to the first -/
theorem kbindsR {ps : List Str} (F : FunD K x qual params body scope [] kws f fd)
    (h : ∀ (kV doc pm : Value) (an : Option Addr) (cdv ct : Value) (ws : List Value), ws.reverse.length = ps.length → bindArgs (PySem.W.fnOf x qual params body scope .none kV doc pm an cdv ct) ⟨[], ps.reverse.zip ws⟩ = pure (ps.zip ws.reverse)) :
    ∀ (u : Shared) (ws : List Value), K.In u.heap → ws.reverse.length = ps.length → BindsTo u fd ⟨[], ps.reverse.zip ws⟩ (ps.zip ws.reverse) := by
  obtain ⟨oc, od, dV, kV, doc, pm, an, cdv, ct, osl, rfl, lk, hcd, hD, hK⟩ := F.ex
  rcases hD with ⟨_, rfl⟩ | ⟨e, _⟩
  · exact fun u ws _ hl => .of_eq (h kV doc pm an cdv ct ws hl)
  · exact absurd rfl e
structure HasR (P : Program) (w : World) (K : PySem.W.Frag) (mg : Str → Option Value) (base : Heap) (k : Nat) (x : Str) (ks : List Str) (sp : Sp) : Prop where
  ex : ∃ (f : Addr) (fd : FuncData) (ps : List Str), ps.reverse = ks ∧ FnOk P w K mg base CX0 k f fd ps sp ∧ mg x = some (.ref f) ∧ PySem.W.keepIn K (.ref f) = true ∧
    ∀ (u : Shared) (ws : List Value), K.In u.heap → ws.reverse.length = ps.length → BindsTo u fd ⟨[], ps.reverse.zip ws⟩ (ps.zip ws.reverse)
def tCallR (sp : Sp) (E : XK) (tk : TA) : TE := fun σ H Q => tk σ H fun zs H1 => sp zs.reverse H1 Q E
end
section
variable {X : Cx} {k j : Nat} {x : Str} {ks : List Str} {sp : Sp} {tk t : TA} {p pos : Pos} {kws : List Keyword} {e : Expr} {es : List Expr}
theorem run_R {pins : List (Addr × Obj)} {σ : L2.St} {H : Hp} {u : Shared} {Q : VK} {ws : List Value} {zs : List V} {f : Addr} {fd : FuncData} {ps : List Str} (F : FnOk X.prog X.w X.K X.mg X.base CX0 k f fd ps sp) (hr : Room k X.A)
    (hb : ∀ (u : Shared) (ws : List Value), X.K.In u.heap → ws.reverse.length = ps.length → BindsTo u fd ⟨[], ps.reverse.zip ws⟩ (ps.zip ws.reverse)) (I : Inv X pins σ H u) (rz : Vals zs ws) (h : sp zs.reverse H Q E0) :
    wpAny (model X.prog X.w) X.A (call (.ref f) ([] ++ []) (ps.reverse.zip ws)) (EP X pins σ Q) X.xe u := by
  have r2 := Vals.reverse rz
  have hl : ws.reverse.length = ps.length := by
    rw [← r2.length]
    exact F.len _ _ _ _ h
  refine wpAny_call (codeAny_mono (F.run X.A X.stack u H ⟨[], ps.reverse.zip ws⟩ ws.reverse zs.reverse Q E0 hr I.env0 (hb u ws I.kIn hl) r2 h) fun r u' hq => ?_)
  match r, hq with
  | .error e, hq => exact False.elim hq
  | .ok (.ret v), hq => exact I.after hq
  | .ok .next, hq => exact False.elim hq
  | .ok .brk, hq => exact False.elim hq
  | .ok .cont, hq => exact False.elim hq
theorem pe_hasK (c : HasR X.prog X.w X.K X.mg X.base k x ks sp) (hr : Room j X.A) (hk : k ≤ j) (hg : Gl X x) (hkw : PK X kws tk) (hall : (backToKw pos (keywordEach kws X.env)).all (·.1.isSome) = true := by rfl) (hks : (backToKw pos (keywordEach kws X.env)).filterMap (·.1) = ks := by rfl)
    (hdb : (x == ("__debug__" : Str)) = false := by decide) (hpl : ((backTo pos (starEach [] X.env)).any (·.1) || (backToKw pos (keywordEach kws X.env)).any (·.1.isNone)) = false := by rfl) :
    PE X (.Call (.Name x p) [] kws pos) (tCallR sp E0 tk) := by
  obtain ⟨f, fd, ps, rfl, F, hm, kp, b⟩ := c.ex
  refine ⟨fun pins u σ H Q I h => wpAny_Call_Name_kw (ld_glob I hg hm ?_ hdb)⟩
  refine PySem.W.callWith_KW0 (h₀ := X.base) I.ok.mod.kin kp hall (thn (hkw.run pos pins u σ H _ I h) fun ws u1 ⟨zs, H1, I1, rz, q⟩ => ⟨I1.kIn, ?_⟩) hpl
  rw [hks]
  exact run_R F (hr.mono hk) b I1 rz q
/-! ### no repr under way -/
structure FnG (P : Program) (w : World) (K : PySem.W.Frag) (mg : Str → Option Value) (base : Heap) (k : Nat) (f : Addr) (fd : FuncData) (ps : List Str) (sp : Sp) : Prop where
  len : ∀ vs H Q E, sp vs H Q E → vs.length = ps.length
  run : ∀ (A : Around) (outer : List Env) (u : Shared) (H : Hp) (args : Args) (us : List Value) (vs : List V) (Q : VK) (E : XK), A.guards = some [] → Room k A → Env0 P w K mg base A outer u H → BindsTo u fd args (ps.zip us) → Vals vs us → sp vs H Q E →
    codeAny (model P w) A (.call (.ref f) args) (CR CX0 outer P w H u Q E) u
structure HasG (P : Program) (w : World) (K : PySem.W.Frag) (mg : Str → Option Value) (base : Heap) (k : Nat) (x : Str) (sp : Sp) : Prop where
  ex : ∃ (f : Addr) (fd : FuncData) (ps : List Str), FnG P w K mg base k f fd ps sp ∧ mg x = some (.ref f) ∧ PySem.W.keepIn K (.ref f) = true ∧ Binds K fd ps []
theorem pe_hasG (c : HasG X.prog X.w X.K X.mg X.base k x sp) (hgd : X.A.guards = some []) (hr : Room j X.A) (hk : k ≤ j) (hg : Gl X x) (ha : PA X (e :: es) t)
    (hdb : (x == ("__debug__" : Str)) = false := by decide) (he : starEach (e :: es) X.env = (false, eval e X.env) :: starEach es X.env := by rfl) (hpl : (backTo pos (starEach es X.env)).any (·.1) = false := by rfl) :
    PE X (.Call (.Name x p) (e :: es) [] pos) (tCall sp [] E0 t) := by
  obtain ⟨f, fd, ps, F, hm, kp, b⟩ := c.ex
  refine ⟨fun pins u σ H Q I h => wpAny_Call_Name_kw (ld_glob I hg hm ?_ hdb)⟩
  refine PySem.W.callWith_K (h₀ := X.base) I.ok.mod.kin kp (thn (ha.run pos pins u σ H _ I h) fun us u1 ⟨vs, H1, I1, r, q⟩ => ⟨I1.kIn, ?_⟩) he hpl
  have q : sp (vs ++ []) H1 Q E0 := q
  rw [List.append_nil] at q
  have hl : us.length = ps.length := by
    rw [← r.length]
    exact F.len _ _ _ _ q
  have hb := b u1 us I1.kIn (by rw [List.append_nil]; exact hl)
  rw [List.append_nil] at hb
  refine wpAny_call (codeAny_mono (F.run X.A X.stack u1 H1 ⟨us, []⟩ us vs Q E0 hgd (hr.mono hk) I1.env0 hb r q) fun r u' hq => ?_)
  match r, hq with
  | .error e, hq => exact False.elim hq
  | .ok (.ret v), hq => exact I1.after hq
  | .ok .next, hq => exact False.elim hq
  | .ok .brk, hq => exact False.elim hq
  | .ok .cont, hq => exact False.elim hq
end
section
variable {P : Program} {w : World} {K : PySem.W.Frag} {mg : Str → Option Value} {base : Heap} {x qual : Str} {params : Arguments} {body : List Stmt} {scope : Scope} {dvs : List V} {kws : List (Str × V)} {f : Addr} {fd : FuncData}
/-- a body keeps such a promise -/
theorem okG {N ps : List Str} {k : Nat} {sp : Sp} (F : FunD K x qual params body scope dvs kws f fd) (S : FnScope N ps scope) (len : ∀ vs H Q E, sp vs H Q E → vs.length = ps.length)
    (step : ∀ (cdv : Value) (A : Around) (outer : List Env) (u : Shared) (H : Hp) (vs : List V) (Q : VK) (E : XK), (A.deeper (envOfC qual scope u.heap.objs.size f cdv)).guards = some [] → Room k (A.deeper (envOfC qual scope u.heap.objs.size f cdv)) → sp vs H Q E →
      ∃ t, PSs (cxOf CX0 P w K mg base N qual scope f cdv A outer u H E) body t ∧ t { nx := fun _ H' => Q .non H', rt := Q } (start N vs) H) : FnG P w K mg base (k + 1) f fd ps sp := by
  obtain ⟨oc, od, dV, kV, doc, pm, an, cdv, ct, osl, rfl, lk, hcd, _, _⟩ := F.ex
  refine ⟨len, fun A outer u H args us vs Q E hgd hr e0 hb r hsp => ?_⟩
  have still : ∀ b o, base.get? b = some o → u.heap.get? b = some o := fun b o e => (e0.bs b o e).1
  have inK : K.In u.heap := e0.mod.kin.keeps still
  have lim : u.heap.NoLimit := e0.mod.nolimit.keeps still
  have kinds : ∀ y ∈ ps.zip us, scope.names.lookup y.1 = some .local ∨ (scope.names.lookup y.1 = some .cell ∧ ((cellsFrom (u.heap.objs.size + 1) scope.names []).lookup y.1).isSome = true) := fun ⟨n, v⟩ hy =>
    (S.par n (List.of_mem_zip hy).1).elim .inl fun q => .inr ⟨q, PySem.W.cellsFrom_some _ _ _ (.inl q)⟩
  refine codeAny_call_function hr.depth (inK _ _ lk) rfl S.co S.gen rfl (PySem.W.codeRec_of inK hcd) (hb _ _ _ _ ?_)
  refine wpAny_newFunctionEnv_cells S.kind kinds fun env he u1 xx => ?_
  subst he
  refine ⟨lim.keeps xx.toInCall.keep, codeAny_func ?_⟩
  obtain ⟨t, ht, hq⟩ := step cdv A outer u H vs Q E hgd (hr.deeper _) hsp
  have I : Inv (cxOf CX0 P w K mg base N qual scope f cdv A outer u H E) [] (start N vs) H u1 := inv_start S hr.hd e0 (len _ _ _ _ hsp) r xx
  refine wpAny_mono (ht.run [] u1 (start N vs) H _ I hq) (fun fl u' hs => ?_) fun e u' hs => hs
  have back : ∀ {σ' : L2.St} {H' : Hp} {v : V} {z : Value}, Inv (cxOf CX0 P w K mg base N qual scope f cdv A outer u H E) [] σ' H' u' → RelV v z → Q v H' → CE outer P w H u Q z u' :=
    fun {σ' H' v z} J rv q => ⟨v, H', J.os, J.bare, J.base, J.hok, rv, q⟩
  match fl, hs with
  | .ret z, ⟨v, σ', H', J, rv, q⟩ => exact back J rv q
  | .next, ⟨σ', H', J, q⟩ => exact back (v := V.non) (z := Value.none) J rfl q
  | .brk, ⟨_, _, _, q⟩ => exact False.elim q
  | .cont, ⟨_, _, _, q⟩ => exact False.elim q
end
end Sg

/-! the end of the head, for a law that asks that no repr is under way -/
namespace Sg
open PySem PySem.Spec PyProof.Rows L2
open Evl (Ex)
theorem law_callG {P : Program} {w : World} {K : PySem.W.Frag} {mg mb : Str → Option Value} {k : Nat} {fa a : Addr} {fd : FuncData} {x : Str} {sp : Sp} {u : Shared} {us : List Value} {zs : List Int}
    (inK : K.In u.heap) (nsG : u.heap.Ns mainGlobals mg) (nsB : u.heap.Ns builtinsNs mb) (boot : ∀ x : Str, x ≠ "__name__" → mb x = bootBuiltins x) (lim : u.heap.NoLimit) (gens : u.gens = #[])
    (lst : u.heap.get? a = some { cls := .type "list", data := .seq us.toArray }) (areInts : IntsAre us zs) (few : zs.length ≤ sizeLine) (hr : Room k callerA)
    (F : ∀ base : Heap, K.In base → base.Ns mainGlobals mg → FnG P w K mg base k fa fd [x] sp) (bind : ∀ (s : Shared) (v : Value), BindsTo s fd ⟨[v], []⟩ [(x, v)])
    (good : ∀ H : Hp, Only H → SqL K H a (zs.map V.int) → sp [.ref a] H (fun v _ => v = .bl true) fun _ _ _ => False) :
    codeAny (model P w) callerA (.call (.ref fa) ⟨[.ref a], []⟩) (fun r u' => r = .ok (.ret (.bool true)) ∧ OldK u.heap u'.heap ∧ u'.os = u.os ∧ AllBare u'.gens) u := by
  have rv := vals_ints areInts
  have lenU := areInts.length
  have core : ∀ H : Hp, Only H → SqL K H a (zs.map V.int) → HOk P w H u.heap → (∀ b, H b ≠ none → b = a) → (H a ≠ none → K.lookup a = none) →
      codeAny (model P w) callerA (.call (.ref fa) ⟨[.ref a], []⟩) (fun r u' => r = .ok (.ret (.bool true)) ∧ OldK u.heap u'.heap ∧ u'.os = u.os ∧ AllBare u'.gens) u := by
    intro H only seq hok alone outK
    have hid : ∀ {b : Addr} {o : Obj}, u.heap.get? b = some o → H b = none → (hidT u.heap H).get? b = some o := fun e n => hidT_get e n
    have dicts : ∀ {b : Addr} {o : Obj} {es : Array DictEntry} {ep : Nat}, u.heap.get? b = some o → o.data = .dict es ep → H b = none := fun {b o es ep} e d => by
      cases q : H b with
      | none => rfl
      | some z =>
        obtain rfl : b = a := alone b (by rw [q]; exact fun z => nomatch z)
        rw [lst] at e
        rw [← Option.some.inj e] at d
        cases d
    have spaces : ∀ {b : Addr} {m : Str → Option Value}, u.heap.Ns b m → (hidT u.heap H).Ns b m := fun {b m} ⟨o, es, ep, e, d, r⟩ => ⟨o, es, ep, hid e (dicts e d), d, r⟩
    have keptK : K.In (hidT u.heap H) := fun b o e => hid (inK b o e) (by
      cases q : H b with
      | none => rfl
      | some z =>
        obtain rfl : b = a := alone b (by rw [q]; exact fun z => nomatch z)
        rw [outK (by rw [q]; exact fun z => nomatch z)] at e
        cases e)
    have modu : Mod K mg (hidT u.heap H) := ⟨keptK, spaces nsG, ⟨mb, spaces nsB, boot⟩, let ⟨mc, h1, h2⟩ := lim; ⟨mc, spaces h1, h2⟩⟩
    have nob : ∀ {b : Addr}, b ∉ ([] : List Addr) := fun z => nomatch z
    have env : Env0 P w K mg (hidT u.heap H) callerA [] u H := ⟨rfl, modu, fun b o e => of_hidT e, Nat.le_of_eq (hidT_size _ _), trivial, fun b hb => absurd (show b ∈ ([] : List Addr) from hb) nob, hok, .of_eq gens⟩
    refine codeAny_mono ((F _ keptK (spaces nsG)).run callerA [] u H ⟨[.ref a], []⟩ [.ref a] [.ref a] _ _ rfl hr env (bind u (.ref a)) (.cons rfl .nil) (good H only seq)) fun r u' h => ?_
    match r, h with
    | .error e, h => exact False.elim h
    | .ok .next, h => exact False.elim h
    | .ok .brk, h => exact False.elim h
    | .ok .cont, h => exact False.elim h
    | .ok (.ret v), ⟨y, H', os, bare, un, hok', r', q⟩ =>
      have q' : y = .bl true := q
      subst q'
      obtain rfl : v = Value.bool true := r'
      refine ⟨rfl, OldK.of_keep fun b o e => ?_, os, bare⟩
      cases q : H b with
      | none => exact un.keep b o e q (by intro z; exact absurd (show b ∈ ([] : List Addr) from z) nob) nob
      | some z =>
        rcases only b with n | ⟨ob, xs, n⟩
        · rw [q] at n
          cases n
        · have n2 := un.frzs b ob _ n
          obtain ⟨e1, _⟩ := hok b _ n
          obtain ⟨e2, _⟩ := hok' b _ n2
          rw [e] at e1
          rw [Option.some.inj e1]
          exact e2
  cases hk : K.lookup a with
  | some o =>
    have e := inK a o hk
    rw [lst] at e
    cases e
    exact core (fun _ => none) (fun _ => .inl rfl) (.inr ⟨_, us.toArray, _, hk, rfl, rfl, rfl, by rw [List.size_toArray, lenU]; exact few, by simpa using rv⟩) (fun b z q => nomatch (show (none : Option HO) = some z from q)) (fun b q => absurd rfl q) fun q => absurd rfl q
  | none =>
    refine core (fun b => if b = a then some (.frz { cls := .type "list", data := .seq us.toArray } (.lst (zs.map V.int))) else none) (fun b => ?_) (.inl (.inr ⟨{ cls := .type "list", data := .seq us.toArray }, if_pos rfl⟩)) (fun b z q => ?_) (fun b q => Decidable.byContradiction fun n => q (if_neg n)) fun _ => hk
    · by_cases e : b = a
      · exact .inr ⟨_, _, if_pos e⟩
      · exact .inl (if_neg e)
    · by_cases e : b = a
      · have q' := (if_pos e).symm.trans q
        cases q'
        subst e
        exact ⟨lst, by rw [List.length_map]; exact few, us, _, rv, lst⟩
      · have q' := (if_neg e).symm.trans q
        cases q'
theorem walk_ofG {l : PySem.W.OpenLaw} {n k : Nat} {q : Program} {loose : List Str} {XP : (Str → Option Value) → Heap → Prop} {YP : World → Heap → Prop} {d : DefRec} {x : Str}
    (most : l.most = some n) (le : n ≤ sizeLine) (nodef : d.params.defaults = []) (hr : Room k callerA)
    (F : ∀ (w : World) (mg : Str → Option Value) (fa : Addr) (h : Heap), YP w h → h.Ns mainGlobals mg → mg d.name = some (.ref fa) →
      ∃ (K : PySem.W.Frag) (fd : FuncData) (sp : Sp), K.In h ∧ (∀ (s : Shared) (v : Value), BindsTo s fd ⟨[v], []⟩ [(x, v)]) ∧
        (∀ (H : Hp) (a : Addr) (zs : List Int), zs.length ≤ n → Only H → SqL K H a (zs.map V.int) → sp [.ref a] H (fun v _ => v = .bl true) fun _ _ _ => False) ∧
        ∀ base : Heap, K.In base → base.Ns mainGlobals mg → FnG l.prog w K mg base k fa fd [x] sp) :
    PySem.W.WalkO q loose XP YP l.row.toRowW d [] (fun f vs => PySem.call f vs) := by
  refine Att.attach_call most nodef fun w u0 u mg mb fa o pm cd doc a us zs G Y ho hd hcd hmg hobj hints hlen hg => ?_
  obtain ⟨K, fd, sp, inK, hb, hsp, hF⟩ := F w mg fa _ Y G.T.g hmg
  exact law_callG inK G.T.g G.T.b G.T.builtins G.T.nolimit hg hobj hints (Nat.le_trans hlen le) hr hF hb fun H hO hS => hsp H a zs hlen hO hS
end Sg

/-! source, judged_right, sorted -/
namespace Sg
open PySem PySem.Spec PyProof.Rows L2
open Evl (Ex)
section
variable {K : PySem.W.Frag} {σ : L2.St} {M G : Hp} {te ta tb : TE}
theorem gd_eqS {x y : Str} (ha : Gd ta σ M G (.str x)) (hb : Gd tb σ M G (.str y)) : Gd (tOp rEq ta tb) σ M G (.bool (decide (x = y))) := gd_op ha hb fun v w G1 H _ hG h1 h2 Q q => by
  cases h1
  cases h2
  have e : decide (V.str x = V.str y) = decide (x = y) := by
    by_cases h : x = y
    · rw [h, decide_eq_true rfl, decide_eq_true rfl]
    · rw [decide_eq_false h, decide_eq_false fun z => h (V.str.inj z)]
  refine ⟨rfl, ?_⟩
  rw [e]
  exact q.go hG (.bl _)
theorem gd_neS {x y : Str} (ha : Gd ta σ M G (.str x)) (hb : Gd tb σ M G (.str y)) : Gd (tOp rNe ta tb) σ M G (.bool (!decide (x = y))) := gd_op ha hb fun v w G1 H _ hG h1 h2 Q q => by
  cases h1
  cases h2
  have e : decide (V.str x = V.str y) = decide (x = y) := by
    by_cases h : x = y
    · rw [h, decide_eq_true rfl, decide_eq_true rfl]
    · rw [decide_eq_false h, decide_eq_false fun z => h (V.str.inj z)]
  refine ⟨rfl, ?_⟩
  rw [e]
  exact q.go hG (.bl _)
theorem gd_reprB {b : Bool} (h : Gd te σ M G (.bool b)) : Gd (tCB (rRepr K) (tCons te tNil)) σ M G (.str (PyData.bool b).shown) := gd_repr h rfl rfl (by cases b <;> decide) (Nat.zero_le _)
theorem depthJ {d : PyData} (h : OkJ d) : d.depth ≤ 60 := Nat.le_trans h.ok.1.2 (by decide)
theorem gd_reprJ {d : PyData} (h : Gd te σ M G d) (j : OkJ d) : Gd (tCB (rRepr K) (tCons te tNil)) σ M G (.str d.shown) := gd_repr h j.sh j.nd j.ln (depthJ j)
/-- return [..], a new list -/
theorem s_retLst {H : Hp} {D : Ends} {ta : TA} {ds : List PyData} (hM : Ex M H) (hG : Ex G H) (h : Ga ta σ M G ds) (hl : ds.length ≤ 100000) (k : ∀ p xs G' H', Stp G H G' H' → H p = none → Hold G' H' p xs → DxA G' xs ds → D.rt (.ref p) H') : tRet (tLst ta) D σ H :=
  h H hM hG _ fun vs G1 H1 s1 d1 => ⟨sz (by rw [d1.length]; exact hl), fun p hp => k p vs G1 _ (s1.new hp) (fresh_of s1.h hp) (Hold.made s1.gh hp) d1⟩
/-- a call by keywords -/
theorem gd_callR {P : List PyData → PyData → Prop} {E : XK} {tk : TA} {ds : List PyData} {d : PyData} (h : Ga tk σ M G ds) (hp : P ds.reverse d) : Gd (tCallR (Spd P) E tk) σ M G d := fun H hM hG Q q =>
  h H hM hG _ fun vs G1 H1 s1 d1 => ⟨G1, ds.reverse, d, s1.gh, d1.rev, hp, q.from s1⟩
theorem gd_callRM {P : List PyData → List PyData → Prop} {E : XK} {tk : TA} {ds es : List PyData} (h : Ga tk σ M G ds) (hp : P ds.reverse es) : Gd (tCallR (Spm P) E tk) σ M G (.list es) := fun H hM hG Q q =>
  h H hM hG _ fun vs G1 H1 s1 d1 => ⟨G1, ds.reverse, es, s1.gh, d1.rev, hp, fun p us G' H' s np ho du => q _ (upd G' p (.lst us)) H' (s1.trans (ho.know s np)) (.lst upd_same (du.up ho.up))⟩
/-! sorted -/
theorem dxa_perm {G : Hp} {xs ys : List V} (h : ys.Perm xs) : ∀ {ts : List (Nat × Nat)}, DxA G xs (ts.map tieD) → ∃ ts' : List (Nat × Nat), ts'.Perm ts ∧ DxA G ys (ts'.map tieD) := by
  induction h with
  | nil => exact fun {ts} d => ⟨ts, List.Perm.refl _, d⟩
  | cons x _ ih =>
    intro ts d
    cases ts with
    | nil => cases d
    | cons t ts =>
      cases d with
      | cons d1 d2 =>
        obtain ⟨ts', p, d3⟩ := ih d2
        exact ⟨t :: ts', p.cons t, .cons d1 d3⟩
  | swap x y l =>
    intro ts d
    match ts, d with
    | t :: u :: ts, .cons d1 (.cons d2 d3) => exact ⟨u :: t :: ts, List.Perm.swap _ _ _, .cons d2 (.cons d1 d3)⟩
  | trans _ _ ih1 ih2 =>
    intro ts d
    obtain ⟨ts1, p1, d1⟩ := ih2 d
    obtain ⟨ts2, p2, d2⟩ := ih1 d1
    exact ⟨ts2, p2.trans p1, d2⟩
theorem dxa_mem {G : Hp} : ∀ {ts : List (Nat × Nat)} {xs : List V} {t : Nat × Nat}, DxA G xs (ts.map tieD) → t ∈ ts → ∃ x ∈ xs, Dx G x (tieD t)
  | u :: ts, _, t, .cons d1 d2, h => by
    rcases List.mem_cons.mp h with rfl | h
    · exact ⟨_, List.mem_cons_self, d1⟩
    · obtain ⟨x, hx, d⟩ := dxa_mem d2 h
      exact ⟨x, List.mem_cons_of_mem _ hx, d⟩
theorem tupI_of {K : PySem.W.Frag} {G H : Hp} {x : V} {t : Nat × Nat} (hG : Ex G H) (h : Dx G x (tieD t)) : TupI K H x (prI t) := by
  obtain ⟨a, xs, rfl, ga, hx⟩ := h.tup_of
  obtain ⟨u, w, rfl, d1, d2⟩ := hx.two
  cases d1
  cases d2
  exact ⟨a, rfl, SqT.of (hG _ _ ga)⟩
theorem code_pr (t : Nat × Nat) : TS.code 100 (prI t) = (t.1 : Int) * 100 + t.2 := by
  unfold prI TS.code TS.code TS.code
  simp
theorem pair_codes {K : PySem.W.Frag} {G H : Hp} (hG : Ex G H) : ∀ {ts : List (Nat × Nat)} {ys : List V}, DxA G ys (ts.map tieD) → ys.Pairwise (fun x y => ∀ n m, TupI K H x n → TupI K H y m → TS.code 100 n ≤ TS.code 100 m) → ts.Pairwise fun s t => (s.1 : Int) * 100 + s.2 ≤ (t.1 : Int) * 100 + t.2
  | [], _, _, _ => .nil
  | t :: ts, _, .cons d1 d2, h => by
    obtain ⟨h1, h2⟩ := List.pairwise_cons.mp h
    refine List.pairwise_cons.mpr ⟨fun u hu => ?_, pair_codes hG d2 h2⟩
    obtain ⟨y, hy, dy⟩ := dxa_mem d2 hu
    have q := h1 y hy _ _ (tupI_of hG d1) (tupI_of hG dy)
    rw [code_pr, code_pr] at q
    exact q
theorem gd_sorted {W : Web} (ok : WebOk W) {ts L : List (Nat × Nat)} (h : Gd te σ M G (tieL ts)) (ht : ∀ t ∈ ts, t ∈ ties W) (nd : ts.Nodup) (asc : L.Pairwise LexLt) (same : ∀ t, t ∈ L ↔ t ∈ ts) : Gd (tCB (rSortU K 2 100) (tCons te tNil)) σ M G (tieL L) := gd_cb (ga_cons h ga_nil) fun vs G1 H _ hG hv Q q => by
  obtain ⟨v, rfl, d1⟩ := hv.one
  obtain ⟨a, xs, rfl, ga, hx⟩ := d1.lst_of
  have le := ok.le
  have tl := ties_len ok
  have small : ∀ t ∈ ts, t.1 < 100 ∧ t.2 < 100 := fun t h => by
    obtain ⟨h1, h2, _⟩ := mem_ties.mp (ht t h)
    omega
  have l45 : ts.length ≤ 45 := Nat.le_trans (nodup_le nd ht) tl
  refine ⟨a, xs, rfl, SqL.of (hG _ _ ga), ?_, fun x hxm => ?_, fun ys p pm pw hp => ?_⟩
  · have := hx.length
    rw [List.length_map] at this
    omega
  · obtain ⟨i, hi, rfl⟩ := List.getElem_of_mem hxm
    obtain ⟨d, hd, dx⟩ := hx.getV (List.getElem?_eq_getElem hi)
    rw [List.getElem?_map] at hd
    obtain ⟨t, ht', rfl⟩ := Option.map_eq_some_iff.mp hd
    obtain ⟨b1, b2⟩ := small t (List.mem_of_getElem? ht')
    refine ⟨prI t, tupI_of hG dx, rfl, fun m hm => ?_⟩
    rcases List.mem_cons.mp hm with rfl | hm
    · omega
    · rw [List.mem_singleton.mp hm]
      omega
  · obtain ⟨ts', pm', d'⟩ := dxa_perm pm hx
    have pc := pair_codes hG d' pw
    have nd' : ts'.Nodup := pm'.nodup_iff.mpr nd
    have asc' : ts'.Pairwise LexLt := by
      refine List.Pairwise.imp_of_mem (fun {s t} hs ht' hh => ?_) (pc.and nd')
      obtain ⟨h1, h2⟩ := hh
      obtain ⟨b1, b2⟩ := small s (pm'.mem_iff.mp hs)
      obtain ⟨b3, b4⟩ := small t (pm'.mem_iff.mp ht')
      unfold LexLt
      by_cases e : s.1 = t.1
      · refine .inr ⟨e, ?_⟩
        have : s.2 ≠ t.2 := fun e2 => h2 (Prod.ext e e2)
        omega
      · exact .inl (by omega)
    have e : ts' = L := asc_unique asc' asc fun t => by rw [same t]; exact pm'.mem_iff
    rw [← e] at q
    exact ret_lst hG d' q p hp
end
/-! ### the source -/
def SpSource : Sp := fun vs H Q _ => ∃ (c : Int) (G : Hp), vs = [.int c] ∧ Ex G H ∧ ∀ p dg mx G' H', Stp G H G' H' → H p = none → Hold G' H' p (iv [dg, mx, 0]) → 0 ≤ dg → 0 ≤ mx → mx < 2 ^ 61 → Q (.ref p) H'
def PJudged (ds : List PyData) (d : PyData) : Prop := ∃ W C C' x, WebOk W ∧ ChOk W C ∧ ChOk W C' ∧ OkJ x ∧ ds = [webD W, chD C, chD C', x] ∧ d = .bool true
section
variable {P : Program} {w : World} {K : PySem.W.Frag} {mg : Str → Option Value} {base : Heap} {f : Addr} {fd : FuncData}
theorem scLawSource : FnScope ["_law_cell", "_law_digits"] ["_law_cell"] (defScope sLawSource) := ⟨rfl, rfl, rfl, by decide +kernel, rfl, by decide +kernel, by decide +kernel⟩
theorem ok_law_source (D : Df K mg "_law_source" sLawSource ["_law_cell"] f fd) (B : Bi mg) : FnOk P w K mg base CX0 1 f fd ["_law_cell"] SpSource := by
  refine D.F.ok scLawSource (fun vs H Q E ⟨c, G, e, _⟩ => by rw [e]; rfl) (fun cdv A outer s H vs Q E hr h => ?_)
  obtain ⟨c, G, rfl, hG, q⟩ := h
  refine ⟨_, PSs.nox (pss_cons (ps_set (i := 1) scLawSource.nd rfl (.inl rfl) (pe_ifExp (pt_cmpR op_ge (pv 0) (pe_op op_pow pe_int pe_int) (nomark _)) (pe_op op_sub (pv 0) (pe_op op_pow pe_int pe_int)) pe_int)) (pss_one (ps_ret (pe_lst (pa_cons (pv 1) (pa_cons (pe_op op_mod (pe_callTy call_int1 (by rfl) B.int bb_int (pa_cons (pv 0) pa_nil)) pe_int) (pa_cons pe_int pa_nil))))))), ?_⟩
  have pw : ∀ {σ : L2.St} {G : Hp}, Gd (tOp (rI CPow fun i j => .int (i ^ j.toNat)) (tC (.int 10)) (tC (.int 18))) σ Z G (.int 1000000000000000000) := fun {σ G} => (gd_I (C := CPow) (g := fun i j => i ^ j.toNat) gd_int gd_int ⟨by decide, by decide, by decide⟩).is (congrArg PyData.int (by decide +kernel))
  refine s_asg (M := Z) (d := .int (if decide (1000000000000000000 ≤ c) = true then c - 1000000000000000000 else 0)) exZ hG (gd_if (b := decide (1000000000000000000 ≤ c)) (gt_test (gd_B0 (gd_var rfl (.int c)) pw)) (fun hb => (gd_I0 (gd_var rfl (.int c)) pw).is (by rw [if_pos hb])) (fun hb => gd_int.is (by rw [hb]; rfl))) fun v G1 H1 s1 d1 => ?_
  cases d1
  have mod : ∀ {σ : L2.St}, σ[0]? = some (some (.int c)) → Gd (tOp (rI (fun _ j => 0 < j) fun i j => .int (i % j)) (tCB rInt1 (tCons (tVar 0) tNil)) (tC (.int 2305843009213693951))) σ Z G1 (.int (c % 2305843009213693951)) := fun h => gd_I (C := fun _ j => 0 < j) (gd_int1 (gd_var h (.int c))) gd_int (by decide)
  refine s_retLst (M := Z) exZ s1.gh (ga_cons (gd_var (i := 1) rfl (.int _)) (ga_cons (mod rfl) (ga_cons gd_int ga_nil))) (by simp) fun p vs G2 H2 s2 np ho dv => ?_
  obtain ⟨a, b, e, rfl, d1, d2, d3⟩ := dv.three
  cases d1
  cases d2
  cases d3
  have s12 := s1.trans s2
  have h1 := Int.emod_nonneg c (show (2305843009213693951 : Int) ≠ 0 by decide)
  have h2 := Int.emod_lt_of_pos c (show (0 : Int) < 2305843009213693951 by decide)
  refine q p _ _ G2 _ s12 (fresh_of s1.h np) ho ?_ h1 (by omega)
  split
  · rename_i hb
    have := of_decide_eq_true hb
    omega
  · exact Int.le_refl 0
theorem scLawJudgedRight : FnScope ["_law_web_here", "_law_choice", "_law_other_here", "_law_value", "_law_kept_here", "_law_due", "_law_found"] ["_law_web_here", "_law_choice", "_law_other_here", "_law_value"] (defScope sLawJudgedRight) := ⟨rfl, rfl, rfl, by decide +kernel, rfl, by decide +kernel, by decide +kernel⟩
theorem ok_law_judged_right (D : Df K mg "_law_judged_right" sLawJudgedRight ["_law_web_here", "_law_choice", "_law_other_here", "_law_value"] f fd) (B : Bi mg) (c_law_leads : Has P w K mg base 4 "_law_leads" (Spd PLeads)) (c_is_gate_row : Has P w K mg base 6 "is_gate_row" (Spd PIsRow))
    (k_is_gate_row : HasR P w K mg base 6 "is_gate_row" ["value", "other_choice", "choice", "web"] (Spd PIsRow)) : FnG P w K mg base 7 f fd ["_law_web_here", "_law_choice", "_law_other_here", "_law_value"] (Spd PJudged) := by
  refine okG D.F scLawJudgedRight (Spd.len (n := 4) fun ds d ⟨_, _, _, _, _, _, _, _, e, _⟩ => by rw [e]; rfl) (fun cdv A outer s H vs Q E hg hr h => ?_)
  obtain ⟨G, ds, d, hG, hv, ⟨W, C, C', x, ok, hC, hC', jx, rfl, rfl⟩, q⟩ := h
  obtain ⟨v, u, z, y, rfl, hw, hc, hd, hx⟩ := hv.four
  refine ⟨_, PSs.nox (pss_cons (ps_par (i := 4) (j := 5) rfl scLawJudgedRight.nd rfl rfl (by decide) rfl rfl (pa_cons (pe_callB (call_reprD (K := K) rfl hg (room65 hr)) (by rfl) B.repr bb_repr (pa_cons (pv 3) pa_nil)) (pa_cons (pe_has c_law_leads hr (by decide) (by rfl) (pa_cons (pv 0) (pa_cons (pv 1) (pa_cons (pv 2) (pa_cons (pv 3) pa_nil))))) pa_nil)) (by rfl)) (pss_cons (ps_if (pt_cmpR op_ne (pe_callB (call_reprD (K := K) rfl hg (room65 hr)) (by rfl) B.repr bb_repr (pa_cons (pe_has c_is_gate_row hr (by decide) (by rfl) (pa_cons (pv 0) (pa_cons (pv 1) (pa_cons (pv 2) (pa_cons (pv 3) pa_nil))))) pa_nil)) (pe_callB (call_reprD (K := K) rfl hg (room65 hr)) (by rfl) B.repr bb_repr (pa_cons (pv 5) pa_nil)) (nomark _)) (pss_one (ps_ret pe_bl)) pss_nil) (pss_cons (ps_set (i := 6) scLawJudgedRight.nd rfl (.inl rfl) (pe_hasK k_is_gate_row hr (by decide) (by rfl) (pk_cons (pv 3) (pk_cons (pv 2) (pk_cons (pv 1) (pk_cons (pv 0) pk_nil)))))) (pss_one (ps_ret (pe_and (pe_cmpR op_eq (pe_callB (call_reprD (K := K) rfl hg (room65 hr)) (by rfl) B.repr bb_repr (pa_cons (pv 6) pa_nil)) (pe_callB (call_reprD (K := K) rfl hg (room65 hr)) (by rfl) B.repr bb_repr (pa_cons (pv 5) pa_nil)) (nomark _)) (pe_one (pe_cmpR op_eq (pe_callB (call_reprD (K := K) rfl hg (room65 hr)) (by rfl) B.repr bb_repr (pa_cons (pv 3) pa_nil)) (pv 4) (nomark _))))))))), ?_⟩
  refine s_par2 (M := Z) exZ hG (ga_cons (gd_reprJ (gd_var rfl hx) jx) (ga_cons (gd_call (ga_cons (gd_var rfl hw) (ga_cons (gd_var rfl hc) (ga_cons (gd_var rfl hd) (ga_cons (gd_var rfl hx) ga_nil)))) ⟨W, C, C', x, ok, hC, hC', jx.ok, rfl, rfl⟩) ga_nil)) fun v4 v5 G1 H1 s1 d4 d5 => ?_
  have a1 := ga_cons (M := Z) (σ := [some v, some u, some z, some y, some v4, some v5, none]) (gd_var (i := 0) rfl (hw.up s1.g)) (ga_cons (gd_var (i := 1) rfl (hc.up s1.g)) (ga_cons (gd_var (i := 2) rfl (hd.up s1.g)) (ga_cons (gd_var (i := 3) rfl (hx.up s1.g)) ga_nil)))
  refine s_unless (M := Z) exZ s1.gh (gt_test ((gd_neS (gd_reprB (gd_call a1 (show PIsRow [webD W, chD C, chD C', x] (.bool (leadsB W C C' x)) from ⟨W, C, C', x, ok, hC, hC', jx.ok.l, rfl, rfl⟩))) (gd_reprB (gd_var rfl d5))).is (by rw [decide_eq_true rfl]; rfl))) fun G2 H2 s2 => ?_
  have s12 := s1.trans s2
  refine s_asg (M := Z) exZ s12.gh (gd_callR (P := PIsRow) (ga_cons (gd_var rfl (hx.up s12.g)) (ga_cons (gd_var rfl (hd.up s12.g)) (ga_cons (gd_var rfl (hc.up s12.g)) (ga_cons (gd_var rfl (hw.up s12.g)) ga_nil)))) ⟨W, C, C', x, ok, hC, hC', jx.ok.l, rfl, rfl⟩) fun v6 G3 H3 s3 d6 => ?_
  have s13 := s12.trans s3
  exact s_ret (M := Z) exZ s13.gh (gd_andT ((gd_eqS (gd_reprB (gd_var rfl d6)) (gd_reprB (gd_var rfl ((d5.up s2.g).up s3.g)))).is (by rw [decide_eq_true rfl])) ((gd_eqS (gd_reprJ (gd_var rfl (hx.up s13.g)) jx) (gd_var rfl ((d4.up s2.g).up s3.g))).is (by rw [decide_eq_true rfl]))) (q.from s13)
end
end Sg

/-! web_right -/
namespace Sg
open PySem PySem.Spec PyProof.Rows L2
open Evl (Ex)
/-- p is known no more -/
theorem stp_forget {G H G2 H2 : Hp} {p : Addr} {o : HO} (np : G p = none) (s : Stp (upd G p o) H G2 H2) : Stp G H (rm p G2) H2 where
  g := fun a u h => by
    have ne : a ≠ p := by
      rintro rfl
      rw [np] at h
      cases h
    rw [rm_ne ne]
    exact s.g a u (by rw [upd_ne ne]; exact h)
  h := s.h
  gh := fun a u h => by
    by_cases ne : a = p
    · subst ne
      rw [rm_same] at h
      cases h
    · rw [rm_ne ne] at h
      exact s.gh a u h
  fr := fun a ha => by
    by_cases ne : a = p
    · subst ne
      rw [rm_same, np]
    · rw [rm_ne ne, s.fr a ha, upd_ne ne]
theorem heldEx {G H : Hp} {p : Addr} {o : HO} (hM : Ex (upd Z p o) H) (hG : Ex G H) : Ex (upd G p o) H := fun a u h => by
  by_cases e : a = p
  · subst e
    exact hM _ _ (by rw [upd_same] at h ⊢; exact h)
  · rw [upd_ne e] at h
    exact hG _ _ h
section
variable {K : PySem.W.Frag} {σ : L2.St} {s : Addr} {M G H : Hp} {te ta tb : TE} {t : TT} {ts tz : TS} {D : Ends} {c k : Nat} {p : Addr} {o : HO}
/-- a test that reads a list that may change, as if it were known -/
theorem Gt.held {b : Bool} (np : G p = none) (h : Gt t σ Z (upd G p o) b) : Gt t σ (upd Z p o) G b := fun H hM hG Q q => h H exZ (heldEx hM hG) Q fun G2 H2 s2 => q _ H2 (stp_forget np s2)
theorem Gd.heldS {x : Str} (np : G p = none) (h : Gd te σ Z (upd G p o) (.str x)) : Gd te σ (upd Z p o) G (.str x) := fun H hM hG Q q => h H exZ (heldEx hM hG) Q fun v G2 H2 s2 d2 => by
  cases d2
  exact q _ _ H2 (stp_forget np s2) (.str x)
/-- if not te: .., where te, which draws, is True -/
theorem sx_unlessE (hM : Ex M H) (hG : Ex G (rm s H)) (hs : SrcAt H s (k + c)) (h : Gx te σ s M G (fun d => d = .bool true) c) (q : ∀ G' H', Stp G (rm s H) G' (rm s H') → SrcAt H' s k → D.nx σ H') : tIfS (tNot (tB te)) ts tNext D σ H :=
  h H k hM hG hs _ fun d v G1 H1 hd t1 hs1 dx => by
    subst hd
    exact ⟨true, dx.bl_of, iteF (q G1 H1 t1 hs1)⟩
/-- the count of gates is no less -/
theorem gt_many {i j l : Nat} {v1 v2 v3 : V} {W : Web} {ds : List PyData} (ok : WebOk W) (hi : σ[i]? = some (some v1)) (hj : σ[j]? = some (some v2)) (hl : σ[l]? = some (some v3)) (d1 : Dx G v1 (.list ds)) (d2 : Dx G v2 (webD W)) (d3 : Dx G v3 (tieL (ties W))) (h : ∀ b, PiecesB W b → W.length ≤ ds.length + b) :
    Gt (tTest (tOp (rI0 fun i j => .bl (decide (i < j))) (tCB (rLen2 K) (tCons (tVar i) tNil)) (tOp (rI0 fun i j => .int (i - j)) (tCB (rLen2 K) (tCons (tVar j) tNil)) (tOp (rIx2 K) (tCall (Sda QPieces PPieces) [] E0 (tCons (tVar j) (tCons (tVar l) tNil))) (tC (.int 1)))))) σ M G false := fun H hM hG Q q => by
  refine gd_lenL (K := K) (gd_var hi d1) H hM hG _ fun x G1 H1 s1 dx => ?_
  refine gd_lenT (K := K) (gd_var hj (d2.up s1.g)) H1 (hM.trans s1.h) s1.gh _ fun y G2 H2 s2 dy => ?_
  have s12 := s1.trans s2
  show tCons (tVar j) (tCons (tVar l) tNil) σ H2 (fun vs H3 => Sda QPieces PPieces (vs ++ []) H3 (fun a H4 => rIx2 K a (V.int 1) H4 fun b H5 => rI0 (fun i j => .int (i - j)) y b H5 fun z H6 => rI0 (fun i j => .bl (decide (i < j))) x z H6 fun e H7 => ∃ k, e = V.bl k ∧ Q k H7) E0)
  refine ga_cons (gd_var hj (d2.up s12.g)) (ga_cons (gd_var hl (d3.up s12.g)) ga_nil) H2 (hM.trans s12.h) s2.gh _ fun vs G3 H3 s3 dv => ?_
  refine ⟨G3, _, s3.gh, by rw [List.append_nil]; exact dv, ⟨W, ok, rfl⟩, fun d hp z G4 H4 s4 dz => ?_⟩
  obtain ⟨W', n, b, e1, rfl, hb⟩ := hp
  have eW : W = W' := by
    injection e1 with e1
    exact webD_inj e1
  subst eW
  cases dx
  cases dy
  obtain ⟨a, xs, rfl, ga, hx⟩ := dz.lst_of
  obtain ⟨u1, u2, rfl, k1, k2⟩ := hx.two
  cases k1
  cases k2
  refine .inl ⟨a, _, 1, .int b, rfl, rfl, SqL.of (s4.gh _ _ ga), rfl, _, _, rfl, rfl, _, _, rfl, rfl, _, rfl, ?_⟩
  have le := h b hb
  have e : decide ((ds.length : Int) < ((W.map rowD).length : Nat) - (b : Int)) = false := decide_eq_false (by rw [List.length_map]; omega)
  rw [e]
  exact q G4 H4 (s12.trans (s3.trans s4))
end
def PTrue (ds : List PyData) (d : PyData) : Prop := d = .bool true
section
variable {P : Program} {w : World} {K : PySem.W.Frag} {mg : Str → Option Value} {base : Heap} {f : Addr} {fd : FuncData}
theorem scLawWebRight : FnScope ["_law_source_here", "_law_web_here", "_law_choice", "_law_other_here", "_law_due", "_law_ties_here", "_law_found", "_law_told", "_law_k", "_law_kept_here", "_law_walk_here", "_law_turn", "_law_flipped", "_law_third"] ["_law_source_here", "_law_web_here"] (defScope sLawWebRight) := ⟨rfl, rfl, rfl, by decide +kernel, rfl, by decide +kernel, by decide +kernel⟩
theorem ok_law_web_right (D : Df K mg "_law_web_right" sLawWebRight ["_law_source_here", "_law_web_here"] f fd) (B : Bi mg) (c_law_kept : Has P w K mg base 2 "_law_kept" (Spd PKept)) (c_law_sized_row : Has P w K mg base 3 "_law_sized_row" (Spx 200 QRow PSized)) (c_law_gates : Has P w K mg base 3 "_law_gates" (Spd PLGates)) (c_law_ties : Has P w K mg base 1 "_law_ties" (Spd PTies))
    (c_gates : Has P w K mg base 6 "gates" (Spm PGates)) (k_gates : HasR P w K mg base 6 "gates" ["choice", "web"] (Spm PGates)) (c_law_pieces : Has P w K mg base 1 "_law_pieces" (Sda QPieces PPieces)) (c_gate_row : Has P w K mg base 6 "gate_row" (Spm PGateRow)) (k_gate_row : HasR P w K mg base 6 "gate_row" ["other_choice", "choice", "web"] (Spm PGateRow))
    (c_law_leads : Has P w K mg base 4 "_law_leads" (Spd PLeads)) (c_law_walk : Has P w K mg base 3 "_law_walk" (Spx 50 QWalk PWalk)) (c_law_judged_right : HasG P w K mg base 7 "_law_judged_right" (Spd PJudged)) (c_law_bent : Has P w K mg base 3 "_law_bent" (Spx 110 QBent PBent))
    (c_law_other : Has P w K mg base 1 "_law_other" (Spd POther)) (c_law_drawn_choice : Has P w K mg base 4 "_law_drawn_choice" (Spx 300 QChoice PChoice)) : FnG P w K mg base 8 f fd ["_law_source_here", "_law_web_here"] (Spx 1200 QChoice PTrue) := by
  refine okG D.F scLawWebRight (Spx.len (n := 2) fun ds ⟨_, _, e⟩ => by rw [e]; rfl) (fun cdv A outer s H vs Q E hg hr h => ?_)
  obtain ⟨sa, us, G, ds, k, rfl, hG, hv, ⟨W, ok, rfl⟩, hs, q⟩ := h
  obtain ⟨vw, rfl, hw⟩ := hv.one
  refine ⟨_, PSs.nox (pss_cons (ps_asg (pe_tup (pa_cons (pe_has c_law_kept hr (by decide) (by rfl) (pa_cons (pv 1) (pa_cons (pe_has c_law_sized_row hr (by decide) (by rfl) (pa_cons (pv 0) (pa_cons (pe_callB (call_lenK (K := K) rfl) (by rfl) B.len bb_len (pa_cons (pv 1) pa_nil)) pa_nil))) pa_nil))) (pa_cons (pe_has c_law_kept hr (by decide) (by rfl) (pa_cons (pv 1) (pa_cons (pe_has c_law_sized_row hr (by decide) (by rfl) (pa_cons (pv 0) (pa_cons (pe_callB (call_lenK (K := K) rfl) (by rfl) B.len bb_len (pa_cons (pv 1) pa_nil)) pa_nil))) pa_nil))) pa_nil))) (pg_tupK (K := K) (n := 2) rfl rfl (pgs_cons (pg_name (i := 2) scLawWebRight.nd rfl (.inr rfl)) (pgs_cons (pg_name (i := 3) scLawWebRight.nd rfl (.inr rfl)) pgs_nil)))) (pss_cons (ps_asg (pe_tup (pa_cons (pe_has c_law_gates hr (by decide) (by rfl) (pa_cons (pv 1) (pa_cons (pv 2) pa_nil))) (pa_cons (pe_has c_law_ties hr (by decide) (by rfl) (pa_cons (pv 1) pa_nil)) pa_nil))) (pg_tupK (K := K) (n := 2) rfl rfl (pgs_cons (pg_name (i := 4) scLawWebRight.nd rfl (.inl rfl)) (pgs_cons (pg_name (i := 5) scLawWebRight.nd rfl (.inr rfl)) pgs_nil)))) (pss_cons (ps_set (i := 6) scLawWebRight.nd rfl (.inl rfl) (pe_has c_gates hr (by decide) (by rfl) (pa_cons (pv 1) (pa_cons (pv 2) pa_nil)))) (pss_cons (ps_if (PW.pt (pw_or (pt_cmpR op_ne (pe_callB (call_reprD (K := K) rfl hg (room65 hr)) (by rfl) B.repr bb_repr (pa_cons (pv 6) pa_nil)) (pe_callB (call_reprD (K := K) rfl hg (room65 hr)) (by rfl) B.repr bb_repr (pa_cons (pv 4) pa_nil)) (nomark _)) (pw_or1 (pt_cmpR op_lt (pe_callB (call_lenK (K := K) rfl) (by rfl) B.len bb_len (pa_cons (pv 4) pa_nil)) (pe_op op_sub (pe_callB (call_lenK (K := K) rfl) (by rfl) B.len bb_len (pa_cons (pv 1) pa_nil)) (pe_ix (ix_twoK (K := K) rfl) (pe_has c_law_pieces hr (by decide) (by rfl) (pa_cons (pv 1) (pa_cons (pv 5) pa_nil))) pe_int (fun _ _ => rfl))) (nomark _))))) (pss_one (ps_ret pe_bl)) pss_nil) (pss_cons (ps_expr (pe_bm PySem.F.plainAttrs_list PySem.F.slot_list_append PySem.F.type_list_append mt_append (pv 6) (pa_cons (pe_tup pa_nil) pa_nil))) (pss_cons (ps_if (pt_cmpR (op_neDK (K := K) rfl hr.units) (pe_hasK k_gates hr (by decide) (by rfl) (pk_cons (pv 2) (pk_cons (pv 1) pk_nil))) (pv 4) (nomark _)) (pss_one (ps_ret pe_bl)) pss_nil) (pss_cons (ps_set (i := 7) scLawWebRight.nd rfl (.inl rfl) (pe_has c_gate_row hr (by decide) (by rfl) (pa_cons (pv 1) (pa_cons (pv 2) (pa_cons (pv 3) pa_nil))))) (pss_cons (ps_if (PW.pt (pw_or (pt_not (pt_val (pe_has c_law_leads hr (by decide) (by rfl) (pa_cons (pv 1) (pa_cons (pv 2) (pa_cons (pv 3) (pa_cons (pv 7) pa_nil))))))) (pw_or1 (pt_cmpR (op_neDK (K := K) rfl hr.units) (pe_callB (call_sortK (K := K) rfl (d := 2) (B := 100) (by decide)) (by rfl) B.sorted bb_sorted (pa_cons (pv 7) pa_nil)) (pe_lc (own := [("_law_k", 8)]) rfl scLawWebRight.nd (pi_range1 (by rfl) B.range (pa_cons (pe_callB (call_lenK (K := K) rfl) (by rfl) B.len bb_len (pa_cons (pv 5) pa_nil)) pa_nil)) (blkOk_by (own := [("_law_k", 8)]) (N := ["_law_source_here", "_law_web_here", "_law_choice", "_law_other_here", "_law_due", "_law_ties_here", "_law_found", "_law_told", "_law_k", "_law_kept_here", "_law_walk_here", "_law_turn", "_law_flipped", "_law_third"]) (sc := defScope sLawWebRight) (by decide +kernel)) (fun _ _ _ _ _ => (pg_name (i := 8) scLawWebRight.nd rfl (.inl rfl))) (fun _ _ _ _ _ => (pts_one (pt_cmpR (op_neDK (K := K) rfl hr.units) (pe_ix (ix_twoK (K := K) rfl) (pv 2) (pv 8) (fun _ _ => rfl)) (pe_ix (ix_twoK (K := K) rfl) (pv 3) (pv 8) (fun _ _ => rfl)) (nomark _)))) (fun _ _ _ _ _ => (pe_ix (ix_twoK (K := K) rfl) (pv 5) (pv 8) (fun _ _ => rfl)))) (nomark _))))) (pss_one (ps_ret pe_bl)) pss_nil) (pss_cons (ps_set (i := 9) scLawWebRight.nd rfl (.inl rfl) (pe_callB (call_reprD (K := K) rfl hg (room65 hr)) (by rfl) B.repr bb_repr (pa_cons (pv 7) pa_nil))) (pss_cons (ps_if (pt_cmpR op_ne (pe_callB (call_reprD (K := K) rfl hg (room65 hr)) (by rfl) B.repr bb_repr (pa_cons (pe_hasK k_gate_row hr (by decide) (by rfl) (pk_cons (pv 3) (pk_cons (pv 2) (pk_cons (pv 1) pk_nil)))) pa_nil)) (pv 9) (nomark _)) (pss_one (ps_ret pe_bl)) pss_nil) (pss_cons (ps_set (i := 10) scLawWebRight.nd rfl (.inl rfl) (pe_has c_law_walk hr (by decide) (by rfl) (pa_cons (pv 0) (pa_cons (pv 1) (pa_cons (pv 2) (pa_cons (pv 3) pa_nil)))))) (pss_cons (ps_if (PW.pt (pw_or (pt_cmpR op_isN (pv 10) pe_non (nomark _)) (pw_or (pt_not (pt_val (pe_hasG c_law_judged_right hg hr (by decide) (by rfl) (pa_cons (pv 1) (pa_cons (pv 2) (pa_cons (pv 3) (pa_cons (pv 10) pa_nil))))))) (pw_or1 (pt_not (pt_val (pe_hasG c_law_judged_right hg hr (by decide) (by rfl) (pa_cons (pv 1) (pa_cons (pv 2) (pa_cons (pv 3) (pa_cons (pv 7) pa_nil))))))))))) (pss_one (ps_ret pe_bl)) pss_nil) (pss_cons (ps_for PassesOwn.never rfl (pi_range1 (by rfl) B.range (pa_cons pe_int pa_nil)) (pg_name (i := 11) scLawWebRight.nd rfl (.inl rfl)) (pss_one (ps_if (pt_not (pt_val (pe_hasG c_law_judged_right hg hr (by decide) (by rfl) (pa_cons (pv 1) (pa_cons (pv 2) (pa_cons (pv 3) (pa_cons (pe_has c_law_bent hr (by decide) (by rfl) (pa_cons (pv 0) (pa_cons (pv 1) (pa_cons (pe_callTy (call_lstK (K := K) rfl) (by rfl) B.list bb_list (pa_cons (pv 10) pa_nil)) pa_nil)))) pa_nil))))))) (pss_one (ps_ret pe_bl)) pss_nil))) (pss_cons (ps_expr (pe_bm PySem.F.plainAttrs_list PySem.F.slot_list_append PySem.F.type_list_append mt_append (pv 7) (pa_cons pe_non pa_nil))) (pss_cons (ps_for PassesOwn.never rfl (pi_range1 (by rfl) B.range (pa_cons (pe_callB (call_lenK (K := K) rfl) (by rfl) B.len bb_len (pa_cons (pv 5) pa_nil)) pa_nil)) (pg_name (i := 8) scLawWebRight.nd rfl (.inl rfl)) (pss_cons (ps_set (i := 12) scLawWebRight.nd rfl (.inl rfl) (pe_has c_law_other hr (by decide) (by rfl) (pa_cons (pv 2) (pa_cons (pv 8) pa_nil)))) (pss_one (ps_if (PW.pt (pw_or (pt_not (pt_val (pe_hasG c_law_judged_right hg hr (by decide) (by rfl) (pa_cons (pv 1) (pa_cons (pv 2) (pa_cons (pv 12) (pa_cons (pe_lst (pa_cons (pe_ix (ix_twoK (K := K) rfl) (pv 5) (pv 8) (fun _ _ => rfl)) pa_nil)) pa_nil))))))) (pw_or1 (pt_not (pt_val (pe_hasG c_law_judged_right hg hr (by decide) (by rfl) (pa_cons (pv 1) (pa_cons (pv 12) (pa_cons (pv 2) (pa_cons (pe_lst (pa_cons (pe_ix (ix_twoK (K := K) rfl) (pv 5) (pv 8) (fun _ _ => rfl)) pa_nil)) pa_nil)))))))))) (pss_one (ps_ret pe_bl)) pss_nil)))) (pss_cons (ps_set (i := 13) scLawWebRight.nd rfl (.inl rfl) (pe_has c_law_drawn_choice hr (by decide) (by rfl) (pa_cons (pv 0) (pa_cons (pv 1) pa_nil)))) (pss_cons (ps_if (PW.pt (pw_or (pt_not (pt_val (pe_hasG c_law_judged_right hg hr (by decide) (by rfl) (pa_cons (pv 1) (pa_cons (pv 13) (pa_cons (pv 13) (pa_cons (pe_lst pa_nil) pa_nil))))))) (pw_or1 (pt_not (pt_val (pe_hasG c_law_judged_right hg hr (by decide) (by rfl) (pa_cons (pv 1) (pa_cons (pv 2) (pa_cons (pv 13) (pa_cons (pv 10) pa_nil)))))))))) (pss_one (ps_ret pe_bl)) pss_nil) (pss_one (ps_ret (pe_and (pe_hasG c_law_judged_right hg hr (by decide) (by rfl) (pa_cons (pv 1) (pa_cons (pv 13) (pa_cons (pv 3) (pa_cons (pv 10) pa_nil))))) (pe_one (pe_cmpR op_eq (pe_callB (call_reprD (K := K) rfl hg (room65 hr)) (by rfl) B.repr bb_repr (pa_cons (pe_has c_gate_row hr (by decide) (by rfl) (pa_cons (pv 1) (pa_cons (pv 2) (pa_cons (pv 3) pa_nil)))) pa_nil)) (pv 9) (nomark _))))))))))))))))))))))), ?_⟩
  have tl := ties_len ok
  have le := ok.le
  have kr := gx_keptRow (K := K) (s := sa) (M := Z) (G := G) (E := E0) (E' := E0) (σ := start ["_law_source_here", "_law_web_here", "_law_choice", "_law_other_here", "_law_due", "_law_ties_here", "_law_found", "_law_told", "_law_k", "_law_kept_here", "_law_walk_here", "_law_turn", "_law_flipped", "_law_third"] [.ref sa, vw]) rfl ok (i := 0) (j := 1) rfl rfl hw
  have ga0 := gxa_cons rfl kr (gxa_cons rfl kr gxa_nil)
  refine sx_asg2 (k := k + 800) (c := 400) (M := Z) exZ hG hs ((gx_tup ga0 fun ds ⟨d, es, _, ⟨d2, es2, _, e3, e2⟩, e1⟩ => by rw [e1, e2, e3]; simp).cost (by omega)) (fun z ⟨ds, ⟨d, es, _, ⟨d2, es2, _, e3, e2⟩, e1⟩, e⟩ => ⟨d, d2, by rw [e, e1, e2, e3]⟩) fun a b vc vo G1 H1 hd t1 hs1 dc dO => ?_
  obtain ⟨ds, ⟨d, es, ⟨C, st, ed⟩, ⟨d2, es2, ⟨C', st', ed2⟩, e3, e2⟩, e1⟩, e⟩ := hd
  subst e3 e2 e1
  injection e with e
  injection e with ea e
  injection e with eb _
  subst ea eb ed ed2
  have hC := st.ok
  have hC' := st'.ok
  have cl := ch_len ok hC
  have eC := hC.1
  have eC' := hC'.1
  let GT : List (Nat × Nat) := (gateIx W C).map fun k => (ties W).getD k (0, 0)
  have eGT : tieL GT = .list ((gateIx W C).map fun k => tieD ((ties W).getD k (0, 0))) := by
    show PyData.list (((gateIx W C).map fun k => (ties W).getD k (0, 0)).map tieD) = _
    rw [List.map_map]
    rfl
  have eGT2 : GT.map tieD = (gateIx W C).map fun k => tieD ((ties W).getD k (0, 0)) := by
    show ((gateIx W C).map fun k => (ties W).getD k (0, 0)).map tieD = _
    rw [List.map_map]
    rfl
  have gix : ∀ i ∈ gateIx W C, i < (ties W).length := fun i hi => List.mem_range.mp (List.mem_filter.mp hi).1
  have GTm : ∀ t ∈ GT, t ∈ ties W := fun t ht => by
    obtain ⟨i, hi, rfl⟩ := List.mem_map.mp ht
    exact tie_mem (gix i hi)
  have gl : (gateIx W C).length ≤ 45 := by
    have h := List.length_filter_le (fun k => standsB W (flip C k)) (List.range (ties W).length)
    rw [List.length_range] at h
    unfold gateIx
    omega
  have GTl : GT.length = (gateIx W C).length := List.length_map ..
  have GTJ : OkJ (tieL GT) := tieL_J ok GTm (by omega)
  refine s_asg2 (M := Z) (a := tieL GT) (b := tieL (ties W)) exZ (exRm t1.gh) (gd_tup (ga_cons (gd_call (ga_cons (gd_var rfl (hw.up t1.g)) (ga_cons (gd_var rfl dc) ga_nil)) ⟨W, C, ok, hC, rfl, eGT⟩) (ga_cons (gd_call (ga_cons (gd_var rfl (hw.up t1.g)) ga_nil) ⟨W, ok, rfl, rfl⟩) ga_nil)) (by simp)) fun vd vt G2 H2 s2 dd dt => ?_
  have t2 := t1.trans (s2.rm (noRm t1.gh) hs1.nz)
  have hs2 := hs1.ext s2.h
  have hw2 := hw.up t2.g
  have dc2 := dc.up s2.g
  have do2 := dO.up s2.g
  -- gates, to be changed
  refine s_set (s_callM (M := Z) exZ s2.gh (ga_cons (gd_var rfl hw2) (ga_cons (gd_var rfl dc2) ga_nil)) (show PGates [webD W, chD C] (GT.map tieD) from ⟨W, C, ok, st, rfl, eGT2⟩) fun pf uf G3 H3 s3 npf hf duf => ?_)
  have t3 := t2.trans (s3.rm (noRm t2.gh) hs2.nz)
  have hs3 := hs2.ext s3.h
  have nef := ne_src hs2 npf
  have npf0 : H pf = none := by
    have := fresh_of t2.h ((rm_ne nef).trans npf)
    rw [rm_ne nef] at this
    exact this
  have dd3 := dd.up s3.g
  have dt3 := dt.up s3.g
  have hw3 := hw2.up s3.g
  have fk : Dx (upd G3 pf (.lst uf)) (.ref pf) (tieL GT) := .lst upd_same (duf.up hf.up)
  refine s_unless (M := upd Z pf (.lst uf)) hf.one s3.gh (gt_orF (Gt.held hf.g (gt_test ((gd_neS (gd_reprJ (gd_var rfl fk) GTJ) (gd_reprJ (gd_var rfl (dd3.up hf.up)) GTJ)).is (by rw [decide_eq_true rfl]; rfl)))) (gt_many ok rfl rfl rfl dd3 hw3 dt3 fun b hb => by
    have := gates_many ok st hb
    rw [List.length_map, GTl]
    exact this)) fun G4 H4 s4 => ?_
  have t4 := t3.trans (s4.rm (noRm t3.gh) hs3.nz)
  have hs4 := hs3.ext s4.h
  refine s_app (M := Z) exZ s4.gh (hf.step s4) rfl (by
    have := duf.length
    rw [List.length_map] at this
    omega) (gd_tup ga_nil (by simp)) fun x G5 H5 s5 hf5 dx => ?_
  have t5a := t4.trans (s5.rm (noRm t4.gh) hs4.nz)
  have t5 := hf5.stpX nef t5a npf0 (o := .lst (uf ++ [x]))
  have hs5 := (hs4.ext s5.h).ups (o := .lst (uf ++ [x])) nef
  have g35 := s4.g.trans s5.g
  have g25 := s3.g.trans g35
  have hw5 := hw2.up g25
  have dc5 := dc2.up g25
  have do5 := do2.up g25
  have dd5 := dd3.up g35
  have dt5 := dt3.up g35
  have shL : ∀ l : List (Nat × Nat), SeqAt.shaped (.list (l.map tieD)) = true := fun l => (lay_tieL l).sh
  refine s_unless (M := Z) exZ (exRm t5.gh) (gt_test ((gd_ne (gd_callRM (P := PGates) (es := GT.map tieD) (ga_cons (gd_var rfl dc5) (ga_cons (gd_var rfl hw5) ga_nil)) ⟨W, C, ok, st, rfl, eGT2⟩) (gd_var rfl dd5) (shL GT) (shL GT)).is (by
    have := eqv_ties GT GT
    rw [decide_eq_true rfl] at this
    exact congrArg PyData.bool (congrArg (!·) this)))) fun G6 H6 s6 => ?_
  have t6 := t5.trans (s6.rm (noRm t5.gh) hs5.nz)
  have hs6 := hs5.ext s6.h
  have RL := gateRow_leads ok st st'
  have rl45 : (gateRow W C C').length ≤ 45 := Nat.le_trans (gateRow_len ok st st') tl
  have RJ : OkJ (tieL (gateRow W C C')) := tieL_J ok RL.1 (by omega)
  refine s_set (s_callM (M := Z) exZ s6.gh (ga_cons (gd_var rfl (hw5.up s6.g)) (ga_cons (gd_var rfl (dc5.up s6.g)) (ga_cons (gd_var rfl (do5.up s6.g)) ga_nil))) (show PGateRow [webD W, chD C, chD C'] ((gateRow W C C').map tieD) from ⟨W, C, C', ok, st, st', rfl, rfl⟩) fun pt ut G7 H7 s7 npt ht dut => ?_)
  have t7 := t6.trans (s7.rm (noRm t6.gh) hs6.nz)
  have hs7 := hs6.ext s7.h
  have net := ne_src hs6 npt
  have npt0 : H pt = none := by
    have := fresh_of t6.h ((rm_ne net).trans npt)
    rw [rm_ne net] at this
    exact this
  have g57 := s6.g.trans s7.g
  have hw7 := hw5.up g57
  have dc7 := dc5.up g57
  have do7 := do5.up g57
  have dt7 := dt5.up g57
  have tk : Dx (upd G7 pt (.lst ut)) (.ref pt) (tieL (gateRow W C C')) := .lst upd_same (dut.up ht.up)
  have lead1 : leadsB W C C' (tieL (gateRow W C C')) = true := leadsB_true.mpr ⟨_, rfl, RL⟩
  have GM := gateRow_mem ok st st'
  have ul : ((List.range (ties W).length).filter fun k => decide (C.getD k 0 ≠ C'.getD k 0)).map (fun k => tieD ((ties W).getD k (0, 0))) = (unlikeTies W C C').map tieD := by
    unfold unlikeTies unlike
    rw [List.map_map, eC]
    rfl
  refine s_unless (M := upd Z pt (.lst ut)) ht.one s7.gh (gt_orF (Gt.held ht.g (gt_notT (gt_B ((gd_call (ga_cons (gd_var rfl (hw7.up ht.up)) (ga_cons (gd_var rfl (dc7.up ht.up)) (ga_cons (gd_var rfl (do7.up ht.up)) (ga_cons (gd_var rfl tk) ga_nil)))) ⟨W, C, C', _, ok, hC, hC', RJ.ok, rfl, rfl⟩).is (by rw [lead1])))))
    (Gt.held ht.g (gt_test ((gd_ne (gd_sorted ok (gd_var rfl tk) RL.1 RL.2.1 (unlikeTies_asc hC) fun t => (GM.2 t).symm) ((gd_lc (n := (ties W).length) (fun k => decide (C.getD k 0 ≠ C'.getD k 0)) (fun k => tieD ((ties W).getD k (0, 0))) (src_range1 ((gd_lenL (gd_var rfl (dt7.up ht.up))).is (by rw [List.length_map])) (by omega)) (by omega) fun k G8 x hk e8 hx => ⟨_, tg_name, rfl, gt_test ((gd_ne (gd_ixT (gd_var rfl ((dc7.up ht.up).up e8)) (gd_var rfl hx) (atI_map (getD_get (z := 0) (by omega)))) (gd_ixT (gd_var rfl ((do7.up ht.up).up e8)) (gd_var rfl hx) (atI_map (getD_get (z := 0) (by omega)))) rfl rfl).is (by
      rw [eqv_ints]
      congr 1
      by_cases h : C.getD k 0 = C'.getD k 0 <;> simp [h])), fun _ => gd_ixL (gd_var rfl ((dt7.up ht.up).up e8)) (gd_var rfl hx) (atI_map (getD_get (z := (0, 0)) hk))⟩).is (congrArg PyData.list ul)) (shL _) (shL _)).is (by
        have := eqv_ties (unlikeTies W C C') (unlikeTies W C C')
        rw [decide_eq_true rfl] at this
        exact congrArg PyData.bool (congrArg (!·) this)))))) fun G8 H8 s8 => ?_
  have t8 := t7.trans (s8.rm (noRm t7.gh) hs7.nz)
  have hs8 := hs7.ext s8.h
  have ht8 := ht.step s8
  have tk8 : Dx (upd G8 pt (.lst ut)) (.ref pt) (tieL (gateRow W C C')) := .lst upd_same ((dut.up s8.g).up ht8.up)
  refine s_asg (M := upd Z pt (.lst ut)) ht8.one s8.gh (Gd.heldS ht8.g (gd_reprJ (gd_var rfl tk8) RJ)) fun v9 G9 H9 s9 d9 => ?_
  have t9 := t8.trans (s9.rm (noRm t8.gh) hs8.nz)
  have hs9 := hs8.ext s9.h
  have ht9 := ht8.step s9
  have g79 := s8.g.trans s9.g
  have hw9 := hw7.up g79
  have dc9 := dc7.up g79
  have do9 := do7.up g79
  have dt9 := dt7.up g79
  refine s_unless (M := Z) exZ s9.gh (gt_test ((gd_neS (gd_reprJ (d := tieL (gateRow W C C')) (gd_callRM (P := PGateRow) (es := (gateRow W C C').map tieD) (ga_cons (gd_var rfl do9) (ga_cons (gd_var rfl dc9) (ga_cons (gd_var rfl hw9) ga_nil))) ⟨W, C, C', ok, st, st', rfl, rfl⟩) RJ) (gd_var rfl d9)).is (by rw [decide_eq_true rfl]; rfl))) fun G10 H10 s10 => ?_
  have t10 := t9.trans (s10.rm (noRm t9.gh) hs9.nz)
  have hs10 := hs9.ext s10.h
  have ht10 := ht9.step s10
  refine sx_asg (k := k + 750) (c := 50) (M := Z) exZ t10.gh hs10 ((gx_call (c := 50) (pre := QWalk) (P := PWalk) (i := 0) rfl (gxa_of (ga_cons (gd_var rfl (hw9.up s10.g)) (ga_cons (gd_var rfl (dc9.up s10.g)) (ga_cons (gd_var rfl (do9.up s10.g)) ga_nil)))) fun ds e => ⟨W, C, C', ok, st, st', e⟩).cost (by omega)) fun d v10 G11 H11 hd t11 hs11 dv => ?_
  obtain ⟨ds, e1, W1, C1, C1', tw, e2, hL, rfl⟩ := hd
  rw [e1] at e2
  injection e2 with w1 e2
  injection e2 with c1 e2
  injection e2 with c2 _
  have w1 := webD_inj w1
  subst w1
  have lt := t10.trans t11
  have twl : tw.length ≤ 45 := by
    have := nodup_le hL.2.1 (m := ties W) fun t ht => hL.1 t ht
    omega
  have TJ : OkJ (tieL tw) := tieL_J ok hL.1 (by omega)
  have ht11 := ht10.stepX net t11
  have g911 := s10.g.trans t11.g
  have hw11 := hw9.up g911
  have dc11 := dc9.up g911
  have do11 := do9.up g911
  have dt11 := dt9.up g911
  have d911 := d9.up g911
  have tk11 : Dx (upd G11 pt (.lst ut)) (.ref pt) (tieL (gateRow W C C')) := .lst upd_same ((dut.up (g79.trans g911)).up ht11.up)
  have jud : ∀ {σ : L2.St} {M G : Hp} {i1 i2 : Nat} {u1 u2 : V} {te : TE} {A1 A2 : List Int} {x : PyData}, σ[1]? = some (some vw) → Dx G vw (webD W) → σ[i1]? = some (some u1) → Dx G u1 (chD A1) → σ[i2]? = some (some u2) → Dx G u2 (chD A2) → ChOk W A1 → ChOk W A2 → Gd te σ M G x → OkJ x →
      Gd (tCall (Spd PJudged) [] E0 (tCons (tVar 1) (tCons (tVar i1) (tCons (tVar i2) (tCons te tNil))))) σ M G (.bool true) := fun h1 k1 h2 k2 h3 k3 o1 o2 hx jx => gd_call (ga_cons (gd_var h1 k1) (ga_cons (gd_var h2 k2) (ga_cons (gd_var h3 k3) (ga_cons hx ga_nil)))) ⟨W, _, _, _, ok, o1, o2, jx, rfl, rfl⟩
  refine s_unless (M := upd Z pt (.lst ut)) ht11.one (exRm t11.gh) (gt_orF (gt_test (gd_isN (gd_var rfl dv) (b := false) (fun v h => by obtain ⟨a, xs, rfl, _⟩ := h.lst_of; rfl) (fun G1 v h => by obtain ⟨a, xs, rfl, _⟩ := h.lst_of; rfl))) (gt_orF (gt_notT (gt_B (jud rfl hw11 rfl dc11 rfl do11 hC hC' (gd_var rfl dv) TJ))) (Gt.held ht11.g (gt_notT (gt_B (jud rfl (hw11.up ht11.up) rfl (dc11.up ht11.up) rfl (do11.up ht11.up) hC hC' (gd_var rfl tk11) RJ)))))) fun G12 H12 s12 => ?_
  have t12 := lt.trans (s12.rm (noRm lt.gh) hs11.nz)
  have hs12 := hs11.ext s12.h
  have ht12 := ht11.step s12
  have hw12 := hw11.up s12.g
  have dc12 := dc11.up s12.g
  have do12 := do11.up s12.g
  have dt12 := dt11.up s12.g
  have d912 := d911.up s12.g
  have dv12 := dv.up s12.g
  refine s_for (n := 4) (M := Z) (fun i σ G' H' => ∃ l11, Stp G (rm sa H) G' (rm sa H') ∧ SrcAt H' sa (k + 300 + (4 - i) * 110) ∧ Hold G' H' pt ut ∧ σ = [some (.ref sa), some vw, some vc, some vo, some vd, some vt, some (.ref pf), some (.ref pt), none, some v9, some v10, l11, none, none]) exZ s12.gh (src_range1 (n := 4) gd_int (by decide)) (fun G13 H13 s13 => ⟨none, t12.trans (s13.rm (noRm t12.gh) hs12.nz), (hs12.ext s13.h).mono (by omega), ht12.step s13, rfl⟩) ?_ ?_
  · rintro i σ' G13 H13 tv G14 H14 hi g13 gh13 ⟨l11, t13, hs13, ht13, rfl⟩ s14 htv
    have t14 := t13.trans (s14.rm (noRm t13.gh) hs13.nz)
    have hs14 := hs13.ext s14.h
    have e110 : k + 300 + (4 - i) * 110 = (k + 300 + (4 - (i + 1)) * 110) + 110 := by omega
    rw [e110] at hs14
    have g14 := g13.trans s14.g
    refine sx_unlessE (k := k + 300 + (4 - (i + 1)) * 110) (c := 110) (M := Z) exZ t14.gh hs14 ((gx_callP (P := PJudged) (D := fun d => d = .bool true) (gxa_cons rfl (gx_of (gd_var rfl (hw12.up g14))) (gxa_cons rfl (gx_of (gd_var rfl (dc12.up g14))) (gxa_cons rfl (gx_of (gd_var rfl (do12.up g14))) (gxa_cons rfl (gx_call (c := 110) (pre := QBent) (P := PBent) (i := 0) rfl (gxa_of (ga_cons (gd_var rfl (hw12.up g14)) (ga_cons (gd_listL (gd_var rfl (dv12.up g14))) ga_nil))) fun ds e => ⟨W, tw, ok, hL.1, twl, e⟩) gxa_nil)))) fun ds hds => ?_).cost (by omega)) fun G15 H15 t15 hs15 => ⟨G15, s14.g.trans t15.g, exRm t15.gh, _, t14.trans t15, hs15, (ht13.step s14).stepX net t15, rfl⟩
    obtain ⟨d1, r1, q1, ⟨d2, r2, q2, ⟨d3, r3, q3, ⟨d4, r4, ⟨dz, _, jz⟩, q5, q4⟩, q6⟩, q7⟩, q8⟩ := hds
    subst q1 q2 q3 q5 q4 q6 q7 q8
    exact ⟨_, ⟨W, C, C', d4, ok, hC, hC', jz, rfl, rfl⟩, rfl⟩
  · rintro σ' G13 H13 g13 gh13 ⟨l11, t13, hs13, ht13, rfl⟩
    refine s_app (M := Z) exZ gh13 ht13 rfl (by
      have := dut.length
      rw [List.length_map] at this
      omega) gd_non fun x G14 H14 s14 ht14 dx => ?_
    have t14a := t13.trans (s14.rm (noRm t13.gh) hs13.nz)
    have t14 := ht14.stpX net t14a npt0 (o := .lst (ut ++ [x]))
    have hs14 := (hs13.ext s14.h).ups (o := .lst (ut ++ [x])) net
    have g14 := g13.trans s14.g
    refine s_for (n := (ties W).length) (M := Z) (fun i σ G' H' => ∃ l8 l12, Stp G (rm sa H) G' (rm sa H') ∧ SrcAt H' sa (k + 300) ∧ σ = [some (.ref sa), some vw, some vc, some vo, some vd, some vt, some (.ref pf), some (.ref pt), l8, some v9, some v10, l11, l12, none]) exZ (exRm t14.gh) (src_range1 ((gd_lenL (gd_var rfl (dt12.up g14))).is (by rw [List.length_map])) (by omega)) (fun G15 H15 s15 => ⟨none, none, t14.trans (s15.rm (noRm t14.gh) hs14.nz), (hs14.ext s15.h).mono (by omega), rfl⟩) ?_ ?_
    · rintro i σ' G15 H15 kv G16 H16 hi g15 gh15 ⟨l8, l12, t15, hs15, rfl⟩ s16 hk
      have t16 := t15.trans (s16.rm (noRm t15.gh) hs15.nz)
      have hs16 := hs15.ext s16.h
      have g16 := (g14.trans g15).trans s16.g
      refine s_asg (M := Z) exZ s16.gh (gd_call (ga_cons (gd_var rfl (dc12.up g16)) (ga_cons (gd_var rfl hk) ga_nil)) ⟨C, i, by omega, by omega, rfl, rfl⟩) fun v12 G17 H17 s17 d12 => ?_
      have t17 := t16.trans (s17.rm (noRm t16.gh) hs16.nz)
      have hs17 := hs16.ext s17.h
      have g17 := g16.trans s17.g
      have oneJ : OkJ (.list [tieD ((ties W).getD i (0, 0))]) := tieL_J (ts := [(ties W).getD i (0, 0)]) ok (fun t ht => by rw [List.mem_singleton.mp ht]; exact tie_mem hi) (by simp)
      have one : Gd (tLst (tCons (tOp (rIx2 K) (tVar 5) (tVar 8)) tNil)) [some (.ref sa), some vw, some vc, some vo, some vd, some vt, some (.ref pf), some (.ref pt), some kv, some v9, some v10, l11, some v12, none] Z G17 (.list [tieD ((ties W).getD i (0, 0))]) := gd_lst (ga_cons (gd_ixL (gd_var rfl (dt12.up g17)) (gd_var rfl (hk.up s17.g)) (atI_map (getD_get (z := (0, 0)) hi))) ga_nil) (by simp)
      refine s_unlessE (M := Z) exZ s17.gh (gt_orF (gt_notT (gt_B (jud rfl (hw12.up g17) rfl (dc12.up g17) rfl d12 hC (flip_ok hC i) one oneJ))) (gt_notT (gt_B (jud rfl (hw12.up g17) rfl d12 rfl (dc12.up g17) (flip_ok hC i) hC one oneJ)))) fun G18 H18 s18 => ?_
      exact ⟨G18, (s16.g.trans s17.g).trans s18.g, s18.gh, _, _, t17.trans (s18.rm (noRm t17.gh) hs17.nz), hs17.ext s18.h, rfl⟩
    · rintro σ' G15 H15 g15 gh15 ⟨l8, l12, t15, hs15, rfl⟩
      have g15' := g14.trans g15
      refine sx_asg (k := k) (c := 300) (M := Z) exZ t15.gh hs15 ((gx_call (c := 300) (pre := QChoice) (P := PChoice) (i := 0) rfl (gxa_of (ga_cons (gd_var rfl (hw12.up g15')) ga_nil)) fun ds e => ⟨W, ok, e⟩).cost (by omega)) fun d v13 G16 H16 hd t16 hs16 d13 => ?_
      obtain ⟨ds, e1, W1, C3, e2, hC3, rfl⟩ := hd
      rw [e1] at e2
      injection e2 with w1 _
      have w1 := webD_inj w1
      subst w1
      have t26 := t15.trans t16
      have g16 := g15'.trans t16.g
      have nilJ : OkJ (.list []) := lst_J (fun y hy => nomatch hy) (Nat.zero_le _)
      refine s_unless (M := Z) exZ (exRm t16.gh) (gt_orF (gt_notT (gt_B (jud rfl (hw12.up g16) rfl d13 rfl d13 hC3 hC3 (gd_lst ga_nil (by simp)) nilJ))) (gt_notT (gt_B (jud rfl (hw12.up g16) rfl (dc12.up g16) rfl d13 hC hC3 (gd_var rfl (dv12.up g16)) TJ)))) fun G17 H17 s17 => ?_
      have t17 := t26.trans (s17.rm (noRm t26.gh) hs16.nz)
      have hs17 := hs16.ext s17.h
      have g17 := g16.trans s17.g
      refine s_ret (d := .bool true) (M := Z) exZ s17.gh (gd_andT (jud rfl (hw12.up g17) rfl (d13.up s17.g) rfl (do12.up g17) hC3 hC' (gd_var rfl (dv12.up g17)) TJ) ((gd_eqS (gd_reprJ (d := tieL (gateRow W C C')) (gd_callM (P := PGateRow) (es := (gateRow W C C').map tieD) (ga_cons (gd_var rfl (hw12.up g17)) (ga_cons (gd_var rfl (dc12.up g17)) (ga_cons (gd_var rfl (do12.up g17)) ga_nil))) ⟨W, C, C', ok, st, st', rfl, rfl⟩) RJ) (gd_var rfl (d912.up g17))).is (by rw [decide_eq_true rfl]))) fun v G18 H18 s18 dv18 => ?_
      exact q _ v G18 H18 rfl (t17.trans (s18.rm (noRm t17.gh) hs17.nz)) (hs17.ext s18.h) dv18
end
end Sg

/-! the law -/
namespace Sg
open PySem PySem.Spec PyProof.Rows L2
open Evl (Ex)
def SpLaw (K : PySem.W.Frag) : Sp := fun vs H Q _ => ∃ a ns, vs = [.ref a] ∧ SqL K H a ((ns : List Int).map V.int) ∧ ns.length ≤ 63 ∧ ∀ H', Q (.bl true) H'
section
variable {K : PySem.W.Frag} {σ : L2.St} {s : Addr} {M G H : Hp} {te : TE} {c : Nat}
/-- [len(script)] + script[:2] -/
theorem src_cells {i : Nat} {a : Addr} {ns : List Int} (hi : σ[i]? = some (some (.ref a))) (hq : SqL K M a (ns.map V.int)) (hl : ns.length ≤ 63) :
    Src (iList K (tOp (rPlus K) (tLst (tCons (tCB (rLen2 K) (tCons (tVar i) tNil)) tNil)) (tSl (rSlL K) (tVar i) tNoPart (tPart (tC (.int 2)))))) σ M G (1 + (ns.take 2).length) (fun k => .int (((ns.length : Int) :: ns.take 2).getD k 0)) := fun H hM hG R k => by
  have hs : ∀ {H1 : Hp}, Ex M H1 → SqL K H1 a (ns.map V.int) := fun e => Evl.ex_l e hq
  have e2 : cutV (ns.map V.int) none (some (2 : Int)) = (ns.take 2).map V.int := by
    have e0 : cutV (ns.map V.int) none (some (2 : Int)) = ((ns.map V.int).take (HT.sIx (ns.map V.int).length (ns.map V.int).length (some (2 : Int)))).drop 0 := by
      unfold cutV
      have e0 : HT.sIx (ns.map V.int).length 0 none = 0 := rfl
      rw [e0, Nat.sub_zero]
      rfl
    rw [e0, List.drop_zero, List.map_take]
    by_cases h : 2 ≤ ns.length
    · rw [show (2 : Int) = ((2 : Nat) : Int) from rfl, sIx_pos (by rw [List.length_map]; exact h)]
    · have : HT.sIx (ns.map V.int).length (ns.map V.int).length (some (2 : Int)) ≥ (ns.map V.int).length := by
        rw [List.length_map]
        match ns, h with
        | [], _ => exact Nat.zero_le _
        | [_], _ =>
          show HT.sIx 1 1 (some (2 : Int)) ≥ 1
          decide
        | _ :: _ :: _, h => simp at h
      rw [List.take_of_length_le this, List.take_of_length_le (by rw [List.length_map]; omega)]
  refine ⟨_, hi, a, ns.map V.int, rfl, .inl (hs hM), sz (by simp), fun p hp => ?_⟩
  have hM1 : Ex M (upd H p (.lst [V.int (ns.map V.int).length])) := hM.trans (Ex.new hp)
  refine ⟨_, hi, ⟨2, rfl, a, ns.map V.int, rfl, hs hM1, fun q hq' => ?_⟩⟩
  rw [e2]
  have np : p ≠ q := by
    rintro rfl
    rw [upd_same] at hq'
    cases hq'
  have hp2 : upd (upd H p (.lst [V.int (ns.map V.int).length])) q (.lst ((ns.take 2).map V.int)) p = some (.lst [V.int (ns.map V.int).length]) := (upd_ne np).trans upd_same
  have s0 : Stp G H G (upd (upd H p (.lst [V.int (ns.map V.int).length])) q (.lst ((ns.take 2).map V.int))) := ((Stp.refl hG).new hp).new hq'
  have l2 : (ns.take 2).length ≤ 2 := by
    rw [List.length_take]
    omega
  refine .inr (.inr ⟨p, q, _, _, rfl, rfl, hp2, upd_same, sz (by simp; omega), fun r hr => ?_⟩)
  have ec : [V.int (ns.map V.int).length] ++ (ns.take 2).map V.int = ((ns.length : Int) :: ns.take 2).map V.int := by
    rw [List.length_map]
    rfl
  rw [ec]
  have s1 := s0.new hr (o := .lst (((ns.length : Int) :: ns.take 2).map V.int))
  have fr : G r = none := fresh_of s0.gh hr
  refine ⟨r, rfl, ⟨_, SqL.of upd_same⟩, k _ (upd G r (.lst (((ns.length : Int) :: ns.take 2).map V.int))) _ (s1.know (fresh_of s0.h hr) fr upd_same) ?_⟩
  have dd : DxA (upd G r (.lst (((ns.length : Int) :: ns.take 2).map V.int))) (((ns.length : Int) :: ns.take 2).map V.int) (((ns.length : Int) :: ns.take 2).map PyData.int) := by
    generalize ((ns.length : Int) :: ns.take 2) = l
    generalize upd G r _ = G2
    induction l with
    | nil => exact .nil
    | cons z l ih => exact .cons (.int z) ih
  have j := srcJ_list (K := K) upd_same dd
  rw [List.length_map, List.length_cons, Nat.add_comm] at j
  intro i2 G2 H2 g2 h2
  obtain ⟨j1, j2⟩ := j i2 G2 H2 g2 h2
  refine ⟨j1, fun lt => ⟨(j2 lt).1, fun v H3 y => ?_⟩⟩
  obtain ⟨G3, s3, d3⟩ := (j2 lt).2 v H3 y
  refine ⟨G3, s3, ?_⟩
  have e : (((ns.length : Int) :: ns.take 2).map PyData.int).getD i2 .none = .int (((ns.length : Int) :: ns.take 2).getD i2 0) := getD_map (by rw [List.length_cons]; omega)
  show Dx G3 v (.int _)
  rw [← e]
  exact d3
/-- int(e), e a bool -/
theorem gx_intB (h : Gx te σ s M G (fun d => ∃ b, d = .bool b) c) : Gx (tCB rInt1 (tCons te tNil)) σ s M G (fun d => d = .int 0 ∨ d = .int 1) c :=
  (gx_cb (D := fun d => d = .int 0 ∨ d = .int 1) (c := c + 0) (DL := fun l => ∃ d ds, (∃ b, d = .bool b) ∧ ds = [] ∧ l = d :: ds) (fun H k hM hG hs Q q => h H (k + 0) hM hG (hs.mono (by omega)) _ fun d v G1 H1 hd t1 hs1 dx => q [d] [v] G1 H1 ⟨d, [], hd, rfl, rfl⟩ t1 hs1 (.cons dx .nil)) fun ds ⟨d, es, ⟨b, e1⟩, e2, e3⟩ => by
    subst e1 e2 e3
    refine ⟨.int (if b = true then 1 else 0), by cases b <;> simp, fun vs G1 H hG hv Q q => ?_⟩
    obtain ⟨v, rfl, d1⟩ := hv.one
    cases d1
    exact .inr ⟨b, rfl, q.go hG (.int _)⟩).cost (by omega)
/-- draw(source, n) == 0 -/
theorem gx_is0 {i n : Nat} {E : XK} (nM : M s = none) (hi : σ[i]? = some (some (.ref s))) (h1 : 1 ≤ n) (h2 : n ≤ 1000) : Gx (tOp (rEqD K) (tCall (Spx 1 QDraw PDraw) [] E (tCons (tVar i) (tCons (tC (.int n)) tNil))) (tC (.int 0))) σ s M G (fun d => ∃ b, d = .bool b) 1 :=
  (gx_eq nM (gx_draw (n := n) hi gd_int h1 h2) (gx_of gd_int) fun d e ⟨r, h3, _⟩ h4 => by
    subst h3 h4
    exact ⟨rfl, rfl⟩).cost (by omega)
end
section
variable {P : Program} {w : World} {K : PySem.W.Frag} {mg : Str → Option Value} {base : Heap} {f : Addr} {fd : FuncData}
theorem scLaw : FnScope ["_law_script", "_law_cell", "_law_source_here", "_law_web_here"] ["_law_script"] (defScope sLaw) := ⟨rfl, rfl, rfl, by decide +kernel, rfl, by decide +kernel, by decide +kernel⟩
theorem ok_law (D : Df K mg "law" sLaw ["_law_script"] f fd) (B : Bi mg) (c_law_source : Has P w K mg base 1 "_law_source" SpSource) (c_law_draw : Has P w K mg base 1 "_law_draw" (Spx 1 QDraw PDraw)) (c_law_web : Has P w K mg base 4 "_law_web" (Spx 701 QWeb5 PWeb)) (c_law_thin_web : Has P w K mg base 2 "_law_thin_web" (Spx 100 QThin PWeb))
    (c_law_some_web : Has P w K mg base 3 "_law_some_web" (Spx 700 QWeb PWeb)) (c_law_web_right : HasG P w K mg base 8 "_law_web_right" (Spx 1200 QChoice PTrue)) : FnG P w K mg base 9 f fd ["_law_script"] (SpLaw K) := by
  refine okG D.F scLaw (fun vs H Q E ⟨_, _, e, _⟩ => by rw [e]; rfl) (fun cdv A outer s H vs Q E hg hr h => ?_)
  obtain ⟨a, ns, rfl, hq, hl, q⟩ := h
  refine ⟨_, PSs.nox (pss_cons (ps_for PassesOwn.never rfl (pi_lstK (K := K) rfl (pe_op (op_plusK (K := K) rfl) (pe_lst (pa_cons (pe_callB (call_lenK (K := K) rfl) (by rfl) B.len bb_len (pa_cons (pv 0) pa_nil)) pa_nil)) (pe_slice (sl_lstK (K := K) rfl) (pv 0) po_none (po_some pe_int)))) (pg_name (i := 1) scLaw.nd rfl (.inl rfl)) (pss_cons (ps_set (i := 2) scLaw.nd rfl (.inl rfl) (pe_has c_law_source hr (by decide) (by rfl) (pa_cons (pv 1) pa_nil))) (pss_cons (ps_set (i := 3) scLaw.nd rfl (.inl rfl) (pe_ifExp (pt_cmpR op_gt (pe_has c_law_draw hr (by decide) (by rfl) (pa_cons (pv 2) (pa_cons pe_int pa_nil))) pe_int (nomark _)) (pe_has c_law_web hr (by decide) (by rfl) (pa_cons (pv 2) (pa_cons pe_int pa_nil))) (pe_has c_law_thin_web hr (by decide) (by rfl) (pa_cons (pv 2) (pa_cons pe_int (pa_cons pe_int (pa_cons pe_int pa_nil))))))) (pss_cons (ps_if (pt_cmpR (op_eqDK (K := K) rfl hr.units) (pe_has c_law_draw hr (by decide) (by rfl) (pa_cons (pv 2) (pa_cons pe_int pa_nil))) pe_int (nomark _)) (pss_cons (ps_set (i := 3) scLaw.nd rfl (.inl rfl) (pe_has c_law_thin_web hr (by decide) (by rfl) (pa_cons (pv 2) (pa_cons pe_int (pa_cons pe_int (pa_cons pe_int pa_nil)))))) (pss_one (ps_if (pt_cmpR (op_eqDK (K := K) rfl hr.units) (pe_has c_law_draw hr (by decide) (by rfl) (pa_cons (pv 2) (pa_cons pe_int pa_nil))) pe_int (nomark _)) (pss_one (ps_set (i := 3) scLaw.nd rfl (.inl rfl) (pe_has c_law_some_web hr (by decide) (by rfl) (pa_cons (pv 2) (pa_cons (pe_op (op_plusK (K := K) rfl) (pe_op (op_plusK (K := K) rfl) pe_int (pe_has c_law_draw hr (by decide) (by rfl) (pa_cons (pv 2) (pa_cons pe_int pa_nil)))) (pe_op op_times pe_int (pe_callTy call_int1 (by rfl) B.int bb_int (pa_cons (pe_cmpR (op_eqDK (K := K) rfl hr.units) (pe_has c_law_draw hr (by decide) (by rfl) (pa_cons (pv 2) (pa_cons pe_int pa_nil))) pe_int (nomark _)) pa_nil)))) pa_nil))))) pss_nil))) pss_nil) (pss_one (ps_if (pt_not (pt_val (pe_hasG c_law_web_right hg hr (by decide) (by rfl) (pa_cons (pv 2) (pa_cons (pv 3) pa_nil))))) (pss_one (ps_ret pe_bl)) pss_nil)))))) (pss_one (ps_ret pe_bl))), ?_⟩
  refine s_for (M := H) (G := Z) (fun i σ G' H' => ∃ l1 l2 l3 : Option V, σ = [some (.ref a), l1, l2, l3]) (Ex.refl H) exZ (src_cells (i := 0) rfl hq hl) (fun G1 H1 s1 => ⟨none, none, none, rfl⟩) ?_ ?_
  · rintro i σ' G1 H1 v G2 H2 hi g1 gh1 ⟨l1, l2, l3, rfl⟩ s2 dv
    generalize ((ns.length : Int) :: ns.take 2).getD i 0 = c at dv
    cases dv
    refine ⟨_, rfl, c, G2, rfl, s2.gh, fun p dg mx G3 H3 s3 np hp d0 m0 m1 => ?_⟩
    have hs3 : SrcAt H3 p 1000000 := ⟨dg, mx, 0, hp.h, d0, m0, m1, Int.le_refl 0, by omega⟩
    have e3 : Ex G3 (rm p H3) := toRm s3.gh hp.g
    have web1 := gx_if (D := fun d => ∃ W, WebOk W ∧ d = webD W) (s := p) (σ := [some (.ref a), some (.int c), some (.ref p), l3]) (M := Z) (G := G3) (c := 1) (c1 := 701) rfl
      (gtx_test (gx_gt (i := 2) (n := 3) (m := 0) (E := E0) rfl rfl gd_int (by decide) (by decide)))
      ((gx_call (c := 701) (pre := QWeb5) (P := PWeb) (E := E0) (i := 2) rfl (gxa_of (ga_cons gd_int ga_nil)) fun ds e => e).cost (by omega) |>.imp fun d ⟨_, _, h⟩ => h)
      ((gx_call (c := 100) (pre := QThin) (P := PWeb) (E := E0) (i := 2) rfl (gxa_of (ga_cons gd_int (ga_cons gd_int (ga_cons gd_int ga_nil)))) fun ds e => ⟨2, 8, 12, by decide, by decide, by decide, e⟩).cost (by omega) |>.imp fun d ⟨_, _, h⟩ => h)
    refine sx_asg (k := 900000) (c := 702) (M := Z) exZ e3 (hs3.mono (by omega)) (web1.cost (by omega)) fun d vw G4 H4 hd t4 hs4 dw => ?_
    obtain ⟨W, ok, rfl⟩ := hd
    have last : ∀ {W : Web} {vw : V} {G5 H5 : Hp}, WebOk W → Ex G1 G5 → Ex G5 (rm p H5) → SrcAt H5 p 800000 → Dx G5 vw (webD W) → ∀ {DE : Ends}, (∀ G6 H6, Ex G1 G6 → Ex G6 H6 → DE.nx [some (.ref a), some (.int c), some (.ref p), some vw] H6) → tIfS (tNot (tB (tCall (Spx 1200 QChoice PTrue) [] E0 (tCons (tVar 2) (tCons (tVar 3) tNil))))) (tRet (tC (.bl false))) tNext DE [some (.ref a), some (.int c), some (.ref p), some vw] H5 :=
      fun {W vw G5 H5} ok g5 e5 hs5 dw {DE} q => sx_unlessE (k := 700000) (c := 1200) (M := Z) exZ e5 (hs5.mono (by omega)) ((gx_call (c := 1200) (pre := QChoice) (P := PTrue) (i := 2) rfl (gxa_of (ga_cons (gd_var rfl dw) ga_nil)) fun ds e => ⟨W, ok, e⟩).cost (by omega) |>.imp fun d ⟨_, _, h⟩ => h) fun G6 H6 t6 hs6 => q G6 H6 (g5.trans t6.g) (exRm t6.gh)
    have g4 := (s2.g.trans s3.g).trans t4.g
    refine sx_if (k := 899999) (c := 1) (M := Z) exZ t4.gh hs4 (gtx_test (gx_is0 (n := 8) rfl rfl (by decide) (by decide))) (fun G5 H5 t5 hs5 => ?_) fun G5 H5 t5 hs5 => ?_
    · refine sx_asg (k := 899000) (c := 100) (M := Z) exZ t5.gh (hs5.mono (by omega)) ((gx_call (c := 100) (pre := QThin) (P := PWeb) (E := E0) (i := 2) rfl (gxa_of (ga_cons gd_int (ga_cons gd_int (ga_cons gd_int ga_nil)))) fun ds e => ⟨8, 10, 14, by decide, by decide, by decide, e⟩).cost (by omega)) fun d vw G6 H6 hd t6 hs6 dw => ?_
      obtain ⟨_, _, W, ok, rfl⟩ := hd
      have g6 := (g4.trans t5.g).trans t6.g
      refine sx_ifE (k := 898999) (c := 1) (M := Z) exZ t6.gh hs6 (gtx_test (gx_is0 (n := 2) rfl rfl (by decide) (by decide))) (fun G7 H7 t7 hs7 => ?_) fun G7 H7 t7 hs7 => ?_
      · have six := gx_plus (K := K) (s := p) (σ := [some (.ref a), some (.int c), some (.ref p), some vw]) (M := Z) (G := G7) (D := fun d => ∃ n : Nat, d = .int n ∧ 6 ≤ n ∧ n ≤ 10) rfl
          (gx_plus (K := K) (D := fun d => ∃ n : Nat, d = .int n ∧ 6 ≤ n ∧ n ≤ 7) rfl (gx_of (gd_int (i := 6))) (gx_draw (n := 2) (i := 2) (E := E0) rfl gd_int (by decide) (by decide)) fun d e h1 h2 => by
            subst h1
            obtain ⟨r, rfl, hr⟩ := h2
            exact ⟨6, r, rfl, rfl, 6 + r, by congr 1, by omega, by omega⟩)
          (gx_times (D := fun d => d = .int 0 ∨ d = .int 3) rfl (gx_of (gd_int (i := 3))) (gx_intB (gx_is0 (K := K) (i := 2) (n := 6) (E := E0) rfl rfl (by decide) (by decide))) fun d e h1 h2 => by
            subst h1
            rcases h2 with rfl | rfl
            · exact ⟨3, 0, rfl, rfl, cmul_l (by decide) (by decide), .inl rfl⟩
            · exact ⟨3, 1, rfl, rfl, cmul_l (by decide) (by decide), .inr rfl⟩) fun d e h1 h2 => by
            obtain ⟨n, rfl, n1, n2⟩ := h1
            rcases h2 with rfl | rfl
            · exact ⟨n, 0, rfl, rfl, n, by congr 1, by omega, by omega⟩
            · exact ⟨n, 3, rfl, rfl, n + 3, by congr 1, by omega, by omega⟩
        refine sx_asgE (k := 898000) (c := 702) (M := Z) exZ t7.gh (hs7.mono (by omega)) ((gx_call (c := 700) (pre := QWeb) (P := PWeb) (E := E0) (i := 2) rfl (gxa_cons rfl six gxa_nil) fun ds ⟨d, es, ⟨n, e1, n1, n2⟩, e2, e3⟩ => ⟨n, by omega, n2, by rw [e3, e2, e1]⟩).cost (by omega)) fun d vx G8 H8 hd t8 hs8 dx => ?_
        obtain ⟨_, _, W2, ok2, rfl⟩ := hd
        exact last ok2 ((g6.trans t7.g).trans t8.g) t8.gh (hs8.mono (by omega)) dx fun G9 H9 g9 h9 => ⟨G9, g9, h9, _, _, _, rfl⟩
      · exact last ok (g6.trans t7.g) t7.gh (hs7.mono (by omega)) (dw.up t7.g) fun G9 H9 g9 h9 => ⟨G9, g9, h9, _, _, _, rfl⟩
    · exact last ok (g4.trans t5.g) t5.gh (hs5.mono (by omega)) (dw.up t5.g) fun G9 H9 g9 h9 => ⟨G9, g9, h9, _, _, _, rfl⟩
  · rintro σ' G1 H1 g1 gh1 ⟨l1, l2, l3, rfl⟩
    exact q _
end
end Sg

set_option maxHeartbeats 0
namespace Sg
open PySem PySem.Spec PyProof.Rows L2
/-! ### the head: facts by names, the run -/
def dIsInteger : He.DefD := ⟨("is_integer", none), "is_integer", "is_integer", defArgs sIsInteger, defBody sIsInteger, defScope sIsInteger, [], []⟩
def dIsBetween : He.DefD := ⟨("is_between", none), "is_between", "is_between", defArgs sIsBetween, defBody sIsBetween, defScope sIsBetween, [], []⟩
def dIsTupleOf : He.DefD := ⟨("is_tuple_of", none), "is_tuple_of", "is_tuple_of", defArgs sIsTupleOf, defBody sIsTupleOf, defScope sIsTupleOf, [], []⟩
def dIsSign : He.DefD := ⟨("is_sign", none), "is_sign", "is_sign", defArgs sIsSign, defBody sIsSign, defScope sIsSign, [], []⟩
def dIsWeb : He.DefD := ⟨("is_web", none), "is_web", "is_web", defArgs sIsWeb, defBody sIsWeb, defScope sIsWeb, [], []⟩
def dCheckWeb : He.DefD := ⟨("check_web", none), "check_web", "check_web", defArgs sCheckWeb, defBody sCheckWeb, defScope sCheckWeb, [], []⟩
def dTiesOf : He.DefD := ⟨("ties_of", none), "ties_of", "ties_of", defArgs sTiesOf, defBody sTiesOf, defScope sTiesOf, [], []⟩
def dIsTie : He.DefD := ⟨("is_tie", none), "is_tie", "is_tie", defArgs sIsTie, defBody sIsTie, defScope sIsTie, [], []⟩
def dArrowsBy : He.DefD := ⟨("arrows_by", none), "arrows_by", "arrows_by", defArgs sArrowsBy, defBody sArrowsBy, defScope sArrowsBy, [], []⟩
def dDownward : He.DefD := ⟨("downward", none), "downward", "downward", defArgs sDownward, defBody sDownward, defScope sDownward, [], []⟩
def dStandsBy : He.DefD := ⟨("stands_by", none), "stands_by", "stands_by", defArgs sStandsBy, defBody sStandsBy, defScope sStandsBy, [], []⟩
def dStopBy : He.DefD := ⟨("stop_by", none), "stop_by", "stop_by", defArgs sStopBy, defBody sStopBy, defScope sStopBy, [], []⟩
def dIsChoiceOf : He.DefD := ⟨("is_choice_of", none), "is_choice_of", "is_choice_of", defArgs sIsChoiceOf, defBody sIsChoiceOf, defScope sIsChoiceOf, [], []⟩
def dCheckChoice : He.DefD := ⟨("check_choice", none), "check_choice", "check_choice", defArgs sCheckChoice, defBody sCheckChoice, defScope sCheckChoice, [], []⟩
def dCheckStanding : He.DefD := ⟨("check_standing", none), "check_standing", "check_standing", defArgs sCheckStanding, defBody sCheckStanding, defScope sCheckStanding, [], []⟩
def dOtherWay : He.DefD := ⟨("other_way", none), "other_way", "other_way", defArgs sOtherWay, defBody sOtherWay, defScope sOtherWay, [], []⟩
def dGates : He.DefD := ⟨("gates", none), "gates", "gates", defArgs sGates, defBody sGates, defScope sGates, [], []⟩
def dNextGate : He.DefD := ⟨("next_gate", none), "next_gate", "next_gate", defArgs sNextGate, defBody sNextGate, defScope sNextGate, [], []⟩
def dGateRow : He.DefD := ⟨("gate_row", none), "gate_row", "gate_row", defArgs sGateRow, defBody sGateRow, defScope sGateRow, [], []⟩
def dIsGateRow : He.DefD := ⟨("is_gate_row", none), "is_gate_row", "is_gate_row", defArgs sIsGateRow, defBody sIsGateRow, defScope sIsGateRow, [], []⟩
def dLawSource : He.DefD := ⟨("_law_source", none), "_law_source", "_law_source", defArgs sLawSource, defBody sLawSource, defScope sLawSource, [], []⟩
def dLawDraw : He.DefD := ⟨("_law_draw", none), "_law_draw", "_law_draw", defArgs sLawDraw, defBody sLawDraw, defScope sLawDraw, [], []⟩
def dLawRow : He.DefD := ⟨("_law_row", none), "_law_row", "_law_row", defArgs sLawRow, defBody sLawRow, defScope sLawRow, [], []⟩
def dLawTable : He.DefD := ⟨("_law_table", none), "_law_table", "_law_table", defArgs sLawTable, defBody sLawTable, defScope sLawTable, [], []⟩
def dLawDrawnSign : He.DefD := ⟨("_law_drawn_sign", none), "_law_drawn_sign", "_law_drawn_sign", defArgs sLawDrawnSign, defBody sLawDrawnSign, defScope sLawDrawnSign, [], []⟩
def dLawSomeWeb : He.DefD := ⟨("_law_some_web", none), "_law_some_web", "_law_some_web", defArgs sLawSomeWeb, defBody sLawSomeWeb, defScope sLawSomeWeb, [], []⟩
def dLawWeb : He.DefD := ⟨("_law_web", none), "_law_web", "_law_web", defArgs sLawWeb, defBody sLawWeb, defScope sLawWeb, [], []⟩
def dLawTies : He.DefD := ⟨("_law_ties", none), "_law_ties", "_law_ties", defArgs sLawTies, defBody sLawTies, defScope sLawTies, [], []⟩
def dLawThinWeb : He.DefD := ⟨("_law_thin_web", none), "_law_thin_web", "_law_thin_web", defArgs sLawThinWeb, defBody sLawThinWeb, defScope sLawThinWeb, [], []⟩
def dLawNumber : He.DefD := ⟨("_law_number", none), "_law_number", "_law_number", defArgs sLawNumber, defBody sLawNumber, defScope sLawNumber, [], []⟩
def dLawNumbers : He.DefD := ⟨("_law_numbers", none), "_law_numbers", "_law_numbers", defArgs sLawNumbers, defBody sLawNumbers, defScope sLawNumbers, [], []⟩
def dLawPieces : He.DefD := ⟨("_law_pieces", none), "_law_pieces", "_law_pieces", defArgs sLawPieces, defBody sLawPieces, defScope sLawPieces, [], []⟩
def dLawDownward : He.DefD := ⟨("_law_downward", none), "_law_downward", "_law_downward", defArgs sLawDownward, defBody sLawDownward, defScope sLawDownward, [], []⟩
def dLawKept : He.DefD := ⟨("_law_kept", none), "_law_kept", "_law_kept", defArgs sLawKept, defBody sLawKept, defScope sLawKept, [], []⟩
def dLawSizedRow : He.DefD := ⟨("_law_sized_row", none), "_law_sized_row", "_law_sized_row", defArgs sLawSizedRow, defBody sLawSizedRow, defScope sLawSizedRow, [], []⟩
def dLawDrawnChoice : He.DefD := ⟨("_law_drawn_choice", none), "_law_drawn_choice", "_law_drawn_choice", defArgs sLawDrawnChoice, defBody sLawDrawnChoice, defScope sLawDrawnChoice, [], []⟩
def dLawOther : He.DefD := ⟨("_law_other", none), "_law_other", "_law_other", defArgs sLawOther, defBody sLawOther, defScope sLawOther, [], []⟩
def dLawIsTie : He.DefD := ⟨("_law_is_tie", none), "_law_is_tie", "_law_is_tie", defArgs sLawIsTie, defBody sLawIsTie, defScope sLawIsTie, [], []⟩
def dLawLeads : He.DefD := ⟨("_law_leads", none), "_law_leads", "_law_leads", defArgs sLawLeads, defBody sLawLeads, defScope sLawLeads, [], []⟩
def dLawGates : He.DefD := ⟨("_law_gates", none), "_law_gates", "_law_gates", defArgs sLawGates, defBody sLawGates, defScope sLawGates, [], []⟩
def dLawWalk : He.DefD := ⟨("_law_walk", none), "_law_walk", "_law_walk", defArgs sLawWalk, defBody sLawWalk, defScope sLawWalk, [], []⟩
def dLawBent : He.DefD := ⟨("_law_bent", none), "_law_bent", "_law_bent", defArgs sLawBent, defBody sLawBent, defScope sLawBent, [], []⟩
def dLawJudgedRight : He.DefD := ⟨("_law_judged_right", none), "_law_judged_right", "_law_judged_right", defArgs sLawJudgedRight, defBody sLawJudgedRight, defScope sLawJudgedRight, [], []⟩
def dLawWebRight : He.DefD := ⟨("_law_web_right", none), "_law_web_right", "_law_web_right", defArgs sLawWebRight, defBody sLawWebRight, defScope sLawWebRight, [], []⟩
def dLaw : He.DefD := ⟨("law", none), "law", "law", defArgs sLaw, defBody sLaw, defScope sLaw, [], []⟩
def allDefs : List He.DefD := [dIsInteger, dIsBetween, dIsTupleOf, dIsSign, dIsWeb, dCheckWeb, dTiesOf, dIsTie, dArrowsBy, dDownward, dStandsBy, dStopBy, dIsChoiceOf, dCheckChoice, dCheckStanding, dOtherWay, dGates, dNextGate, dGateRow, dIsGateRow, dLawSource, dLawDraw, dLawRow, dLawTable, dLawDrawnSign, dLawSomeWeb, dLawWeb, dLawTies, dLawThinWeb, dLawNumber]
def moreDefs : List He.DefD := [dLawNumbers, dLawPieces, dLawDownward, dLawKept, dLawSizedRow, dLawDrawnChoice, dLawOther, dLawIsTie, dLawLeads, dLawGates, dLawWalk, dLawBent, dLawJudgedRight, dLawWebRight, dLaw]
def theDefs : List He.DefD := allDefs ++ moreDefs
def gloFacts : List He.Fa := [.glo "is_integer", .glo "is_between", .glo "is_tuple_of", .glo "is_sign", .glo "is_web", .glo "check_web", .glo "ties_of", .glo "is_tie", .glo "arrows_by", .glo "downward", .glo "stands_by", .glo "stop_by", .glo "is_choice_of", .glo "check_choice", .glo "check_standing", .glo "other_way", .glo "gates", .glo "next_gate", .glo "gate_row", .glo "is_gate_row", .glo "_law_source", .glo "_law_draw", .glo "_law_row", .glo "_law_table", .glo "_law_drawn_sign", .glo "_law_some_web", .glo "_law_web", .glo "_law_ties", .glo "_law_thin_web", .glo "_law_number"]
def gloFactsB : List He.Fa := [.glo "_law_numbers", .glo "_law_pieces", .glo "_law_downward", .glo "_law_kept", .glo "_law_sized_row", .glo "_law_drawn_choice", .glo "_law_other", .glo "_law_is_tie", .glo "_law_leads", .glo "_law_gates", .glo "_law_walk", .glo "_law_bent", .glo "_law_judged_right", .glo "_law_web_right", .glo "law"]
def freeFacts : List He.Fa := [.free "len", .free "isinstance", .free "all", .free "range", .free "zip", .free "enumerate", .free "tuple", .free "list", .free "set", .free "sorted", .free "repr", .free "min", .free "max", .free "int", .free "bool"]
def theFacts : List He.Fa := gloFacts ++ (gloFactsB ++ (freeFacts ++ [.int "MOST_PLACES" 10]))
def looseA : List Str := ["SignError", "InvalidWeb", "InvalidChoice", "NotStanding", "MOST_PLACES", "is_integer", "is_between", "is_tuple_of", "is_sign", "is_web", "check_web", "ties_of", "is_tie", "arrows_by", "downward", "stands_by", "ring_among", "weights_by", "stop_by", "is_choice_of", "check_choice", "check_standing", "other_way", "gates", "next_gate", "gate_row", "is_gate_row", "_law_source", "_law_draw", "_law_row"]
def looseB : List Str := ["_law_table", "_law_drawn_sign", "_law_some_web", "_law_web", "_law_ties", "_law_thin_web", "_law_number", "_law_numbers", "_law_pieces", "_law_downward", "_law_is_stop", "_law_kept", "_law_is_standing", "_law_sized_row", "_law_drawn_choice", "_law_other", "_law_is_tie", "_law_leads", "_law_gates", "_law_walk", "_law_bent", "_law_judged_right", "_law_web_right"]
abbrev theRow : PySem.W.OpenRow := PySem.W.OpenLaw.row PySem.Challenge.rw_signrounds_k67_whole_gates_and_gate_rows
abbrev hk : PySem.W.Hook := He.hookD 4 theFacts theDefs
def ob (s : PySem.W.SharedT) : He.AlD := He.obsDG 4 theFacts theDefs (HandSHeadRun.getT s)
theorem ob_eq (s : PySem.W.SharedT) : ob s = hk.obs s.abs := He.obsDG_eq (HandSHeadRun.getT_eq s)
theorem topRun (w : World) : HandSHeadRun.RunEq theRow (PySem.W.view theRow.prog [59]) hk ob 4000 (looseA ++ looseB) w := by
  intro os
  kernel_rfl
/-! ### each def as the module has it -/
section
variable {P : Program} {w : World} {K : PySem.W.Frag} {mg : Str → Option Value} {h base : Heap}
theorem df_is_integer (X : K.In h) (G : h.Ns mainGlobals mg) (c : He.SaysD theFacts theDefs K) : ∃ f fd, Df K mg "is_integer" sIsInteger ["value"] f fd := by
  obtain ⟨fd, F⟩ := c.def_ 0 (d := dIsInteger) rfl
  exact ⟨_, fd, F, He.glo_ok X G (c.fact 0 (f := .glo "is_integer") rfl), FunD.bindsN F fun _ _ _ _ _ _ us hl => match us, hl with | [_], _ => rfl⟩
theorem df_is_between (X : K.In h) (G : h.Ns mainGlobals mg) (c : He.SaysD theFacts theDefs K) : ∃ f fd, Df K mg "is_between" sIsBetween ["low", "value", "high"] f fd := by
  obtain ⟨fd, F⟩ := c.def_ 1 (d := dIsBetween) rfl
  exact ⟨_, fd, F, He.glo_ok X G (c.fact 1 (f := .glo "is_between") rfl), FunD.bindsN F fun _ _ _ _ _ _ us hl => match us, hl with | [_, _, _], _ => rfl⟩
theorem df_is_tuple_of (X : K.In h) (G : h.Ns mainGlobals mg) (c : He.SaysD theFacts theDefs K) : ∃ f fd, Df K mg "is_tuple_of" sIsTupleOf ["many", "value"] f fd := by
  obtain ⟨fd, F⟩ := c.def_ 2 (d := dIsTupleOf) rfl
  exact ⟨_, fd, F, He.glo_ok X G (c.fact 2 (f := .glo "is_tuple_of") rfl), FunD.bindsN F fun _ _ _ _ _ _ us hl => match us, hl with | [_, _], _ => rfl⟩
theorem df_is_sign (X : K.In h) (G : h.Ns mainGlobals mg) (c : He.SaysD theFacts theDefs K) : ∃ f fd, Df K mg "is_sign" sIsSign ["value"] f fd := by
  obtain ⟨fd, F⟩ := c.def_ 3 (d := dIsSign) rfl
  exact ⟨_, fd, F, He.glo_ok X G (c.fact 3 (f := .glo "is_sign") rfl), FunD.bindsN F fun _ _ _ _ _ _ us hl => match us, hl with | [_], _ => rfl⟩
theorem df_is_web (X : K.In h) (G : h.Ns mainGlobals mg) (c : He.SaysD theFacts theDefs K) : ∃ f fd, Df K mg "is_web" sIsWeb ["value"] f fd := by
  obtain ⟨fd, F⟩ := c.def_ 4 (d := dIsWeb) rfl
  exact ⟨_, fd, F, He.glo_ok X G (c.fact 4 (f := .glo "is_web") rfl), FunD.bindsN F fun _ _ _ _ _ _ us hl => match us, hl with | [_], _ => rfl⟩
theorem df_check_web (X : K.In h) (G : h.Ns mainGlobals mg) (c : He.SaysD theFacts theDefs K) : ∃ f fd, Df K mg "check_web" sCheckWeb ["value"] f fd := by
  obtain ⟨fd, F⟩ := c.def_ 5 (d := dCheckWeb) rfl
  exact ⟨_, fd, F, He.glo_ok X G (c.fact 5 (f := .glo "check_web") rfl), FunD.bindsN F fun _ _ _ _ _ _ us hl => match us, hl with | [_], _ => rfl⟩
theorem df_ties_of (X : K.In h) (G : h.Ns mainGlobals mg) (c : He.SaysD theFacts theDefs K) : ∃ f fd, Df K mg "ties_of" sTiesOf ["web"] f fd := by
  obtain ⟨fd, F⟩ := c.def_ 6 (d := dTiesOf) rfl
  exact ⟨_, fd, F, He.glo_ok X G (c.fact 6 (f := .glo "ties_of") rfl), FunD.bindsN F fun _ _ _ _ _ _ us hl => match us, hl with | [_], _ => rfl⟩
theorem df_is_tie (X : K.In h) (G : h.Ns mainGlobals mg) (c : He.SaysD theFacts theDefs K) : ∃ f fd, Df K mg "is_tie" sIsTie ["web", "value"] f fd := by
  obtain ⟨fd, F⟩ := c.def_ 7 (d := dIsTie) rfl
  exact ⟨_, fd, F, He.glo_ok X G (c.fact 7 (f := .glo "is_tie") rfl), FunD.bindsN F fun _ _ _ _ _ _ us hl => match us, hl with | [_, _], _ => rfl⟩
theorem df_arrows_by (X : K.In h) (G : h.Ns mainGlobals mg) (c : He.SaysD theFacts theDefs K) : ∃ f fd, Df K mg "arrows_by" sArrowsBy ["web", "choice"] f fd := by
  obtain ⟨fd, F⟩ := c.def_ 8 (d := dArrowsBy) rfl
  exact ⟨_, fd, F, He.glo_ok X G (c.fact 8 (f := .glo "arrows_by") rfl), FunD.bindsN F fun _ _ _ _ _ _ us hl => match us, hl with | [_, _], _ => rfl⟩
theorem df_downward (X : K.In h) (G : h.Ns mainGlobals mg) (c : He.SaysD theFacts theDefs K) : ∃ f fd, Df K mg "downward" sDownward ["below"] f fd := by
  obtain ⟨fd, F⟩ := c.def_ 9 (d := dDownward) rfl
  exact ⟨_, fd, F, He.glo_ok X G (c.fact 9 (f := .glo "downward") rfl), FunD.bindsN F fun _ _ _ _ _ _ us hl => match us, hl with | [_], _ => rfl⟩
theorem df_stands_by (X : K.In h) (G : h.Ns mainGlobals mg) (c : He.SaysD theFacts theDefs K) : ∃ f fd, Df K mg "stands_by" sStandsBy ["web", "choice"] f fd := by
  obtain ⟨fd, F⟩ := c.def_ 10 (d := dStandsBy) rfl
  exact ⟨_, fd, F, He.glo_ok X G (c.fact 10 (f := .glo "stands_by") rfl), FunD.bindsN F fun _ _ _ _ _ _ us hl => match us, hl with | [_, _], _ => rfl⟩
theorem df_stop_by (X : K.In h) (G : h.Ns mainGlobals mg) (c : He.SaysD theFacts theDefs K) : ∃ f fd, Df K mg "stop_by" sStopBy ["web", "choice"] f fd := by
  obtain ⟨fd, F⟩ := c.def_ 11 (d := dStopBy) rfl
  exact ⟨_, fd, F, He.glo_ok X G (c.fact 11 (f := .glo "stop_by") rfl), FunD.bindsN F fun _ _ _ _ _ _ us hl => match us, hl with | [_, _], _ => rfl⟩
theorem df_is_choice_of (X : K.In h) (G : h.Ns mainGlobals mg) (c : He.SaysD theFacts theDefs K) : ∃ f fd, Df K mg "is_choice_of" sIsChoiceOf ["web", "value"] f fd := by
  obtain ⟨fd, F⟩ := c.def_ 12 (d := dIsChoiceOf) rfl
  exact ⟨_, fd, F, He.glo_ok X G (c.fact 12 (f := .glo "is_choice_of") rfl), FunD.bindsN F fun _ _ _ _ _ _ us hl => match us, hl with | [_, _], _ => rfl⟩
theorem df_check_choice (X : K.In h) (G : h.Ns mainGlobals mg) (c : He.SaysD theFacts theDefs K) : ∃ f fd, Df K mg "check_choice" sCheckChoice ["web", "value"] f fd := by
  obtain ⟨fd, F⟩ := c.def_ 13 (d := dCheckChoice) rfl
  exact ⟨_, fd, F, He.glo_ok X G (c.fact 13 (f := .glo "check_choice") rfl), FunD.bindsN F fun _ _ _ _ _ _ us hl => match us, hl with | [_, _], _ => rfl⟩
theorem df_check_standing (X : K.In h) (G : h.Ns mainGlobals mg) (c : He.SaysD theFacts theDefs K) : ∃ f fd, Df K mg "check_standing" sCheckStanding ["web", "choice"] f fd := by
  obtain ⟨fd, F⟩ := c.def_ 14 (d := dCheckStanding) rfl
  exact ⟨_, fd, F, He.glo_ok X G (c.fact 14 (f := .glo "check_standing") rfl), FunD.bindsN F fun _ _ _ _ _ _ us hl => match us, hl with | [_, _], _ => rfl⟩
theorem df_other_way (X : K.In h) (G : h.Ns mainGlobals mg) (c : He.SaysD theFacts theDefs K) : ∃ f fd, Df K mg "other_way" sOtherWay ["choice", "at"] f fd := by
  obtain ⟨fd, F⟩ := c.def_ 15 (d := dOtherWay) rfl
  exact ⟨_, fd, F, He.glo_ok X G (c.fact 15 (f := .glo "other_way") rfl), FunD.bindsN F fun _ _ _ _ _ _ us hl => match us, hl with | [_, _], _ => rfl⟩
theorem df_gates (X : K.In h) (G : h.Ns mainGlobals mg) (c : He.SaysD theFacts theDefs K) : ∃ f fd, Df K mg "gates" sGates ["web", "choice"] f fd := by
  obtain ⟨fd, F⟩ := c.def_ 16 (d := dGates) rfl
  exact ⟨_, fd, F, He.glo_ok X G (c.fact 16 (f := .glo "gates") rfl), FunD.bindsN F fun _ _ _ _ _ _ us hl => match us, hl with | [_, _], _ => rfl⟩
theorem df_next_gate (X : K.In h) (G : h.Ns mainGlobals mg) (c : He.SaysD theFacts theDefs K) : ∃ f fd, Df K mg "next_gate" sNextGate ["web", "choice", "other_choice"] f fd := by
  obtain ⟨fd, F⟩ := c.def_ 17 (d := dNextGate) rfl
  exact ⟨_, fd, F, He.glo_ok X G (c.fact 17 (f := .glo "next_gate") rfl), FunD.bindsN F fun _ _ _ _ _ _ us hl => match us, hl with | [_, _, _], _ => rfl⟩
theorem df_gate_row (X : K.In h) (G : h.Ns mainGlobals mg) (c : He.SaysD theFacts theDefs K) : ∃ f fd, Df K mg "gate_row" sGateRow ["web", "choice", "other_choice"] f fd := by
  obtain ⟨fd, F⟩ := c.def_ 18 (d := dGateRow) rfl
  exact ⟨_, fd, F, He.glo_ok X G (c.fact 18 (f := .glo "gate_row") rfl), FunD.bindsN F fun _ _ _ _ _ _ us hl => match us, hl with | [_, _, _], _ => rfl⟩
theorem df_is_gate_row (X : K.In h) (G : h.Ns mainGlobals mg) (c : He.SaysD theFacts theDefs K) : ∃ f fd, Df K mg "is_gate_row" sIsGateRow ["web", "choice", "other_choice", "value"] f fd := by
  obtain ⟨fd, F⟩ := c.def_ 19 (d := dIsGateRow) rfl
  exact ⟨_, fd, F, He.glo_ok X G (c.fact 19 (f := .glo "is_gate_row") rfl), FunD.bindsN F fun _ _ _ _ _ _ us hl => match us, hl with | [_, _, _, _], _ => rfl⟩
theorem df__law_source (X : K.In h) (G : h.Ns mainGlobals mg) (c : He.SaysD theFacts theDefs K) : ∃ f fd, Df K mg "_law_source" sLawSource ["_law_cell"] f fd := by
  obtain ⟨fd, F⟩ := c.def_ 20 (d := dLawSource) rfl
  exact ⟨_, fd, F, He.glo_ok X G (c.fact 20 (f := .glo "_law_source") rfl), FunD.bindsN F fun _ _ _ _ _ _ us hl => match us, hl with | [_], _ => rfl⟩
theorem df__law_draw (X : K.In h) (G : h.Ns mainGlobals mg) (c : He.SaysD theFacts theDefs K) : ∃ f fd, Df K mg "_law_draw" sLawDraw ["_law_source_here", "_law_many"] f fd := by
  obtain ⟨fd, F⟩ := c.def_ 21 (d := dLawDraw) rfl
  exact ⟨_, fd, F, He.glo_ok X G (c.fact 21 (f := .glo "_law_draw") rfl), FunD.bindsN F fun _ _ _ _ _ _ us hl => match us, hl with | [_, _], _ => rfl⟩
theorem df__law_row (X : K.In h) (G : h.Ns mainGlobals mg) (c : He.SaysD theFacts theDefs K) : ∃ f fd, Df K mg "_law_row" sLawRow ["_law_source_here", "_law_many"] f fd := by
  obtain ⟨fd, F⟩ := c.def_ 22 (d := dLawRow) rfl
  exact ⟨_, fd, F, He.glo_ok X G (c.fact 22 (f := .glo "_law_row") rfl), FunD.bindsN F fun _ _ _ _ _ _ us hl => match us, hl with | [_, _], _ => rfl⟩
theorem df__law_table (X : K.In h) (G : h.Ns mainGlobals mg) (c : He.SaysD theFacts theDefs K) : ∃ f fd, Df K mg "_law_table" sLawTable ["_law_many", "_law_signs"] f fd := by
  obtain ⟨fd, F⟩ := c.def_ 23 (d := dLawTable) rfl
  exact ⟨_, fd, F, He.glo_ok X G (c.fact 23 (f := .glo "_law_table") rfl), FunD.bindsN F fun _ _ _ _ _ _ us hl => match us, hl with | [_, _], _ => rfl⟩
theorem df__law_drawn_sign (X : K.In h) (G : h.Ns mainGlobals mg) (c : He.SaysD theFacts theDefs K) : ∃ f fd, Df K mg "_law_drawn_sign" sLawDrawnSign ["_law_source_here", "_law_mode", "_law_one", "_law_other_here"] f fd := by
  obtain ⟨fd, F⟩ := c.def_ 24 (d := dLawDrawnSign) rfl
  exact ⟨_, fd, F, He.glo_ok X G (c.fact 24 (f := .glo "_law_drawn_sign") rfl), FunD.bindsN F fun _ _ _ _ _ _ us hl => match us, hl with | [_, _, _, _], _ => rfl⟩
theorem df__law_some_web (X : K.In h) (G : h.Ns mainGlobals mg) (c : He.SaysD theFacts theDefs K) : ∃ f fd, Df K mg "_law_some_web" sLawSomeWeb ["_law_source_here", "_law_many"] f fd := by
  obtain ⟨fd, F⟩ := c.def_ 25 (d := dLawSomeWeb) rfl
  exact ⟨_, fd, F, He.glo_ok X G (c.fact 25 (f := .glo "_law_some_web") rfl), FunD.bindsN F fun _ _ _ _ _ _ us hl => match us, hl with | [_, _], _ => rfl⟩
theorem df__law_web (X : K.In h) (G : h.Ns mainGlobals mg) (c : He.SaysD theFacts theDefs K) : ∃ f fd, Df K mg "_law_web" sLawWeb ["_law_source_here", "_law_most"] f fd := by
  obtain ⟨fd, F⟩ := c.def_ 26 (d := dLawWeb) rfl
  exact ⟨_, fd, F, He.glo_ok X G (c.fact 26 (f := .glo "_law_web") rfl), FunD.bindsN F fun _ _ _ _ _ _ us hl => match us, hl with | [_, _], _ => rfl⟩
theorem df__law_ties (X : K.In h) (G : h.Ns mainGlobals mg) (c : He.SaysD theFacts theDefs K) : ∃ f fd, Df K mg "_law_ties" sLawTies ["_law_web_here"] f fd := by
  obtain ⟨fd, F⟩ := c.def_ 27 (d := dLawTies) rfl
  exact ⟨_, fd, F, He.glo_ok X G (c.fact 27 (f := .glo "_law_ties") rfl), FunD.bindsN F fun _ _ _ _ _ _ us hl => match us, hl with | [_], _ => rfl⟩
theorem df__law_thin_web (X : K.In h) (G : h.Ns mainGlobals mg) (c : He.SaysD theFacts theDefs K) : ∃ f fd, Df K mg "_law_thin_web" sLawThinWeb ["_law_source_here", "_law_few", "_law_top", "_law_most"] f fd := by
  obtain ⟨fd, F⟩ := c.def_ 28 (d := dLawThinWeb) rfl
  exact ⟨_, fd, F, He.glo_ok X G (c.fact 28 (f := .glo "_law_thin_web") rfl), FunD.bindsN F fun _ _ _ _ _ _ us hl => match us, hl with | [_, _, _, _], _ => rfl⟩
theorem df__law_number (X : K.In h) (G : h.Ns mainGlobals mg) (c : He.SaysD theFacts theDefs K) : ∃ f fd, Df K mg "_law_number" sLawNumber ["_law_value"] f fd := by
  obtain ⟨fd, F⟩ := c.def_ 29 (d := dLawNumber) rfl
  exact ⟨_, fd, F, He.glo_ok X G (c.fact 29 (f := .glo "_law_number") rfl), FunD.bindsN F fun _ _ _ _ _ _ us hl => match us, hl with | [_], _ => rfl⟩
theorem df__law_numbers (X : K.In h) (G : h.Ns mainGlobals mg) (c : He.SaysD theFacts theDefs K) : ∃ f fd, Df K mg "_law_numbers" sLawNumbers ["_law_value"] f fd := by
  obtain ⟨fd, F⟩ := c.def_ 30 (d := dLawNumbers) rfl
  exact ⟨_, fd, F, He.glo_ok X G (c.fact 30 (f := .glo "_law_numbers") rfl), FunD.bindsN F fun _ _ _ _ _ _ us hl => match us, hl with | [_], _ => rfl⟩
theorem df__law_pieces (X : K.In h) (G : h.Ns mainGlobals mg) (c : He.SaysD theFacts theDefs K) : ∃ f fd, Df K mg "_law_pieces" sLawPieces ["_law_web_here", "_law_signs"] f fd := by
  obtain ⟨fd, F⟩ := c.def_ 31 (d := dLawPieces) rfl
  exact ⟨_, fd, F, He.glo_ok X G (c.fact 31 (f := .glo "_law_pieces") rfl), FunD.bindsN F fun _ _ _ _ _ _ us hl => match us, hl with | [_, _], _ => rfl⟩
theorem df__law_downward (X : K.In h) (G : h.Ns mainGlobals mg) (c : He.SaysD theFacts theDefs K) : ∃ f fd, Df K mg "_law_downward" sLawDownward ["_law_web_here", "_law_choice"] f fd := by
  obtain ⟨fd, F⟩ := c.def_ 32 (d := dLawDownward) rfl
  exact ⟨_, fd, F, He.glo_ok X G (c.fact 32 (f := .glo "_law_downward") rfl), FunD.bindsN F fun _ _ _ _ _ _ us hl => match us, hl with | [_, _], _ => rfl⟩
theorem df__law_kept (X : K.In h) (G : h.Ns mainGlobals mg) (c : He.SaysD theFacts theDefs K) : ∃ f fd, Df K mg "_law_kept" sLawKept ["_law_web_here", "_law_row_here"] f fd := by
  obtain ⟨fd, F⟩ := c.def_ 33 (d := dLawKept) rfl
  exact ⟨_, fd, F, He.glo_ok X G (c.fact 33 (f := .glo "_law_kept") rfl), FunD.bindsN F fun _ _ _ _ _ _ us hl => match us, hl with | [_, _], _ => rfl⟩
theorem df__law_sized_row (X : K.In h) (G : h.Ns mainGlobals mg) (c : He.SaysD theFacts theDefs K) : ∃ f fd, Df K mg "_law_sized_row" sLawSizedRow ["_law_source_here", "_law_many"] f fd := by
  obtain ⟨fd, F⟩ := c.def_ 34 (d := dLawSizedRow) rfl
  exact ⟨_, fd, F, He.glo_ok X G (c.fact 34 (f := .glo "_law_sized_row") rfl), FunD.bindsN F fun _ _ _ _ _ _ us hl => match us, hl with | [_, _], _ => rfl⟩
theorem df__law_drawn_choice (X : K.In h) (G : h.Ns mainGlobals mg) (c : He.SaysD theFacts theDefs K) : ∃ f fd, Df K mg "_law_drawn_choice" sLawDrawnChoice ["_law_source_here", "_law_web_here"] f fd := by
  obtain ⟨fd, F⟩ := c.def_ 35 (d := dLawDrawnChoice) rfl
  exact ⟨_, fd, F, He.glo_ok X G (c.fact 35 (f := .glo "_law_drawn_choice") rfl), FunD.bindsN F fun _ _ _ _ _ _ us hl => match us, hl with | [_, _], _ => rfl⟩
theorem df__law_other (X : K.In h) (G : h.Ns mainGlobals mg) (c : He.SaysD theFacts theDefs K) : ∃ f fd, Df K mg "_law_other" sLawOther ["_law_choice", "_law_at"] f fd := by
  obtain ⟨fd, F⟩ := c.def_ 36 (d := dLawOther) rfl
  exact ⟨_, fd, F, He.glo_ok X G (c.fact 36 (f := .glo "_law_other") rfl), FunD.bindsN F fun _ _ _ _ _ _ us hl => match us, hl with | [_, _], _ => rfl⟩
theorem df__law_is_tie (X : K.In h) (G : h.Ns mainGlobals mg) (c : He.SaysD theFacts theDefs K) : ∃ f fd, Df K mg "_law_is_tie" sLawIsTie ["_law_ties_here", "_law_value"] f fd := by
  obtain ⟨fd, F⟩ := c.def_ 37 (d := dLawIsTie) rfl
  exact ⟨_, fd, F, He.glo_ok X G (c.fact 37 (f := .glo "_law_is_tie") rfl), FunD.bindsN F fun _ _ _ _ _ _ us hl => match us, hl with | [_, _], _ => rfl⟩
theorem df__law_leads (X : K.In h) (G : h.Ns mainGlobals mg) (c : He.SaysD theFacts theDefs K) : ∃ f fd, Df K mg "_law_leads" sLawLeads ["_law_web_here", "_law_choice", "_law_other_here", "_law_value"] f fd := by
  obtain ⟨fd, F⟩ := c.def_ 38 (d := dLawLeads) rfl
  exact ⟨_, fd, F, He.glo_ok X G (c.fact 38 (f := .glo "_law_leads") rfl), FunD.bindsN F fun _ _ _ _ _ _ us hl => match us, hl with | [_, _, _, _], _ => rfl⟩
theorem df__law_gates (X : K.In h) (G : h.Ns mainGlobals mg) (c : He.SaysD theFacts theDefs K) : ∃ f fd, Df K mg "_law_gates" sLawGates ["_law_web_here", "_law_choice"] f fd := by
  obtain ⟨fd, F⟩ := c.def_ 39 (d := dLawGates) rfl
  exact ⟨_, fd, F, He.glo_ok X G (c.fact 39 (f := .glo "_law_gates") rfl), FunD.bindsN F fun _ _ _ _ _ _ us hl => match us, hl with | [_, _], _ => rfl⟩
theorem df__law_walk (X : K.In h) (G : h.Ns mainGlobals mg) (c : He.SaysD theFacts theDefs K) : ∃ f fd, Df K mg "_law_walk" sLawWalk ["_law_source_here", "_law_web_here", "_law_choice", "_law_other_here"] f fd := by
  obtain ⟨fd, F⟩ := c.def_ 40 (d := dLawWalk) rfl
  exact ⟨_, fd, F, He.glo_ok X G (c.fact 40 (f := .glo "_law_walk") rfl), FunD.bindsN F fun _ _ _ _ _ _ us hl => match us, hl with | [_, _, _, _], _ => rfl⟩
theorem df__law_bent (X : K.In h) (G : h.Ns mainGlobals mg) (c : He.SaysD theFacts theDefs K) : ∃ f fd, Df K mg "_law_bent" sLawBent ["_law_source_here", "_law_web_here", "_law_walk_here"] f fd := by
  obtain ⟨fd, F⟩ := c.def_ 41 (d := dLawBent) rfl
  exact ⟨_, fd, F, He.glo_ok X G (c.fact 41 (f := .glo "_law_bent") rfl), FunD.bindsN F fun _ _ _ _ _ _ us hl => match us, hl with | [_, _, _], _ => rfl⟩
theorem df__law_judged_right (X : K.In h) (G : h.Ns mainGlobals mg) (c : He.SaysD theFacts theDefs K) : ∃ f fd, Df K mg "_law_judged_right" sLawJudgedRight ["_law_web_here", "_law_choice", "_law_other_here", "_law_value"] f fd := by
  obtain ⟨fd, F⟩ := c.def_ 42 (d := dLawJudgedRight) rfl
  exact ⟨_, fd, F, He.glo_ok X G (c.fact 42 (f := .glo "_law_judged_right") rfl), FunD.bindsN F fun _ _ _ _ _ _ us hl => match us, hl with | [_, _, _, _], _ => rfl⟩
theorem df__law_web_right (X : K.In h) (G : h.Ns mainGlobals mg) (c : He.SaysD theFacts theDefs K) : ∃ f fd, Df K mg "_law_web_right" sLawWebRight ["_law_source_here", "_law_web_here"] f fd := by
  obtain ⟨fd, F⟩ := c.def_ 43 (d := dLawWebRight) rfl
  exact ⟨_, fd, F, He.glo_ok X G (c.fact 43 (f := .glo "_law_web_right") rfl), FunD.bindsN F fun _ _ _ _ _ _ us hl => match us, hl with | [_, _], _ => rfl⟩
theorem bi_of (X : K.In h) (G : h.Ns mainGlobals mg) (c : He.SaysD theFacts theDefs K) : Bi mg :=
  ⟨He.free_ok X G (c.fact 45 (f := .free "len") rfl), He.free_ok X G (c.fact 46 (f := .free "isinstance") rfl), He.free_ok X G (c.fact 47 (f := .free "all") rfl), He.free_ok X G (c.fact 48 (f := .free "range") rfl), He.free_ok X G (c.fact 49 (f := .free "zip") rfl), He.free_ok X G (c.fact 50 (f := .free "enumerate") rfl), He.free_ok X G (c.fact 51 (f := .free "tuple") rfl), He.free_ok X G (c.fact 52 (f := .free "list") rfl), He.free_ok X G (c.fact 53 (f := .free "set") rfl), He.free_ok X G (c.fact 54 (f := .free "sorted") rfl), He.free_ok X G (c.fact 55 (f := .free "repr") rfl), He.free_ok X G (c.fact 56 (f := .free "min") rfl), He.free_ok X G (c.fact 57 (f := .free "max") rfl), He.free_ok X G (c.fact 58 (f := .free "int") rfl), He.free_ok X G (c.fact 59 (f := .free "bool") rfl), He.int_ok X G (c.fact 60 (f := .int "MOST_PLACES" 10) rfl)⟩
theorem facts {f : Addr} (X : K.In h) (G : h.Ns mainGlobals mg) (hfa : mg ("law" : Str) = some (.ref f)) (c : He.SaysD theFacts theDefs K) :
    ∃ fd : FuncData, (∀ (s : Shared) (v : Value), BindsTo s fd ⟨[v], []⟩ [("_law_script", v)]) ∧ ∀ base : Heap, K.In base → base.Ns mainGlobals mg → FnG P w K mg base 9 f fd ["_law_script"] (SpLaw K) := by
  have B := bi_of X G c
  obtain ⟨f_is_integer, fd_is_integer, D_is_integer⟩ := df_is_integer X G c
  obtain ⟨f_is_between, fd_is_between, D_is_between⟩ := df_is_between X G c
  obtain ⟨f_is_tuple_of, fd_is_tuple_of, D_is_tuple_of⟩ := df_is_tuple_of X G c
  obtain ⟨f_is_sign, fd_is_sign, D_is_sign⟩ := df_is_sign X G c
  obtain ⟨f_is_web, fd_is_web, D_is_web⟩ := df_is_web X G c
  obtain ⟨f_check_web, fd_check_web, D_check_web⟩ := df_check_web X G c
  obtain ⟨f_ties_of, fd_ties_of, D_ties_of⟩ := df_ties_of X G c
  obtain ⟨f_is_tie, fd_is_tie, D_is_tie⟩ := df_is_tie X G c
  obtain ⟨f_arrows_by, fd_arrows_by, D_arrows_by⟩ := df_arrows_by X G c
  obtain ⟨f_downward, fd_downward, D_downward⟩ := df_downward X G c
  obtain ⟨f_stands_by, fd_stands_by, D_stands_by⟩ := df_stands_by X G c
  obtain ⟨f_stop_by, fd_stop_by, D_stop_by⟩ := df_stop_by X G c
  obtain ⟨f_is_choice_of, fd_is_choice_of, D_is_choice_of⟩ := df_is_choice_of X G c
  obtain ⟨f_check_choice, fd_check_choice, D_check_choice⟩ := df_check_choice X G c
  obtain ⟨f_check_standing, fd_check_standing, D_check_standing⟩ := df_check_standing X G c
  obtain ⟨f_other_way, fd_other_way, D_other_way⟩ := df_other_way X G c
  obtain ⟨f_gates, fd_gates, D_gates⟩ := df_gates X G c
  obtain ⟨f_next_gate, fd_next_gate, D_next_gate⟩ := df_next_gate X G c
  obtain ⟨f_gate_row, fd_gate_row, D_gate_row⟩ := df_gate_row X G c
  obtain ⟨f_is_gate_row, fd_is_gate_row, D_is_gate_row⟩ := df_is_gate_row X G c
  obtain ⟨f_law_source, fd_law_source, D_law_source⟩ := df__law_source X G c
  obtain ⟨f_law_draw, fd_law_draw, D_law_draw⟩ := df__law_draw X G c
  obtain ⟨f_law_row, fd_law_row, D_law_row⟩ := df__law_row X G c
  obtain ⟨f_law_table, fd_law_table, D_law_table⟩ := df__law_table X G c
  obtain ⟨f_law_drawn_sign, fd_law_drawn_sign, D_law_drawn_sign⟩ := df__law_drawn_sign X G c
  obtain ⟨f_law_some_web, fd_law_some_web, D_law_some_web⟩ := df__law_some_web X G c
  obtain ⟨f_law_web, fd_law_web, D_law_web⟩ := df__law_web X G c
  obtain ⟨f_law_ties, fd_law_ties, D_law_ties⟩ := df__law_ties X G c
  obtain ⟨f_law_thin_web, fd_law_thin_web, D_law_thin_web⟩ := df__law_thin_web X G c
  obtain ⟨f_law_number, fd_law_number, D_law_number⟩ := df__law_number X G c
  obtain ⟨f_law_numbers, fd_law_numbers, D_law_numbers⟩ := df__law_numbers X G c
  obtain ⟨f_law_pieces, fd_law_pieces, D_law_pieces⟩ := df__law_pieces X G c
  obtain ⟨f_law_downward, fd_law_downward, D_law_downward⟩ := df__law_downward X G c
  obtain ⟨f_law_kept, fd_law_kept, D_law_kept⟩ := df__law_kept X G c
  obtain ⟨f_law_sized_row, fd_law_sized_row, D_law_sized_row⟩ := df__law_sized_row X G c
  obtain ⟨f_law_drawn_choice, fd_law_drawn_choice, D_law_drawn_choice⟩ := df__law_drawn_choice X G c
  obtain ⟨f_law_other, fd_law_other, D_law_other⟩ := df__law_other X G c
  obtain ⟨f_law_is_tie, fd_law_is_tie, D_law_is_tie⟩ := df__law_is_tie X G c
  obtain ⟨f_law_leads, fd_law_leads, D_law_leads⟩ := df__law_leads X G c
  obtain ⟨f_law_gates, fd_law_gates, D_law_gates⟩ := df__law_gates X G c
  obtain ⟨f_law_walk, fd_law_walk, D_law_walk⟩ := df__law_walk X G c
  obtain ⟨f_law_bent, fd_law_bent, D_law_bent⟩ := df__law_bent X G c
  obtain ⟨f_law_judged_right, fd_law_judged_right, D_law_judged_right⟩ := df__law_judged_right X G c
  obtain ⟨f_law_web_right, fd_law_web_right, D_law_web_right⟩ := df__law_web_right X G c
  obtain ⟨fd, F⟩ := c.def_ 44 (d := dLaw) rfl
  have e := hfa.symm.trans (He.glo_ok X G (c.fact 44 (f := .glo "law") rfl))
  cases e
  have b := FunD.bindsA (ps := ["_law_script"]) F fun _ _ _ _ _ _ us hl => match us, hl with | [_], _ => rfl
  have DL : Df K mg "law" sLaw ["_law_script"] _ fd := ⟨F, hfa, FunD.bindsN F fun _ _ _ _ _ _ us hl => match us, hl with | [_], _ => rfl⟩
  refine ⟨fd, fun s v => b s [v] rfl, fun base _ _ => ?_⟩
  have o_law_source := ok_law_source (P := P) (w := w) (base := base) D_law_source B
  have c_law_source := D_law_source.has o_law_source
  have o_law_draw := ok_law_draw (P := P) (w := w) (base := base) D_law_draw B
  have c_law_draw := D_law_draw.has o_law_draw
  have o_law_row := ok_law_row (P := P) (w := w) (base := base) D_law_row B c_law_draw
  have c_law_row := D_law_row.has o_law_row
  have o_law_drawn_sign := ok_law_drawn_sign (P := P) (w := w) (base := base) D_law_drawn_sign B c_law_draw
  have c_law_drawn_sign := D_law_drawn_sign.has o_law_drawn_sign
  have o_law_table := ok_law_table (P := P) (w := w) (base := base) D_law_table B
  have c_law_table := D_law_table.has o_law_table
  have o_law_some_web := ok_law_some_web (P := P) (w := w) (base := base) D_law_some_web B c_law_draw c_law_row c_law_drawn_sign c_law_table
  have c_law_some_web := D_law_some_web.has o_law_some_web
  have o_law_web := ok_law_web (P := P) (w := w) (base := base) D_law_web B c_law_draw c_law_some_web
  have c_law_web := D_law_web.has o_law_web
  have o_law_thin_web := ok_law_thin_web (P := P) (w := w) (base := base) D_law_thin_web B c_law_draw c_law_table
  have c_law_thin_web := D_law_thin_web.has o_law_thin_web
  have o_law_ties := ok_law_ties (P := P) (w := w) (base := base) D_law_ties B
  have c_law_ties := D_law_ties.has o_law_ties
  have o_law_kept := ok_law_kept (P := P) (w := w) (base := base) D_law_kept B c_law_ties
  have c_law_kept := D_law_kept.has o_law_kept
  have o_law_sized_row := ok_law_sized_row (P := P) (w := w) (base := base) D_law_sized_row B c_law_draw c_law_row
  have c_law_sized_row := D_law_sized_row.has o_law_sized_row
  have o_law_downward := ok_law_downward (P := P) (w := w) (base := base) D_law_downward B c_law_ties
  have c_law_downward := D_law_downward.has o_law_downward
  have o_law_other := ok_law_other (P := P) (w := w) (base := base) D_law_other
  have c_law_other := D_law_other.has o_law_other
  have o_law_gates := ok_law_gates (P := P) (w := w) (base := base) D_law_gates B c_law_ties c_law_downward c_law_other
  have c_law_gates := D_law_gates.has o_law_gates
  have o_is_integer := ok_is_integer (P := P) (w := w) (base := base) D_is_integer B
  have c_is_integer := D_is_integer.has o_is_integer
  have o_is_between := ok_is_between (P := P) (w := w) (base := base) D_is_between c_is_integer
  have c_is_between := D_is_between.has o_is_between
  have o_is_tuple_of := ok_is_tuple_of (P := P) (w := w) (base := base) D_is_tuple_of B
  have c_is_tuple_of := D_is_tuple_of.has o_is_tuple_of
  have o_is_web := ok_is_web (P := P) (w := w) (base := base) D_is_web B c_is_between c_is_tuple_of
  have c_is_web := D_is_web.has o_is_web
  have o_check_web := ok_check_web (P := P) (w := w) (base := base) D_check_web c_is_web
  have c_check_web := D_check_web.has o_check_web
  have o_is_sign := ok_is_sign (P := P) (w := w) (base := base) D_is_sign c_is_between
  have c_is_sign := D_is_sign.has o_is_sign
  have o_ties_of := ok_ties_of (P := P) (w := w) (base := base) D_ties_of B
  have c_ties_of := D_ties_of.has o_ties_of
  have o_is_choice_of := ok_is_choice_of (P := P) (w := w) (base := base) D_is_choice_of B c_is_sign c_is_tuple_of c_ties_of
  have c_is_choice_of := D_is_choice_of.has o_is_choice_of
  have o_check_choice := ok_check_choice (P := P) (w := w) (base := base) D_check_choice c_is_choice_of
  have c_check_choice := D_check_choice.has o_check_choice
  have o_arrows_by := ok_arrows_by (P := P) (w := w) (base := base) D_arrows_by B c_ties_of
  have c_arrows_by := D_arrows_by.has o_arrows_by
  have o_downward := ok_downward (P := P) (w := w) (base := base) D_downward B
  have c_downward := D_downward.has o_downward
  have o_stop_by := ok_stop_by (P := P) (w := w) (base := base) D_stop_by B c_arrows_by c_downward
  have c_stop_by := D_stop_by.has o_stop_by
  have o_check_standing := ok_check_standing (P := P) (w := w) (base := base) D_check_standing c_stop_by
  have c_check_standing := D_check_standing.has o_check_standing
  have o_stands_by := ok_stands_by (P := P) (w := w) (base := base) D_stands_by B c_arrows_by c_downward
  have c_stands_by := D_stands_by.has o_stands_by
  have o_other_way := ok_other_way (P := P) (w := w) (base := base) D_other_way
  have c_other_way := D_other_way.has o_other_way
  have o_gates := ok_gates (P := P) (w := w) (base := base) D_gates B c_check_web c_check_choice c_check_standing c_ties_of c_stands_by c_other_way
  have c_gates := D_gates.has o_gates
  have k_gates : HasR P w K mg base 6 "gates" ["choice", "web"] _ := ⟨_, _, ["web", "choice"], rfl, o_gates, D_gates.g, D_gates.F.kp, kbindsR D_gates.F fun _ _ _ _ _ _ ws hl => by
    rw [List.length_reverse] at hl
    match ws, hl with | [_, _], _ => rfl⟩
  have o_law_pieces := ok_law_pieces (P := P) (w := w) (base := base) D_law_pieces B
  have c_law_pieces := D_law_pieces.has o_law_pieces
  have o_next_gate := ok_next_gate (P := P) (w := w) (base := base) D_next_gate B c_stands_by c_other_way
  have c_next_gate := D_next_gate.has o_next_gate
  have o_gate_row := ok_gate_row (P := P) (w := w) (base := base) D_gate_row B c_check_web c_check_choice c_check_standing c_ties_of c_next_gate c_other_way
  have c_gate_row := D_gate_row.has o_gate_row
  have k_gate_row : HasR P w K mg base 6 "gate_row" ["other_choice", "choice", "web"] _ := ⟨_, _, ["web", "choice", "other_choice"], rfl, o_gate_row, D_gate_row.g, D_gate_row.F.kp, kbindsR D_gate_row.F fun _ _ _ _ _ _ ws hl => by
    rw [List.length_reverse] at hl
    match ws, hl with | [_, _, _], _ => rfl⟩
  have o_law_number := ok_law_number (P := P) (w := w) (base := base) D_law_number B
  have c_law_number := D_law_number.has o_law_number
  have o_law_numbers := ok_law_numbers (P := P) (w := w) (base := base) D_law_numbers B c_law_number
  have c_law_numbers := D_law_numbers.has o_law_numbers
  have o_law_is_tie := ok_law_is_tie (P := P) (w := w) (base := base) D_law_is_tie B c_law_numbers
  have c_law_is_tie := D_law_is_tie.has o_law_is_tie
  have o_law_leads := ok_law_leads (P := P) (w := w) (base := base) D_law_leads B c_law_ties c_law_is_tie c_law_downward c_law_other
  have c_law_leads := D_law_leads.has o_law_leads
  have o_law_walk := ok_law_walk (P := P) (w := w) (base := base) D_law_walk B c_law_draw c_law_ties c_law_downward c_law_other
  have c_law_walk := D_law_walk.has o_law_walk
  have o_is_tie := ok_is_tie (P := P) (w := w) (base := base) D_is_tie B c_is_between c_is_tuple_of
  have c_is_tie := D_is_tie.has o_is_tie
  have o_is_gate_row := ok_is_gate_row (P := P) (w := w) (base := base) D_is_gate_row B c_check_web c_check_choice c_is_tie c_ties_of c_stands_by c_other_way
  have c_is_gate_row := D_is_gate_row.has o_is_gate_row
  have k_is_gate_row : HasR P w K mg base 6 "is_gate_row" ["value", "other_choice", "choice", "web"] _ := ⟨_, _, ["web", "choice", "other_choice", "value"], rfl, o_is_gate_row, D_is_gate_row.g, D_is_gate_row.F.kp, kbindsR D_is_gate_row.F fun _ _ _ _ _ _ ws hl => by
    rw [List.length_reverse] at hl
    match ws, hl with | [_, _, _, _], _ => rfl⟩
  have c_law_judged_right : HasG P w K mg base 7 "_law_judged_right" _ := ⟨_, _, _, ok_law_judged_right D_law_judged_right B c_law_leads c_is_gate_row k_is_gate_row, D_law_judged_right.g, D_law_judged_right.F.kp, D_law_judged_right.b⟩
  have o_law_bent := ok_law_bent (P := P) (w := w) (base := base) D_law_bent B c_law_draw c_law_row c_law_ties
  have c_law_bent := D_law_bent.has o_law_bent
  have o_law_drawn_choice := ok_law_drawn_choice (P := P) (w := w) (base := base) D_law_drawn_choice B c_law_draw c_law_kept c_law_sized_row
  have c_law_drawn_choice := D_law_drawn_choice.has o_law_drawn_choice
  have c_law_web_right : HasG P w K mg base 8 "_law_web_right" _ := ⟨_, _, _, ok_law_web_right D_law_web_right B c_law_kept c_law_sized_row c_law_gates c_law_ties c_gates k_gates c_law_pieces c_gate_row k_gate_row c_law_leads c_law_walk c_law_judged_right c_law_bent c_law_other c_law_drawn_choice, D_law_web_right.g, D_law_web_right.F.kp, D_law_web_right.b⟩
  exact ok_law DL B c_law_source c_law_draw c_law_web c_law_thin_web c_law_some_web c_law_web_right
end
end Sg
open PySem PySem.W PySem.Calls PyProof.Rows
theorem PySem.Challenge.cw_signrounds_k67_whole_gates_and_gate_rows_holds : PySem.Challenge.rw_signrounds_k67_whole_gates_and_gate_rows.Holds := by
  w_on; o_law
  refine HandSHeadRun.head_any (r := OpenLaw.row PySem.Challenge.rw_signrounds_k67_whole_gates_and_gate_rows) (q := view (OpenLaw.row PySem.Challenge.rw_signrounds_k67_whole_gates_and_gate_rows).prog [59]) (H := Sg.hk) (ob := Sg.ob) (M := 4000) (loose := Sg.looseA ++ Sg.looseB) (d := HandSHeadRun.topDef (OpenLaw.row PySem.Challenge.rw_signrounds_k67_whole_gates_and_gate_rows).prog 59) (kwd := []) Sg.ob_eq
    (by kernel_rfl) (fun s => by kernel_rfl) Sg.topRun (by kernel_rfl) (by kernel_rfl) (by kernel_rfl) (by rfl) (by first | assumption | decide +kernel) (by decide +kernel) ⟨rfl, rfl, rfl, rfl, rfl, by decide +kernel⟩ ?hw ?hc
  case hw => w_witness2
  case hc =>
    refine Sg.walk_ofG (l := PySem.Challenge.rw_signrounds_k67_whole_gates_and_gate_rows) (n := 63) (k := 9) (x := "_law_script") rfl (by decide) (by kernel_rfl) ⟨rfl, by decide, by decide⟩ ?F
    intro w mg fa h Y G hmg0
    obtain ⟨K, KX, c⟩ := Y
    have hmg : mg ("law" : PySem.Str) = some (.ref fa) := by
      have e : (HandSHeadRun.topDef (OpenLaw.row PySem.Challenge.rw_signrounds_k67_whole_gates_and_gate_rows).prog 59).name = ("law" : PySem.Str) := by kernel_rfl
      rw [← e]
      exact hmg0
    obtain ⟨fd, hb, hF⟩ := Sg.facts (P := (PySem.Challenge.rw_signrounds_k67_whole_gates_and_gate_rows).prog) (w := w) KX G hmg c
    exact ⟨K, fd, Sg.SpLaw K, KX, hb, fun H a ns hl _ hS => ⟨a, ns, rfl, hS, hl, fun _ => rfl⟩, hF⟩
