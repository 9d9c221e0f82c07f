import PyProof.Rows.All
import Wide.All
import OpenK.AllK
import Wide.FinOn
import Open.SpecLaws
import KE.OsHead
import KE.OsGo
import HandS.ForSpec
import HandS.Comp
import HandS.Dict
import HandS.Iter
import HandS.Walk
import HandS.Evl
import HandS.Wide
import HandS.Defaults
import HandS.CallLocal
import HandS.HeadHook1
import HandS.HeadHook2
import HandS.NoneIn
import HandS.Style
import PySem.Challenge.RW_wirepulls_s01_answers
set_option Elab.async false
set_option maxRecDepth 100000
set_option maxHeartbeats 8000000
set_option linter.all false
set_option exponentiation.threshold 10000
namespace Wp

/-! ### sums over lists of places -/
def sumL (l : List Nat) (f : Nat → Rat) : Rat := l.foldr (fun j s => f j + s) 0
theorem sumL_nil (f : Nat → Rat) : sumL [] f = 0 := rfl
theorem sumL_cons (a : Nat) (l : List Nat) (f : Nat → Rat) : sumL (a :: l) f = f a + sumL l f := rfl
theorem sumL_congr {l : List Nat} {f g : Nat → Rat} (h : ∀ j ∈ l, f j = g j) : sumL l f = sumL l g := by
  induction l with
  | nil => rfl
  | cons a l ih =>
    rw [sumL_cons, sumL_cons, h a (by simp), ih fun j hj => h j (List.mem_cons_of_mem _ hj)]
theorem sumL_erase {l : List Nat} {i : Nat} (f : Nat → Rat) (h : i ∈ l) : sumL l f = f i + sumL (l.erase i) f := by
  induction l with
  | nil => simp at h
  | cons a l ih =>
    by_cases e : a = i
    · subst e
      rw [List.erase_cons_head, sumL_cons]
    · have hi : i ∈ l := by
        rcases List.mem_cons.mp h with h | h
        · exact absurd h.symm e
        · exact h
      rw [List.erase_cons_tail (by simpa using e), sumL_cons, sumL_cons, ih hi]
      grind
theorem sumL_le {l : List Nat} {f g : Nat → Rat} (h : ∀ j ∈ l, f j ≤ g j) : sumL l f ≤ sumL l g := by
  induction l with
  | nil => exact Rat.le_refl
  | cons a l ih =>
    have h1 := h a (by simp)
    have h2 := ih fun j hj => h j (List.mem_cons_of_mem _ hj)
    rw [sumL_cons, sumL_cons]
    grind
theorem sumL_zero (l : List Nat) : sumL l (fun _ => 0) = 0 := by
  induction l with
  | nil => rfl
  | cons a l ih => rw [sumL_cons, ih]; grind
theorem sumL_nonpos {l : List Nat} {f : Nat → Rat} (h : ∀ j ∈ l, f j ≤ 0) : sumL l f ≤ 0 := by
  have := sumL_le (g := fun _ => 0) h
  rw [sumL_zero] at this
  exact this
/-- a combination of two sums -/
theorem sumL_lin (l : List Nat) (f g : Nat → Rat) (a b : Rat) : sumL l (fun j => a * f j + b * g j) = a * sumL l f + b * sumL l g := by
  induction l with
  | nil => rw [sumL_nil, sumL_nil, sumL_nil]; grind
  | cons x l ih => rw [sumL_cons, sumL_cons, sumL_cons, ih]; grind
theorem sumL_map (l : List Nat) (k : Nat → Nat) (f : Nat → Rat) : sumL (l.map k) f = sumL l (fun j => f (k j)) := by
  induction l with
  | nil => rfl
  | cons x l ih => rw [List.map_cons, sumL_cons, sumL_cons, ih]

/-! ### one step of Gauss and Jordan -/
abbrev Mat := Nat → Nat → Rat
def gj (q : Nat) (M : Mat) : Mat := fun i j => if i = q then M q j / M q q else M i j - M i q * M q j / M q q
def gjs : List Nat → Mat → Mat
  | [], M => M
  | q :: l, M => gjs l (gj q M)
def piv : List Nat → Mat → Rat
  | [], _ => 1
  | q :: l, M => M q q * piv l (gj q M)
theorem gj_at (q j : Nat) (M : Mat) : gj q M q j = M q j / M q q := by simp [gj]
theorem gj_ne {q i : Nat} (j : Nat) (M : Mat) (h : i ≠ q) : gj q M i j = M i j - M i q * M q j / M q q := by simp [gj, h]
theorem gjs_snoc : ∀ (l : List Nat) (q : Nat) (M : Mat), gjs (l ++ [q]) M = gj q (gjs l M)
  | [], _, _ => rfl
  | r :: l, q, M => gjs_snoc l q (gj r M)
theorem piv_snoc : ∀ (l : List Nat) (q : Nat) (M : Mat), piv (l ++ [q]) M = piv l M * gjs l M q q
  | [], q, M => by
    show M q q * 1 = 1 * M q q
    grind
  | r :: l, q, M => by
    show M r r * piv (l ++ [q]) (gj r M) = M r r * piv l (gj r M) * gjs l (gj r M) q q
    rw [piv_snoc l q (gj r M)]
    grind

/-! ### dominance -/
structure Dom (S : List Nat) (v : Nat → Rat) (M : Mat) : Prop where
  nd : S.Nodup
  pos : ∀ i ∈ S, 0 < v i
  off : ∀ i ∈ S, ∀ j ∈ S, i ≠ j → M i j ≤ 0
  row : ∀ i ∈ S, 0 < sumL S (fun j => M i j * v j)
theorem mul_nonpos {a b : Rat} (h : a ≤ 0) (k : 0 ≤ b) : a * b ≤ 0 := by
  have := Rat.mul_nonneg (a := -a) (b := b) (by grind) k
  grind
theorem Dom.diag {S : List Nat} {v : Nat → Rat} {M : Mat} (D : Dom S v M) {i : Nat} (hi : i ∈ S) : 0 < M i i := by
  have h := D.row i hi
  rw [sumL_erase _ hi] at h
  have h2 : sumL (S.erase i) (fun j => M i j * v j) ≤ 0 := sumL_nonpos fun j hj => by
    have hj' := (D.nd.mem_erase_iff).mp hj
    exact mul_nonpos (D.off i hi j hj'.2 (fun e => hj'.1 e.symm)) (Rat.le_of_lt (D.pos j hj'.2))
  have h3 : 0 < M i i * v i := by grind
  have h4 := D.pos i hi
  by_cases c : 0 < M i i
  · exact c
  · have := mul_nonpos (a := M i i) (b := v i) (by grind) (Rat.le_of_lt h4)
    grind
theorem div_nonpos {a b : Rat} (h : a ≤ 0) (k : 0 < b) : a / b ≤ 0 := by
  rw [Rat.div_def]
  exact mul_nonpos h (Rat.le_of_lt (Rat.inv_pos.mpr k))
theorem Dom.step {S : List Nat} {v : Nat → Rat} {M : Mat} (D : Dom S v M) {q : Nat} (hq : q ∈ S) : Dom (S.erase q) v (gj q M) := by
  have dq := D.diag hq
  have mem : ∀ i ∈ S.erase q, i ≠ q ∧ i ∈ S := fun i hi => (D.nd.mem_erase_iff).mp hi
  refine ⟨D.nd.erase q, fun i hi => D.pos i (mem i hi).2, fun i hi j hj ij => ?_, fun i hi => ?_⟩
  · obtain ⟨iq, iS⟩ := mem i hi
    obtain ⟨jq, jS⟩ := mem j hj
    rw [gj_ne _ _ iq]
    have a1 := D.off i iS j jS ij
    have a2 := D.off i iS q hq iq
    have a3 := D.off q hq j jS (fun e => jq e.symm)
    have a4 : 0 ≤ M i q * M q j := by
      have := Rat.mul_nonneg (a := -M i q) (b := -M q j) (by grind) (by grind)
      grind
    have a5 : 0 ≤ M i q * M q j / M q q := by
      rw [Rat.div_def]
      exact Rat.mul_nonneg a4 (Rat.le_of_lt (Rat.inv_pos.mpr dq))
    grind
  · obtain ⟨iq, iS⟩ := mem i hi
    have e : sumL (S.erase q) (fun j => gj q M i j * v j) = sumL (S.erase q) (fun j => 1 * (M i j * v j) + (-(M i q / M q q)) * (M q j * v j)) := sumL_congr fun j _ => by
      rw [gj_ne _ _ iq, Rat.div_def, Rat.div_def]
      grind
    rw [e, sumL_lin]
    have r1 := D.row i iS
    have r2 := D.row q hq
    rw [sumL_erase _ hq] at r1 r2
    have a2 := D.off i iS q hq iq
    have a6 : M i q / M q q ≤ 0 := div_nonpos a2 dq
    have a7 : 0 ≤ (-(M i q / M q q)) * (M q q * v q + sumL (S.erase q) (fun j => M q j * v j)) := Rat.mul_nonneg (by grind) (Rat.le_of_lt r2)
    have a8 : M i q / M q q * (M q q * v q) = M i q * v q := by
      have : M q q ≠ 0 := by grind
      rw [Rat.div_def]
      grind
    grind
/-! ### the order of the steps does not matter -/
theorem gj_comm {x y : Nat} {M : Mat} (hxy : x ≠ y) (hx : M x x ≠ 0) (hy : M y y ≠ 0) (hxx : gj y M x x ≠ 0) (hyy : gj x M y y ≠ 0) : gj x (gj y M) = gj y (gj x M) := by
  have hyx : y ≠ x := fun e => hxy e.symm
  rw [gj_ne _ _ hxy] at hxx
  rw [gj_ne _ _ hyx] at hyy
  funext i j
  by_cases ix : i = x
  · subst ix
    rw [gj_at, gj_ne _ _ hxy, gj_ne _ _ hxy, gj_ne _ _ hxy, gj_ne _ _ hyx, gj_at, gj_at, gj_ne _ _ hyx]
    grind
  · by_cases iy : i = y
    · subst iy
      rw [gj_at, gj_ne _ _ hyx, gj_ne _ _ hyx, gj_ne _ _ hxy, gj_ne _ _ hxy, gj_at, gj_at, gj_ne _ _ hyx]
      grind
    · rw [gj_ne _ _ ix, gj_ne _ _ iy, gj_ne _ _ iy, gj_ne _ _ iy, gj_ne _ _ ix, gj_ne _ _ ix, gj_ne _ _ hxy, gj_ne _ _ hxy, gj_ne _ _ hyx, gj_ne _ _ hyx]
      grind
theorem piv_swap {x y : Nat} {M : Mat} (hxy : x ≠ y) (hx : M x x ≠ 0) (hy : M y y ≠ 0) : M y y * gj y M x x = M x x * gj x M y y := by
  rw [gj_ne _ _ hxy, gj_ne _ _ (fun e => hxy e.symm)]
  grind
theorem perm_inv {l l' : List Nat} (p : l.Perm l') : ∀ {S : List Nat} {v : Nat → Rat} {M : Mat}, Dom S v M → l.Nodup → (∀ x ∈ l, x ∈ S) → gjs l M = gjs l' M ∧ piv l M = piv l' M := by
  induction p with
  | nil => intros; exact ⟨rfl, rfl⟩
  | @cons q l l' _ ih =>
    intro S v M D nd sub
    have hq : q ∈ S := sub q (by simp)
    obtain ⟨n1, n2⟩ := List.nodup_cons.mp nd
    obtain ⟨h1, h2⟩ := ih (D.step hq) n2 fun x hx => (D.nd.mem_erase_iff).mpr ⟨fun e => n1 (e ▸ hx), sub x (List.mem_cons_of_mem _ hx)⟩
    exact ⟨h1, by show M q q * _ = M q q * _; rw [h2]⟩
  | swap x y l =>
    intro S v M D nd sub
    have hy : y ∈ S := sub y (by simp)
    have hx : x ∈ S := sub x (by simp)
    have yx : y ≠ x := by
      have := (List.nodup_cons.mp nd).1
      intro e
      exact this (by simp [e])
    have xy : x ≠ y := fun e => yx e.symm
    have dx := D.diag hx
    have dy := D.diag hy
    have dxx := (D.step hy).diag (i := x) ((D.nd.mem_erase_iff).mpr ⟨xy, hx⟩)
    have dyy := (D.step hx).diag (i := y) ((D.nd.mem_erase_iff).mpr ⟨yx, hy⟩)
    have e := gj_comm (M := M) xy (by grind) (by grind) (by grind) (by grind)
    constructor
    · show gjs l (gj x (gj y M)) = gjs l (gj y (gj x M))
      rw [e]
    · show M y y * (gj y M x x * piv l (gj x (gj y M))) = M x x * (gj x M y y * piv l (gj y (gj x M)))
      have e2 := piv_swap (M := M) xy (by grind) (by grind)
      rw [e]
      grind
  | @trans l1 l2 l3 p1 p2 ih1 ih2 =>
    intro S v M D nd sub
    obtain ⟨a1, a2⟩ := ih1 D nd sub
    obtain ⟨b1, b2⟩ := ih2 D (p1.nodup_iff.mp nd) fun x hx => sub x (p1.mem_iff.mpr hx)
    exact ⟨a1.trans b1, a2.trans b2⟩
/-- what a row is less its part along the pivots' rows -/
theorem row_id : ∀ (l : List Nat) {S : List Nat} {v : Nat → Rat} {M : Mat}, Dom S v M → l.Nodup → (∀ x ∈ l, x ∈ S) → ∀ i j, M i j - sumL l (fun q => M i q * gjs l M q j) = if i ∈ l then 0 else gjs l M i j
  | [], S, v, M, _, _, _, i, j => by
    simp only [sumL_nil, List.not_mem_nil, if_false]
    show M i j - 0 = M i j
    grind
  | q :: l, S, v, M, D, nd, sub, i, j => by
    have hq : q ∈ S := sub q (by simp)
    obtain ⟨n1, n2⟩ := List.nodup_cons.mp nd
    have dq := D.diag hq
    have ih := row_id l (D.step hq) n2 fun x hx => (D.nd.mem_erase_iff).mpr ⟨fun e => n1 (e ▸ hx), sub x (List.mem_cons_of_mem _ hx)⟩
    have hqr := ih q j
    rw [if_neg n1] at hqr
    show M i j - sumL (q :: l) (fun r => M i r * gjs l (gj q M) r j) = if i ∈ q :: l then 0 else gjs l (gj q M) i j
    rw [sumL_cons]
    have eq1 : sumL l (fun r => gj q M q r * gjs l (gj q M) r j) = (1 / M q q) * sumL l (fun r => M q r * gjs l (gj q M) r j) + 0 * sumL l (fun _ => 0) := by
      rw [← sumL_lin]
      exact sumL_congr fun r _ => by
        rw [gj_at]
        grind
    rw [gj_at, eq1] at hqr
    by_cases iq : i = q
    · subst iq
      rw [if_pos (by simp)]
      grind
    · have hir := ih i j
      have eq2 : sumL l (fun r => gj q M i r * gjs l (gj q M) r j) = 1 * sumL l (fun r => M i r * gjs l (gj q M) r j) + (-(M i q / M q q)) * sumL l (fun r => M q r * gjs l (gj q M) r j) := by
        rw [← sumL_lin]
        exact sumL_congr fun r _ => by
          rw [gj_ne _ _ iq]
          grind
      rw [gj_ne _ _ iq, eq2] at hir
      have em : (i ∈ q :: l) = (i ∈ l) := by simp [iq]
      simp only [em]
      rw [← hir]
      grind
end Wp

namespace Wp

/-! ### whole numbers within a bound -/
def IntB (B : Nat) (x : Rat) : Prop := ∃ z : Int, x = (z : Rat) ∧ z.natAbs ≤ B
theorem IntB.zero (B : Nat) : IntB B 0 := ⟨0, by simp, by simp⟩
theorem IntB.mono {B C : Nat} {x : Rat} (h : IntB B x) (k : B ≤ C) : IntB C x := by
  obtain ⟨z, e, b⟩ := h
  exact ⟨z, e, Nat.le_trans b k⟩
theorem IntB.add {B C : Nat} {x y : Rat} (h : IntB B x) (k : IntB C y) : IntB (B + C) (x + y) := by
  obtain ⟨z, e, b⟩ := h
  obtain ⟨u, f, c⟩ := k
  refine ⟨z + u, by rw [e, f, Rat.intCast_add], by omega⟩
theorem IntB.sub {B C : Nat} {x y : Rat} (h : IntB B x) (k : IntB C y) : IntB (B + C) (x - y) := by
  obtain ⟨z, e, b⟩ := h
  obtain ⟨u, f, c⟩ := k
  refine ⟨z - u, by rw [e, f, Rat.intCast_sub], by omega⟩
theorem IntB.mul {B C : Nat} {x y : Rat} (h : IntB B x) (k : IntB C y) : IntB (B * C) (x * y) := by
  obtain ⟨z, e, b⟩ := h
  obtain ⟨u, f, c⟩ := k
  refine ⟨z * u, by rw [e, f, Rat.intCast_mul], ?_⟩
  rw [Int.natAbs_mul]
  exact Nat.mul_le_mul b c
theorem IntB.sum {B : Nat} {f : Nat → Rat} : ∀ {l : List Nat}, (∀ j ∈ l, IntB B (f j)) → IntB (l.length * B) (sumL l f)
  | [], _ => by
    rw [sumL_nil]
    exact IntB.zero _
  | a :: l, h => by
    have h1 := h a (by simp)
    have h2 := IntB.sum (l := l) fun j hj => h j (List.mem_cons_of_mem _ hj)
    rw [sumL_cons, List.length_cons, Nat.succ_mul, Nat.add_comm]
    exact h1.add h2

theorem nodup_le : ∀ {l S : List Nat}, l.Nodup → (∀ x ∈ l, x ∈ S) → l.length ≤ S.length
  | [], _, _, _ => Nat.zero_le _
  | a :: l, S, nd, sub => by
    obtain ⟨n1, n2⟩ := List.nodup_cons.mp nd
    have ha : a ∈ S := sub a (by simp)
    have h := nodup_le (S := S.erase a) n2 fun x hx => (List.mem_erase_of_ne (show x ≠ a from fun e => n1 (by rw [← e]; exact hx))).mpr (sub x (List.mem_cons_of_mem _ hx))
    rw [List.length_erase_of_mem ha] at h
    have : 0 < S.length := List.length_pos_of_mem ha
    rw [List.length_cons]
    omega
/-- how great a number behind k steps may be: N more than the rows, m the given numbers' bound -/
def lid (N m : Nat) : Nat → Nat
  | 0 => m
  | k + 1 => N * m * lid N m k
theorem lid_pos {N m : Nat} (hN : 0 < N) (hm : 0 < m) : ∀ k, 0 < lid N m k
  | 0 => hm
  | k + 1 => Nat.mul_pos (Nat.mul_pos hN hm) (lid_pos hN hm k)

/-- behind any steps each number, times the pivots' product, is whole, and no greater than the lid; the product too -/
theorem whole {N m : Nat} {S : List Nat} {v : Nat → Rat} {M : Mat} (D : Dom S v M) (hI : ∀ i ∈ S, ∀ j, IntB m (M i j)) (hN : S.length + 1 ≤ N) (hm : 0 < m) :
    ∀ (k : Nat) (l : List Nat), l.length = k → l.Nodup → (∀ x ∈ l, x ∈ S) → IntB (lid N m k) (piv l M) ∧ ∀ i ∈ S, ∀ j, IntB (lid N m k) (piv l M * gjs l M i j) := by
  intro k
  induction k with
  | zero =>
    intro l hl _ _
    have e : l = [] := List.eq_nil_of_length_eq_zero hl
    subst e
    refine ⟨⟨1, by simp [piv], by show 1 ≤ m; omega⟩, fun i hi j => ?_⟩
    have e : piv [] M * gjs [] M i j = M i j := by
      show 1 * M i j = M i j
      grind
    rw [e]
    exact hI i hi j
  | succ k ih =>
    intro l hl nd sub
    -- any of the pivots may stand last
    have last : ∀ q ∈ l, IntB (lid N m k) (piv l M) ∧ ∀ j, IntB (lid N m k) (piv l M * gjs l M q j) := by
      intro q hq
      have hlen : (l.erase q).length = k := by rw [List.length_erase_of_mem hq, hl]; rfl
      have pm : l.Perm (l.erase q ++ [q]) := (List.perm_cons_erase hq).trans (List.perm_append_singleton q (l.erase q)).symm
      have nd2 := nd.erase q
      have sub2 : ∀ x ∈ l.erase q, x ∈ S := fun x hx => sub x (List.mem_of_mem_erase hx)
      obtain ⟨i1, i2⟩ := ih (l.erase q) hlen nd2 sub2
      obtain ⟨e1, e2⟩ := perm_inv pm D nd sub
      have e3 := piv_snoc (l.erase q) q M
      rw [e2, e1, gjs_snoc, e3]
      have hqS := sub q hq
      refine ⟨i2 q hqS q, fun j => ?_⟩
      have z := i2 q hqS j
      rw [gj_at]
      by_cases c : gjs (l.erase q) M q q = 0
      · rw [c]
        have : piv (l.erase q) M * 0 * (gjs (l.erase q) M q j / 0) = 0 := by grind
        rw [this]
        exact IntB.zero _
      · have : piv (l.erase q) M * gjs (l.erase q) M q q * (gjs (l.erase q) M q j / gjs (l.erase q) M q q) = piv (l.erase q) M * gjs (l.erase q) M q j := by grind
        rw [this]
        exact z
    have le1 : lid N m k ≤ lid N m (k + 1) := by
      show lid N m k ≤ N * m * lid N m k
      exact Nat.le_mul_of_pos_left _ (Nat.mul_pos (by omega) hm)
    obtain ⟨p, hp⟩ : ∃ p, p ∈ l := by
      cases l with
      | nil => simp at hl
      | cons a r => exact ⟨a, by simp⟩
    have dl := (last p hp).1
    refine ⟨dl.mono le1, fun i hi j => ?_⟩
    by_cases hil : i ∈ l
    · exact ((last i hil).2 j).mono le1
    · have e := row_id l D nd sub i j
      rw [if_neg hil] at e
      have e2 : piv l M * gjs l M i j = piv l M * M i j - (piv l M * sumL l (fun q => M i q * gjs l M q j) + 0 * sumL l (fun _ => 0)) := by
        rw [← e]
        grind
      rw [e2, ← sumL_lin]
      have s1 : IntB (l.length * (m * lid N m k)) (sumL l (fun q => piv l M * (M i q * gjs l M q j) + 0 * 0)) := IntB.sum fun q hq => by
        have z := (hI i hi q).mul ((last q hq).2 j)
        have e3 : piv l M * (M i q * gjs l M q j) + 0 * 0 = M i q * (piv l M * gjs l M q j) := by grind
        rw [e3]
        exact z
      refine ((dl.mul (hI i hi j)).sub s1).mono ?_
      have ln : l.length ≤ S.length := nodup_le nd sub
      show lid N m k * m + l.length * (m * lid N m k) ≤ N * m * lid N m k
      have : lid N m k * m + l.length * (m * lid N m k) = (l.length + 1) * (m * lid N m k) := by grind
      rw [this, Nat.mul_assoc]
      exact Nat.mul_le_mul_right _ (by omega)
/-- the pivots' product is above 0 -/
theorem piv_pos : ∀ (l : List Nat) {S : List Nat} {v : Nat → Rat} {M : Mat}, Dom S v M → l.Nodup → (∀ x ∈ l, x ∈ S) → 0 < piv l M
  | [], _, _, _, _, _, _ => by
    show (0 : Rat) < 1
    grind
  | q :: l, S, v, M, D, nd, sub => by
    have hq : q ∈ S := sub q (by simp)
    obtain ⟨n1, n2⟩ := List.nodup_cons.mp nd
    exact Rat.mul_pos (D.diag hq) (piv_pos l (D.step hq) n2 fun x hx => (D.nd.mem_erase_iff).mpr ⟨fun e => n1 (e ▸ hx), sub x (List.mem_cons_of_mem _ hx)⟩)
/-- the pivot that comes next is above 0 -/
theorem next_pos : ∀ (l : List Nat) {S : List Nat} {v : Nat → Rat} {M : Mat}, Dom S v M → l.Nodup → (∀ x ∈ l, x ∈ S) → ∀ i ∈ S, i ∉ l → 0 < gjs l M i i
  | [], _, _, _, D, _, _, i, hi, _ => D.diag hi
  | q :: l, S, v, M, D, nd, sub, i, hi, hn => by
    have hq : q ∈ S := sub q (by simp)
    obtain ⟨n1, n2⟩ := List.nodup_cons.mp nd
    exact next_pos l (D.step hq) n2 (fun x hx => (D.nd.mem_erase_iff).mpr ⟨fun e => n1 (e ▸ hx), sub x (List.mem_cons_of_mem _ hx)⟩) i
      ((D.nd.mem_erase_iff).mpr ⟨fun e => hn (by simp [e]), hi⟩) fun h => hn (List.mem_cons_of_mem _ h)

/-! ### what solves the equations -/
def Solves (S : List Nat) (M : Mat) (x : Nat → Rat) (b : Nat) : Prop := ∀ i ∈ S, sumL S (fun j => M i j * x j) = M i b
theorem Solves.gj {S : List Nat} {M : Mat} {x : Nat → Rat} {b q : Nat} (h : Solves S M x b) (hq : q ∈ S) : Solves S (gj q M) x b := fun i hi => by
  have e1 := h i hi
  have e2 := h q hq
  by_cases iq : i = q
  · subst iq
    rw [gj_at]
    have e : sumL S (fun j => Wp.gj i M i j * x j) = (1 / M i i) * sumL S (fun j => M i j * x j) + 0 * sumL S (fun _ => 0) := by
      rw [← sumL_lin]
      exact sumL_congr fun j _ => by
        rw [gj_at]
        grind
    rw [e, e1]
    grind
  · rw [gj_ne _ _ iq]
    have e : sumL S (fun j => Wp.gj q M i j * x j) = 1 * sumL S (fun j => M i j * x j) + (-(M i q / M q q)) * sumL S (fun j => M q j * x j) := by
      rw [← sumL_lin]
      exact sumL_congr fun j _ => by
        rw [gj_ne _ _ iq]
        grind
    rw [e, e1, e2]
    grind
theorem Solves.gjs : ∀ (l : List Nat) {S : List Nat} {M : Mat} {x : Nat → Rat} {b : Nat}, Solves S M x b → (∀ q ∈ l, q ∈ S) → Solves S (gjs l M) x b
  | [], _, _, _, _, h, _ => h
  | q :: l, _, _, _, _, h, sub => Solves.gjs l (h.gj (sub q (by simp))) fun r hr => sub r (List.mem_cons_of_mem _ hr)
/-- a column is a unit's -/
def UnitAt (M : Mat) (q : Nat) : Prop := ∀ i, M i q = if i = q then 1 else 0
theorem unit_made {M : Mat} {q : Nat} (h : M q q ≠ 0) : UnitAt (gj q M) q := fun i => by
  by_cases iq : i = q
  · subst iq
    rw [gj_at, if_pos rfl]
    grind
  · rw [gj_ne _ _ iq, if_neg iq]
    grind
theorem unit_kept {M : Mat} {q r : Nat} (h : UnitAt M q) (n : r ≠ q) : UnitAt (gj r M) q := fun i => by
  have hr := h r
  rw [if_neg n] at hr
  by_cases ir : i = r
  · subst ir
    rw [gj_at, hr, if_neg n]
    grind
  · rw [gj_ne _ _ ir, hr, h i]
    grind
theorem unit_keeps : ∀ (l : List Nat) {M : Mat} {q : Nat}, UnitAt M q → q ∉ l → UnitAt (gjs l M) q
  | [], _, _, h, _ => h
  | r :: l, _, _, h, n => unit_keeps l (unit_kept h fun e => n (by simp [e])) fun m => n (List.mem_cons_of_mem _ m)
theorem unit_all : ∀ (l : List Nat) {S : List Nat} {v : Nat → Rat} {M : Mat}, Dom S v M → l.Nodup → (∀ x ∈ l, x ∈ S) → ∀ q ∈ l, UnitAt (gjs l M) q
  | r :: l, S, v, M, D, nd, sub, q, hq => by
    have hr : r ∈ S := sub r (by simp)
    obtain ⟨n1, n2⟩ := List.nodup_cons.mp nd
    have dr := D.diag hr
    rcases List.mem_cons.mp hq with e | hq
    · subst e
      exact unit_keeps l (unit_made (by grind)) n1
    · exact unit_all l (D.step hr) n2 (fun x hx => (D.nd.mem_erase_iff).mpr ⟨fun e => n1 (e ▸ hx), sub x (List.mem_cons_of_mem _ hx)⟩) q hq
theorem sumL_unit {S : List Nat} (nd : S.Nodup) {i : Nat} (hi : i ∈ S) (x : Nat → Rat) : sumL S (fun j => (if i = j then 1 else 0) * x j) = x i := by
  rw [sumL_erase _ hi, if_pos rfl]
  have : sumL (S.erase i) (fun j => (if i = j then 1 else 0) * x j) = sumL (S.erase i) (fun _ => 0) := sumL_congr fun j hj => by
    have := (nd.mem_erase_iff).mp hj
    rw [if_neg (fun e => this.1 e.symm)]
    grind
  rw [this, sumL_zero]
  grind
/-- there is just one answer: what stands on the right behind all steps -/
theorem Solves.is {S : List Nat} {v : Nat → Rat} {M : Mat} {x : Nat → Rat} {b : Nat} (D : Dom S v M) (h : Solves S M x b) {i : Nat} (hi : i ∈ S) : x i = Wp.gjs S M i b := by
  have e := (h.gjs S fun _ q => q) i hi
  rw [← e]
  have u := unit_all S D D.nd fun _ q => q
  rw [sumL_congr (g := fun j => (if i = j then 1 else 0) * x j) fun j hj => by rw [u j hj i]]
  exact (sumL_unit D.nd hi x).symm
end Wp

namespace Wp
/-! ### the program's objects as plain data -/
structure MNode where
  fixed : Bool
  x : Int
  y : Int
  z : Int
  bound : Int
  deriving DecidableEq, Inhabited
structure MSpan where
  a : Nat
  b : Nat
  d : Int
  there : Bool
  deriving DecidableEq, Inhabited
def MNode.vec (n : MNode) : List Int := [n.x, n.y, n.z]
structure MNet where
  nodes : List MNode
  spans : List MSpan
/-! ### net.py -/
def drawsM (s : MSpan) : Bool := s.there && decide (s.d ≠ 0)
def drawingM (spans : List MSpan) : List MSpan := spans.filter drawsM
def drawingAtM (spans : List MSpan) (i : Nat) : List MSpan := spans.filter fun s => drawsM s && (decide (s.a = i) || decide (s.b = i))
def otherEndM (s : MSpan) (i : Nat) : Nat := if s.a = i then s.b else s.a
def isSpanM (spans : List MSpan) (s : Nat) : Bool := decide (s < spans.length) && (spans.getD s default).there
def withDensityM (spans : List MSpan) (s : Nat) (d : Int) : List MSpan := spans.set s ⟨(spans.getD s default).a, (spans.getD s default).b, d, true⟩
def withoutM (spans : List MSpan) (s : Nat) : List MSpan := spans.set s ⟨(spans.getD s default).a, (spans.getD s default).b, 0, false⟩
/-! ### balance.py -/
def hangStep (h : List Bool) (s : MSpan) : List Bool := if (h.getD s.a false || h.getD s.b false) = true then (h.set s.a true).set s.b true else h
def hangM (nodes : List MNode) (spans : List MSpan) : List Bool :=
  (List.range nodes.length).foldl (fun h _ => (drawingM spans).foldl hangStep h) (nodes.map (·.fixed))
def knotsM (nodes : List MNode) (h : List Bool) : List Nat := (List.range nodes.length).filter fun i => h.getD i false && !(nodes.getD i default).fixed
def addAt (row : List Int) (j : Nat) (d : Int) : List Int := row.set j (row.getD j 0 + d)
def addDrawM (nodes : List MNode) (knots : List Nat) (own other : Nat) (d : Int) (row : List Int) : List Int :=
  let r := addAt row (knots.idxOf own) d
  let o := nodes.getD other default
  if o.fixed = true then addAt (addAt (addAt r (knots.length + 0) (d * o.x)) (knots.length + 1) (d * o.y)) (knots.length + 2) (d * o.z)
  else addAt r (knots.idxOf other) (-d)
def rows0M (nodes : List MNode) (knots : List Nat) : List (List Int) :=
  knots.map fun k => List.replicate knots.length 0 ++ (nodes.getD k default).vec.map fun p => 1000 * p
def rowAt (rows : List (List Int)) (i : Nat) (f : List Int → List Int) : List (List Int) := rows.set i (f (rows.getD i []))
def eqEnd (nodes : List MNode) (knots : List Nat) (own other : Nat) (d : Int) (rows : List (List Int)) : List (List Int) :=
  if own ∈ knots then rowAt rows (knots.idxOf own) (addDrawM nodes knots own other d) else rows
def eqStep (nodes : List MNode) (knots : List Nat) (rows : List (List Int)) (s : MSpan) : List (List Int) :=
  if drawsM s = true then eqEnd nodes knots s.b s.a s.d (eqEnd nodes knots s.a s.b s.d rows) else rows
def eqsM (nodes : List MNode) (spans : List MSpan) (knots : List Nat) : List (List Int) := spans.foldl (eqStep nodes knots) (rows0M nodes knots)
def clearedM (row lead : List Int) (c : Nat) (d : Int) : List Int :=
  (row.zip lead).map fun x => (lead.getD c 0 * x.1 - row.getD c 0 * x.2) / d
def solveStep (s : List (List Int) × Int) (c : Nat) : List (List Int) × Int :=
  (s.1.zipIdx.map fun x => if x.2 = c then x.1 else clearedM x.1 (s.1.getD c []) c s.2, (s.1.getD c []).getD c 0)
def solvedM (rows : List (List Int)) : Int × List (List Int) :=
  let r := (List.range rows.length).foldl solveStep (rows, 1)
  (r.2, r.1.map fun row => row.drop rows.length)
structure MBal where
  hangs : List Bool
  bottom : Int
  places : List (Option (List Int))
def placesM (nodes : List MNode) (knots : List Nat) (bottom : Int) (answers : List (List Int)) : List (Option (List Int)) :=
  (knots.zip answers).foldl (fun p x => p.set x.1 (some x.2))
    ((List.range nodes.length).foldl (fun p i => if (nodes.getD i default).fixed = true then p.set i (some ((nodes.getD i default).vec.map fun q => q * bottom)) else p) (List.replicate nodes.length none))
def balancedM (nodes : List MNode) (spans : List MSpan) : MBal :=
  let hangs := hangM nodes spans
  let knots := knotsM nodes hangs
  let r := solvedM (eqsM nodes spans knots)
  ⟨hangs, r.1, placesM nodes knots r.1 r.2⟩
def swaysM (nodes : List MNode) (spans : List MSpan) (hangs : List Bool) (p : MSpan) : List Int :=
  let knots := knotsM nodes hangs
  let rows := eqsM nodes spans knots
  let pushes := knots.map fun k => (if k = p.a then (1 : Int) else 0) - (if k = p.b then 1 else 0)
  let r := solvedM ((rows.zip pushes).map fun x => x.1.take knots.length ++ [x.2])
  (knots.zip r.2).foldl (fun w x => w.set x.1 (x.2.getD 0 0)) (List.replicate nodes.length 0)
/-! ### forces.py -/
def MBal.fb (b : MBal) : Int := 1000 * b.bottom
def MBal.at_ (b : MBal) (i : Nat) : List Int := (b.places.getD i none).getD []
def MBal.hang (b : MBal) (i : Nat) : Bool := b.hangs.getD i false
def pullM (b : MBal) (own other : Nat) (d : Int) : List Int := (List.range 3).map fun k => d * ((b.at_ other).getD k 0 - (b.at_ own).getD k 0)
def addV (u v : List Int) : List Int := (List.range 3).map fun k => u.getD k 0 + v.getD k 0
def summedM (l : List (List Int)) : List Int := l.foldl addV [0, 0, 0]
def forceM (b : MBal) (spans : List MSpan) (i : Nat) : List Int := summedM ((drawingAtM spans i).map fun s => pullM b i (otherEndM s i) s.d)
def momentM (n : MNode) (f : List Int) : Int := (f.getD 0 0 * f.getD 0 0 + f.getD 1 0 * f.getD 1 0) * n.z * n.z
def bearsSoM (b : MBal) (n : MNode) (m : Int) : Bool := decide (n.bound = 0) || decide (m ≤ n.bound * n.bound * b.fb * b.fb)
def holdsM (b : MBal) (nodes : List MNode) (spans : List MSpan) (i : Nat) : Bool :=
  bearsSoM b (nodes.getD i default) (momentM (nodes.getD i default) (forceM b spans i))
def failingM (b : MBal) (nodes : List MNode) (spans : List MSpan) : List Bool :=
  (List.range nodes.length).map fun i => (nodes.getD i default).fixed && !holdsM b nodes spans i
def strainM (b : MBal) (nodes : List MNode) (spans : List MSpan) (i : Nat) : Int × Int :=
  let n := nodes.getD i default
  (momentM n (forceM b spans i), (b.fb * n.bound) * (b.fb * n.bound))
/-! ### limits.py, ratio.py -/
def partOk (p : Int) : Bool := decide (-99999 ≤ p) && decide (p ≤ 99999)
def vecOk (x y z : Int) : Bool := partOk x && (partOk y && partOk z)
def strOk (s : Int) : Bool := decide (0 ≤ s) && decide (s ≤ 999999)
def gcdM (a b : Int) : Int := (Int.gcd a b : Int)
def toldM (t b : Int) : List Int := [t / gcdM b t, b / gcdM b t]
def toldVecM (ts : List Int) (b : Int) : List Int := ts.flatMap fun t => toldM t b
/-! ### asks.py -/
def placeM (N : MNet) (i : Nat) : List Int :=
  if N.nodes.length ≤ i then [-4] else
    let b := balancedM N.nodes N.spans
    if b.hang i = false then [-7] else 0 :: toldVecM (b.at_ i) b.bottom
def pullAskM (N : MNet) (s : Nat) : List Int :=
  if isSpanM N.spans s = false then [-4] else
    let b := balancedM N.nodes N.spans
    let p := N.spans.getD s default
    if (b.hang p.a && b.hang p.b) = false then [-7] else
      let f := pullM b p.a p.b p.d
      0 :: (toldVecM f b.fb ++ toldM ((f.map fun q => q * q).sum) (b.fb * b.fb))
def bearsM (N : MNet) (i : Nat) : List Int :=
  if N.nodes.length ≤ i then [-4] else
    let n := N.nodes.getD i default
    if n.fixed = false then [-5] else
      let b := balancedM N.nodes N.spans
      let f := forceM b N.spans i
      let m := momentM n f
      (if bearsSoM b n m = true then 1 else 0) :: (toldVecM f b.fb ++ toldM m (b.fb * b.fb))
def boundedM (nodes : List MNode) : List Nat := (List.range nodes.length).filter fun i => (nodes.getD i default).fixed && decide ((nodes.getD i default).bound > 0)
def worstStep (g : Nat → Int × Int) (c : Nat × Int × Int) (i : Nat) : Nat × Int × Int :=
  if (g i).1 * c.2.2 > c.2.1 * (g i).2 then (i, g i) else c
def worstM (N : MNet) : List Int :=
  match boundedM N.nodes with
  | [] => [-7]
  | i :: r =>
    let b := balancedM N.nodes N.spans
    let g := strainM b N.nodes N.spans
    let c := (i :: r).foldl (worstStep g) (i, g i)
    (c.1 : Int) :: toldM c.2.1 c.2.2
def lowestM (N : MNet) : List Int :=
  let b := balancedM N.nodes N.spans
  match knotsM N.nodes b.hangs with
  | [] => [-7]
  | i :: r =>
    let c := (i :: r).foldl (fun c k => if (b.at_ k).getD 2 0 < (b.at_ c).getD 2 0 then k else c) i
    (c : Int) :: toldM ((b.at_ c).getD 2 0) b.bottom
def allM (N : MNet) : List Int :=
  let b := balancedM N.nodes N.spans
  let l := (List.range N.nodes.length).filter fun i => (N.nodes.getD i default).fixed
  0 :: toldVecM (summedM (l.map (forceM b N.spans))) b.fb
def countsM (N : MNet) : List Int :=
  let b := balancedM N.nodes N.spans
  [0, (N.nodes.length : Int), ((N.spans.filter (·.there)).length : Int), ((knotsM N.nodes b.hangs).length : Int), (((failingM b N.nodes N.spans).filter id).length : Int)]
/-! ### trials.py -/
def wouldM (N : MNet) (s : Nat) (d : Int) (i : Nat) : List Int :=
  if strOk d = false then [-1] else if (isSpanM N.spans s && decide (i < N.nodes.length)) = false then [-4] else
    let b := balancedM N.nodes N.spans
    let t := balancedM N.nodes (withDensityM N.spans s d)
    if (b.hang i && t.hang i) = false then [-7] else
      0 :: toldVecM ((List.range 3).map fun k => (t.at_ i).getD k 0 * b.bottom - (b.at_ i).getD k 0 * t.bottom) (b.bottom * t.bottom)
def growthM (N : MNet) (b : MBal) (p : MSpan) (i axis : Nat) (c : Int) : Int × Int :=
  let ways := swaysM N.nodes N.spans b.hangs p
  let give := ways.getD p.a 0 - ways.getD p.b 0
  let gap := (b.at_ p.a).getD axis 0 - (b.at_ p.b).getD axis 0
  let far := (b.at_ i).getD axis 0 - c * b.bottom
  (far * b.bottom, ways.getD i 0 * gap - give * far)
def reachM (N : MNet) (s i axis : Nat) (c : Int) : List Int :=
  if (decide (axis > 2) || !partOk c) = true then [-1] else if (isSpanM N.spans s && decide (i < N.nodes.length)) = false then [-4] else
    let b := balancedM N.nodes N.spans
    let p := N.spans.getD s default
    if (b.hang i && (b.hang p.a && b.hang p.b)) = false then [-7] else
      if (b.at_ i).getD axis 0 = c * b.bottom then [0, 0, 1] else
        let g := growthM N b p i axis c
        if g.2 = 0 ∨ g.1 * g.2 < 0 then [-7] else 0 :: toldM (g.1.natAbs : Int) (g.2.natAbs : Int)
abbrev Fr := Int × Int
def rowPlacesM (nodes : List MNode) (knots : List Nat) (row : List Int) : List (Option (List Fr)) :=
  (knots.zipIdx).foldl (fun p x => p.set x.1 (some ((List.range 3).map fun k => (row.getD (6 * x.2 + 2 * k) 0, row.getD (6 * x.2 + 2 * k + 1) 0))))
    ((List.range nodes.length).foldl (fun p i => if (nodes.getD i default).fixed = true then p.set i (some ((nodes.getD i default).vec.map fun q => (q, 1))) else p) (List.replicate nodes.length none))
def frAt (places : List (Option (List Fr))) (i k : Nat) : Fr := ((places.getD i none).getD []).getD k (0, 1)
def leftStep (places : List (Option (List Fr))) (knot k : Nat) (t : Fr) (s : MSpan) : Fr :=
  let own := frAt places knot k
  let o := frAt places (otherEndM s knot) k
  let pt := s.d * (o.1 * own.2 - own.1 * o.2)
  let pb := 1000 * o.2 * own.2
  (t.1 * pb + pt * t.2, t.2 * pb)
def leftOverM (N : MNet) (places : List (Option (List Fr))) (knot k : Nat) : Fr :=
  (drawingAtM N.spans knot).foldl (leftStep places knot k) ((N.nodes.getD knot default).vec.getD k 0, 1)
def evens : List Int → List Int
  | _ :: b :: r => b :: evens r
  | _ => []
def judgeM (N : MNet) (row : List Int) : List Int :=
  let knots := knotsM N.nodes (hangM N.nodes N.spans)
  if row.length ≠ 6 * knots.length then [-1] else if (evens row).any (fun b => decide (b < 1)) = true then [-1] else
    let places := rowPlacesM N.nodes knots row
    match knots.find? fun k => ((List.range 3).map (leftOverM N places k)).any fun f => decide (f.1 ≠ 0) with
    | none => [0]
    | some k => 1 :: (k : Int) :: ((List.range 3).map (leftOverM N places k)).flatMap fun f => toldM f.1 f.2
def breaksM (N : MNet) (s : Nat) : List Int :=
  if isSpanM N.spans s = false then [-4] else
    let sp := withoutM N.spans s
    let b := balancedM N.nodes N.spans
    let t := balancedM N.nodes sp
    let fn := failingM b N.nodes N.spans
    let ft := failingM t N.nodes sp
    let fallen := (List.range N.nodes.length).filter fun i => b.hang i && !t.hang i
    let broken := (List.range N.nodes.length).filter fun i => ft.getD i false && !fn.getD i false
    0 :: (fallen.length : Int) :: (fallen.map fun (i : Nat) => (i : Int)) ++ (broken.length : Int) :: broken.map fun (i : Nat) => (i : Int)
/-! ### changes.py: the net then, what is answered -/
def addNodeM (N : MNet) (n : MNode) : MNet × List Int :=
  if N.nodes.length ≥ 24 then (N, [-6]) else ({ N with nodes := N.nodes ++ [n] }, [(N.nodes.length : Int)])
def fixM (N : MNet) (x y z b : Int) : MNet × List Int := if (vecOk x y z && strOk b) = false then (N, [-1]) else addNodeM N ⟨true, x, y, z, b⟩
def freeM (N : MNet) (x y z : Int) : MNet × List Int := if vecOk x y z = false then (N, [-1]) else addNodeM N ⟨false, x, y, z, 0⟩
def leadM (N : MNet) (a b : Nat) (d : Int) : MNet × List Int :=
  if (decide (a = b) || !strOk d) = true then (N, [-1]) else if (decide (a < N.nodes.length) && decide (b < N.nodes.length)) = false then (N, [-4]) else
    if N.spans.length ≥ 40 then (N, [-6]) else ({ N with spans := N.spans ++ [⟨a, b, d, true⟩] }, [(N.spans.length : Int)])
def tuneM (N : MNet) (s : Nat) (d : Int) : MNet × List Int :=
  if strOk d = false then (N, [-1]) else if isSpanM N.spans s = false then (N, [-4]) else ({ N with spans := withDensityM N.spans s d }, [0])
def cutM (N : MNet) (s : Nat) : MNet × List Int :=
  if isSpanM N.spans s = false then (N, [-4]) else ({ N with spans := withoutM N.spans s }, [0])
def loadM (N : MNet) (i : Nat) (x y z : Int) : MNet × List Int :=
  if vecOk x y z = false then (N, [-1]) else if N.nodes.length ≤ i then (N, [-4]) else if (N.nodes.getD i default).fixed = true then (N, [-5]) else
    ({ N with nodes := N.nodes.set i ⟨false, x, y, z, 0⟩ }, [0])
def shiftM (N : MNet) (i : Nat) (x y z : Int) : MNet × List Int :=
  if vecOk x y z = false then (N, [-1]) else if N.nodes.length ≤ i then (N, [-4]) else if (N.nodes.getD i default).fixed = false then (N, [-5]) else
    ({ N with nodes := N.nodes.set i ⟨true, x, y, z, (N.nodes.getD i default).bound⟩ }, [0])
end Wp

namespace Wp
/-! ### sizes of numbers -/
def Bits (k : Nat) (z : Int) : Prop := z.natAbs < 2 ^ k
theorem Bits.mono {k l : Nat} {z : Int} (h : Bits k z) (kl : k ≤ l) : Bits l z := Nat.lt_of_lt_of_le h (Nat.pow_le_pow_right (by decide) kl)
theorem Bits.add {k : Nat} {x y : Int} (h : Bits k x) (h2 : Bits k y) : Bits (k + 1) (x + y) := by
  unfold Bits at *
  rw [Nat.pow_succ]
  omega
theorem Bits.sub {k : Nat} {x y : Int} (h : Bits k x) (h2 : Bits k y) : Bits (k + 1) (x - y) := by
  unfold Bits at *
  rw [Nat.pow_succ]
  omega
theorem Bits.mul {k l : Nat} {x y : Int} (h : Bits k x) (h2 : Bits l y) : Bits (k + l) (x * y) := by
  unfold Bits at *
  rw [Int.natAbs_mul, Nat.pow_add]
  exact Nat.mul_lt_mul'' h h2
theorem Bits.neg {k : Nat} {x : Int} (h : Bits k x) : Bits k (-x) := by
  unfold Bits at *
  omega
theorem Bits.zero (k : Nat) : Bits k 0 := by
  unfold Bits
  simp [Nat.two_pow_pos]
theorem Bits.of_le {k : Nat} {z : Int} {m : Nat} (h : z.natAbs ≤ m) (hm : m < 2 ^ k) : Bits k z := Nat.lt_of_le_of_lt h hm
/-- three numbers of so many bits -/
def V3 (k : Nat) (v : List Int) : Prop := ∃ x y z, v = [x, y, z] ∧ Bits k x ∧ Bits k y ∧ Bits k z
theorem V3.mono {k l : Nat} {v : List Int} (h : V3 k v) (kl : k ≤ l) : V3 l v := by
  obtain ⟨x, y, z, e, a, b, c⟩ := h
  exact ⟨x, y, z, e, a.mono kl, b.mono kl, c.mono kl⟩
theorem V3.len {k : Nat} {v : List Int} (h : V3 k v) : v.length = 3 := by
  obtain ⟨x, y, z, e, _⟩ := h
  rw [e]
  rfl
theorem V3.get {k : Nat} {v : List Int} (h : V3 k v) (i : Nat) (hi : i < 3) : v[i]? = some (v.getD i 0) ∧ Bits k (v.getD i 0) := by
  obtain ⟨x, y, z, e, a, b, c⟩ := h
  subst e
  match i, hi with
  | 0, _ => exact ⟨rfl, a⟩
  | 1, _ => exact ⟨rfl, b⟩
  | 2, _ => exact ⟨rfl, c⟩
theorem V3.of (k : Nat) (f : Nat → Int) (h : ∀ i, i < 3 → Bits k (f i)) : V3 k ((List.range 3).map f) := ⟨f 0, f 1, f 2, rfl, h 0 (by decide), h 1 (by decide), h 2 (by decide)⟩
theorem V3.addV {k : Nat} {u v : List Int} (h : V3 k u) (h2 : V3 k v) : V3 (k + 1) (Wp.addV u v) := V3.of _ _ fun i hi => (h.get i hi).2.add (h2.get i hi).2
theorem V3.sum {k : Nat} : ∀ (l : List (List Int)) {a : List Int} {j : Nat}, (∀ v ∈ l, V3 k v) → V3 (k + j) a → V3 (k + j + l.length) (l.foldl Wp.addV a)
  | [], a, j, _, h => h
  | v :: l, a, j, hl, h => by
    have h1 := (h.addV ((hl v (by simp)).mono (Nat.le_add_right k j)))
    have h2 := V3.sum l (j := j + 1) (fun u hu => hl u (List.mem_cons_of_mem _ hu)) (show V3 (k + (j + 1)) (Wp.addV a v) from h1)
    show V3 (k + j + (l.length + 1)) (l.foldl Wp.addV (Wp.addV a v))
    exact h2.mono (by omega)
theorem summed_v3 {k : Nat} {l : List (List Int)} (h : ∀ v ∈ l, V3 k v) : V3 (k + l.length) (summedM l) := by
  have h0 : V3 (k + 0) ([0, 0, 0] : List Int) := ⟨0, 0, 0, rfl, Bits.zero _, Bits.zero _, Bits.zero _⟩
  have := V3.sum l h h0
  exact this
/-! ### what is so of a net, and of its places -/
structure NetOk (nodes : List MNode) (spans : List MSpan) : Prop where
  nl : nodes.length ≤ 24
  sl : spans.length ≤ 40
  node : ∀ n ∈ nodes, V3 17 n.vec ∧ 0 ≤ n.bound ∧ Bits 20 n.bound
  span : ∀ s ∈ spans, s.a < nodes.length ∧ s.b < nodes.length ∧ s.a ≠ s.b ∧ 0 ≤ s.d ∧ Bits 20 s.d
structure BalOk (b : MBal) (nodes : List MNode) (spans : List MSpan) : Prop where
  hl : b.hangs.length = nodes.length
  pl : b.places.length = nodes.length
  hung : ∀ i, b.hang i = true → ∃ v, b.places[i]? = some (some v) ∧ V3 2000 v
  fix : ∀ (i : Nat) (n : MNode), nodes[i]? = some n → n.fixed = true → b.hang i = true
  pos : 0 < b.bottom
  bb : Bits 2000 b.bottom
  closed : ∀ s ∈ spans, drawsM s = true → (b.hang s.a = true ∨ b.hang s.b = true) → b.hang s.a = true ∧ b.hang s.b = true
section
variable {b : MBal} {nodes : List MNode} {spans : List MSpan}
theorem BalOk.at_ (B : BalOk b nodes spans) {i : Nat} (h : b.hang i = true) : b.places[i]? = some (some (b.at_ i)) ∧ V3 2000 (b.at_ i) := by
  obtain ⟨v, h1, h2⟩ := B.hung i h
  have e : b.at_ i = v := by
    unfold MBal.at_
    simp [List.getD, h1]
  rw [e]
  exact ⟨h1, h2⟩
theorem BalOk.fbb (B : BalOk b nodes spans) : Bits 2010 b.fb := by
  have h : Bits (10 + 2000) (1000 * b.bottom) := Bits.mul (show Bits 10 1000 by unfold Bits; decide) B.bb
  exact h
theorem BalOk.fbpos (B : BalOk b nodes spans) : 0 < b.fb := by
  have := B.pos
  show 0 < 1000 * b.bottom
  omega
theorem pull_v3 {own other : Nat} {d : Int} (B : BalOk b nodes spans) (h1 : b.hang own = true) (h2 : b.hang other = true) (hd : Bits 20 d) : V3 2021 (pullM b own other d) :=
  V3.of _ _ fun i hi => by
    have := hd.mul (((B.at_ h2).2.get i hi).2.sub ((B.at_ h1).2.get i hi).2)
    exact this
/-- of a span that draws at i, which hangs -/
theorem drawn_other (N : NetOk nodes spans) (B : BalOk b nodes spans) {i : Nat} (hi : b.hang i = true) {s : MSpan} (hs : s ∈ drawingAtM spans i) : b.hang (otherEndM s i) = true ∧ Bits 20 s.d ∧ (otherEndM s i) < nodes.length := by
  unfold drawingAtM at hs
  obtain ⟨h1, h2⟩ := List.mem_filter.mp hs
  rw [Bool.and_eq_true, Bool.or_eq_true, decide_eq_true_eq, decide_eq_true_eq] at h2
  obtain ⟨q1, q2, q3, q4, q5⟩ := N.span s h1
  have c := B.closed s h1 h2.1 (by rcases h2.2 with e | e <;> rw [← e] at hi <;> simp [hi])
  unfold otherEndM
  split
  · exact ⟨c.2, q5, q2⟩
  · exact ⟨c.1, q5, q1⟩
theorem drawingAt_len (i : Nat) : (drawingAtM spans i).length ≤ spans.length := List.length_filter_le _ _
theorem force_v3 (N : NetOk nodes spans) (B : BalOk b nodes spans) {i : Nat} (hi : b.hang i = true) : V3 2061 (forceM b spans i) := by
  unfold forceM
  have h := summed_v3 (k := 2021) (l := (drawingAtM spans i).map fun s => pullM b i (otherEndM s i) s.d) fun v hv => by
    obtain ⟨s, hs, rfl⟩ := List.mem_map.mp hv
    obtain ⟨h1, h2, _⟩ := drawn_other N B hi hs
    exact pull_v3 B hi h1 h2
  refine h.mono ?_
  rw [List.length_map]
  have := drawingAt_len (spans := spans) i
  have := N.sl
  omega
theorem moment_bits {n : MNode} {f : List Int} (hn : V3 17 n.vec) (hf : V3 2200 f) : Bits 4500 (momentM n f) := by
  have hz : Bits 17 n.z := (hn.get 2 (by decide)).2
  have h0 := (hf.get 0 (by decide)).2
  have h1 := (hf.get 1 (by decide)).2
  unfold momentM
  exact ((((h0.mul h0).add (h1.mul h1)).mul hz).mul hz).mono (by decide)
end
/-! ### the equations' solving, turn by turn -/
def stateAt (rows : List (List Int)) (k : Nat) : List (List Int) × Int := (List.range k).foldl solveStep (rows, 1)
theorem stateAt_succ (rows : List (List Int)) (k : Nat) : stateAt rows (k + 1) = solveStep (stateAt rows k) k := by
  unfold stateAt
  rw [List.range_succ, List.foldl_append]
  rfl
structure SolveOk (rows : List (List Int)) (m : Nat) : Prop where
  wide : ∀ r ∈ rows, r.length = m
  le : rows.length ≤ m
  few : rows.length ≤ 24
  mle : m ≤ 100
  bits : ∀ k, k ≤ rows.length → ∀ r ∈ (stateAt rows k).1, ∀ z ∈ r, Bits 2000 z
  pos : ∀ k, k ≤ rows.length → 0 < (stateAt rows k).2
  bot : ∀ k, k ≤ rows.length → Bits 2000 (stateAt rows k).2
theorem solveStep_len (s : List (List Int) × Int) (c : Nat) : (solveStep s c).1.length = s.1.length := by simp [solveStep]
theorem stateAt_len (rows : List (List Int)) (k : Nat) : (stateAt rows k).1.length = rows.length := by
  induction k with
  | zero => rfl
  | succ k ih => rw [stateAt_succ, solveStep_len, ih]
theorem cleared_len {row lead : List Int} {c m : Nat} {d : Int} (h1 : row.length = m) (h2 : lead.length = m) : (clearedM row lead c d).length = m := by
  unfold clearedM
  rw [List.length_map, List.length_zip, h1, h2, Nat.min_self]
theorem stateAt_wide {rows : List (List Int)} {m : Nat} (h : ∀ r ∈ rows, r.length = m) : ∀ k, k ≤ rows.length → ∀ r ∈ (stateAt rows k).1, r.length = m
  | 0, _, r, hr => h r hr
  | k + 1, hk, r, hr => by
    have ih := stateAt_wide h k (by omega)
    rw [stateAt_succ] at hr
    obtain ⟨x, hx, rfl⟩ := List.mem_map.mp hr
    have hx1 : x.1 ∈ (stateAt rows k).1 := by
      obtain ⟨a, b⟩ := x
      rw [List.mem_zipIdx_iff_getElem?] at hx
      exact List.mem_of_getElem? hx
    have hk' : k < (stateAt rows k).1.length := by rw [stateAt_len]; omega
    have hl : ((stateAt rows k).1.getD k []).length = m := by
      rw [show (stateAt rows k).1.getD k [] = (stateAt rows k).1[k] by simp [List.getD, List.getElem?_eq_getElem hk']]
      exact ih _ (List.getElem_mem hk')
    split
    · exact ih _ hx1
    · exact cleared_len (ih _ hx1) hl
end Wp

namespace Wp
/-! ### the solving, entry by entry -/
def ent (rows : List (List Int)) (i j : Nat) : Int := (rows.getD i []).getD j 0
def matOf (rows : List (List Int)) : Mat := fun i j => (ent rows i j : Rat)
structure RowsOk (rows : List (List Int)) (m : Nat) (v : Nat → Rat) : Prop where
  wide : ∀ r ∈ rows, r.length = m
  le : rows.length ≤ m
  few : rows.length ≤ 24
  mle : m ≤ 100
  bits : ∀ r ∈ rows, ∀ z ∈ r, Bits 46 z
  dom : Dom (List.range rows.length) v (matOf rows)
theorem getD_mem {α : Type} {l : List α} {i : Nat} {d : α} (h : i < l.length) : l.getD i d ∈ l := by
  rw [show l.getD i d = l[i] by simp [List.getD, List.getElem?_eq_getElem h]]
  exact List.getElem_mem h
theorem getD_out {α : Type} {l : List α} {i : Nat} {d : α} (h : l.length ≤ i) : l.getD i d = d := by
  simp [List.getD, List.getElem?_eq_none h]
theorem ent_bits {rows : List (List Int)} {k : Nat} (h : ∀ r ∈ rows, ∀ z ∈ r, Bits k z) (i j : Nat) : Bits k (ent rows i j) := by
  unfold ent
  by_cases hi : i < rows.length
  · by_cases hj : j < (rows.getD i []).length
    · exact h _ (getD_mem hi) _ (getD_mem hj)
    · rw [getD_out (by omega)]
      exact Bits.zero _
  · rw [getD_out (l := rows) (by omega)]
    exact Bits.zero _
theorem solveStep_ent {st : List (List Int) × Int} {c m i j : Nat} (hw : ∀ r ∈ st.1, r.length = m) (hc : c < st.1.length) (hi : i < st.1.length) (hj : j < m) :
    ent (solveStep st c).1 i j = if i = c then ent st.1 i j else (ent st.1 c c * ent st.1 i j - ent st.1 i c * ent st.1 c j) / st.2 := by
  have h0 : (solveStep st c).1.getD i [] = if i = c then st.1.getD i [] else clearedM (st.1.getD i []) (st.1.getD c []) c st.2 := by
    unfold solveStep
    simp [List.getD, List.getElem?_eq_getElem hi]
  have li := hw _ (getD_mem (d := []) hi)
  have lc := hw _ (getD_mem (d := []) hc)
  unfold ent
  rw [h0]
  split
  · rfl
  · have hji : j < (st.1.getD i []).length := by omega
    have hjc : j < (st.1.getD c []).length := by omega
    unfold clearedM
    generalize st.1.getD i [] = ri at *
    generalize st.1.getD c [] = rc at *
    simp only [List.getD, List.getElem?_map, List.getElem?_zip_eq_some, List.getElem?_eq_getElem hji, List.getElem?_eq_getElem hjc]
    have : (ri.zip rc)[j]? = some (ri[j], rc[j]) := List.getElem?_zip_eq_some.mpr ⟨List.getElem?_eq_getElem hji, List.getElem?_eq_getElem hjc⟩
    rw [this]
    rfl
theorem lid_bits : ∀ k, k ≤ 24 → lid 25 (2 ^ 46) k ≤ 2 ^ (46 + 51 * k)
  | 0, _ => by
    show 2 ^ 46 ≤ 2 ^ (46 + 51 * 0)
    exact Nat.le_refl _
  | k + 1, h => by
    have ih := lid_bits k (by omega)
    show 25 * 2 ^ 46 * lid 25 (2 ^ 46) k ≤ _
    rw [show 46 + 51 * (k + 1) = 51 + (46 + 51 * k) by omega, Nat.pow_add 2 51]
    exact Nat.mul_le_mul (by decide) ih
theorem intB_eq {B : Nat} {x : Rat} (h : IntB B x) {z : Int} (e : x = (z : Rat)) : z.natAbs ≤ B := by
  obtain ⟨u, hu, hb⟩ := h
  have : (z : Rat) = (u : Rat) := by rw [← e, hu]
  have h2 : z = u := by exact_mod_cast this
  rw [h2]
  exact hb
section
variable {rows : List (List Int)} {m : Nat} {v : Nat → Rat}
theorem RowsOk.whole_ (R : RowsOk rows m v) (k : Nat) (hk : k ≤ rows.length) : IntB (lid 25 (2 ^ 46) k) (piv (List.range k) (matOf rows)) ∧ ∀ i ∈ List.range rows.length, ∀ j, IntB (lid 25 (2 ^ 46) k) (piv (List.range k) (matOf rows) * gjs (List.range k) (matOf rows) i j) :=
  whole R.dom (fun i _ j => ⟨_, rfl, by have := ent_bits R.bits i j; unfold Bits at this; omega⟩) (by rw [List.length_range]; have := R.few; omega) (by decide) k (List.range k) List.length_range List.nodup_range fun x hx => by
    rw [List.mem_range] at *
    omega
theorem RowsOk.ppos (R : RowsOk rows m v) (k : Nat) (hk : k ≤ rows.length) : 0 < piv (List.range k) (matOf rows) := piv_pos _ R.dom List.nodup_range fun x hx => by
  rw [List.mem_range] at *
  omega
theorem RowsOk.state (R : RowsOk rows m v) : ∀ k, k ≤ rows.length → ((stateAt rows k).2 : Rat) = piv (List.range k) (matOf rows) ∧ ∀ i j, i < rows.length → j < m → (ent (stateAt rows k).1 i j : Rat) = piv (List.range k) (matOf rows) * gjs (List.range k) (matOf rows) i j
  | 0, _ => by
    refine ⟨rfl, fun i j _ _ => ?_⟩
    show (ent rows i j : Rat) = 1 * matOf rows i j
    rw [Rat.one_mul]
    rfl
  | k + 1, hk => by
    obtain ⟨h1, h2⟩ := R.state k (by omega)
    have hp := R.ppos k (by omega)
    have hw := stateAt_wide R.wide k (by omega)
    have hl := stateAt_len rows k
    have hkm : k < m := by have := R.le; omega
    have gp : 0 < gjs (List.range k) (matOf rows) k k := next_pos _ R.dom List.nodup_range (fun x hx => by rw [List.mem_range] at *; omega) k (by rw [List.mem_range]; omega) (by simp)
    have hw2 := (R.whole_ (k + 1) hk).2
    rw [stateAt_succ, List.range_succ, piv_snoc, gjs_snoc]
    rw [List.range_succ, piv_snoc, gjs_snoc] at hw2
    have e2 := h2 k k (by omega) hkm
    have hb : (solveStep (stateAt rows k) k).2 = ent (stateAt rows k).1 k k := rfl
    refine ⟨by rw [hb]; exact e2, fun i j hi hj => ?_⟩
    rw [solveStep_ent hw (by omega) (by omega) hj]
    by_cases e : i = k
    · subst e
      rw [if_pos rfl, h2 i j (by omega) hj, gj_at]
      grind
    · rw [if_neg e, gj_ne _ _ e]
      obtain ⟨z, hz, _⟩ := hw2 i (by rw [List.mem_range]; omega) j
      rw [gj_ne _ _ e] at hz
      have a1 := h2 i j hi hj
      have a2 := h2 i k hi hkm
      have a3 := h2 k j (by omega) hj
      have hnum : ((ent (stateAt rows k).1 k k * ent (stateAt rows k).1 i j - ent (stateAt rows k).1 i k * ent (stateAt rows k).1 k j : Int) : Rat) = (((stateAt rows k).2 * z : Int) : Rat) := by
        push_cast
        rw [e2, a1, a2, a3, h1, ← hz]
        grind
      have hnum2 : ent (stateAt rows k).1 k k * ent (stateAt rows k).1 i j - ent (stateAt rows k).1 i k * ent (stateAt rows k).1 k j = (stateAt rows k).2 * z := by exact_mod_cast hnum
      have hne : (stateAt rows k).2 ≠ 0 := fun q => by
        rw [q] at h1
        rw [← h1] at hp
        exact absurd hp (by decide)
      rw [hnum2, Int.mul_ediv_cancel_left _ hne, hz]
theorem RowsOk.solveOk (R : RowsOk rows m v) : SolveOk rows m := by
  have lb : ∀ k, k ≤ rows.length → lid 25 (2 ^ 46) k < 2 ^ 2000 := fun k hk => by
    have := R.few
    exact Nat.lt_of_le_of_lt (lid_bits k (by omega)) (Nat.pow_lt_pow_right (by decide) (by omega))
  refine ⟨R.wide, R.le, R.few, R.mle, fun k hk r hr z hz => ?_, fun k hk => ?_, fun k hk => ?_⟩
  · obtain ⟨i, hi, rfl⟩ := List.getElem_of_mem hr
    obtain ⟨j, hj, rfl⟩ := List.getElem_of_mem hz
    have hw := stateAt_wide R.wide k hk _ hr
    have hl := stateAt_len rows k
    have h := (R.state k hk).2 i j (by omega) (by omega)
    have e : ent (stateAt rows k).1 i j = (stateAt rows k).1[i][j] := by
      unfold ent
      simp [List.getD, List.getElem?_eq_getElem hi, List.getElem?_eq_getElem hj]
    rw [e] at h
    exact Nat.lt_of_le_of_lt (intB_eq ((R.whole_ k hk).2 i (by rw [List.mem_range]; omega) j) h.symm) (lb k hk)
  · have h := (R.state k hk).1
    have := R.ppos k hk
    rw [← h] at this
    exact_mod_cast this
  · exact Nat.lt_of_le_of_lt (intB_eq (R.whole_ k hk).1 (R.state k hk).1.symm) (lb k hk)
/-- what the solving tells is the one solution -/
theorem RowsOk.sol (R : RowsOk rows m v) {x : Nat → Rat} {c : Nat} (hc : rows.length + c < m) (hx : Solves (List.range rows.length) (matOf rows) x (rows.length + c)) {i : Nat} (hi : i < rows.length) :
    x i = (((solvedM rows).2.getD i []).getD c 0 : Rat) / ((solvedM rows).1 : Rat) := by
  have h := R.state rows.length (Nat.le_refl _)
  have e1 : (solvedM rows).1 = (stateAt rows rows.length).2 := rfl
  have e2 : ((solvedM rows).2.getD i []).getD c 0 = ent (stateAt rows rows.length).1 i (rows.length + c) := by
    have : (solvedM rows).2 = (stateAt rows rows.length).1.map fun row => row.drop rows.length := rfl
    rw [this]
    unfold ent
    simp [List.getD]
    cases (stateAt rows rows.length).1[i]? <;> simp
  rw [e1, e2, h.1, h.2 i _ hi hc, hx.is R.dom (by rw [List.mem_range]; exact hi)]
  have := R.ppos rows.length (Nat.le_refl _)
  grind
end
end Wp

namespace Wp
open OwPull
/-! ### the specification's linear equations -/
def rmat (rows : List (List Rat)) : Mat := fun i j => (rows.getD i []).getD j 0
theorem rmat_zero (r : List Rat) (rest : List (List Rat)) (j : Nat) : rmat (r :: rest) 0 j = r.getD j 0 := rfl
theorem rmat_succ (r : List Rat) (rest : List (List Rat)) (i j : Nat) : rmat (r :: rest) (i + 1) j = rmat rest i j := by simp [rmat, List.getD]
theorem solved_len_ (k : Nat) : ∀ rows : List (List Rat), (solved k rows.length rows).length = rows.length
  | [] => rfl
  | r :: rest => by
    show (_ :: solved k rest.length _).length = _
    have e : ∀ g : List Rat → List Rat, rest.length = (rest.map g).length := fun g => by rw [List.length_map]
    rw [e fun t => List.zipWith (fun (x y : Rat) => x - t.headD 0 * y) t.tail (r.tail.map fun (x : Rat) => x / r.headD 1)]
    rw [List.length_cons, solved_len_ k]
    simp
termination_by rows => rows.length
theorem head_getD (r : List Rat) (d : Rat) (h : 0 < r.length) : r.headD d = r.getD 0 0 := by
  cases r with
  | nil => simp at h
  | cons a t => rfl
theorem map_div_getD (l : List Rat) (p : Rat) (j : Nat) : (l.map fun (x : Rat) => x / p).getD j 0 = l.getD j 0 / p := by
  simp only [List.getD, List.getElem?_map]
  cases l[j]? with
  | none =>
    show (0 : Rat) = 0 / p
    rw [Rat.div_def, Rat.zero_mul]
  | some x => rfl
theorem tail_getD (r : List Rat) (j : Nat) : r.tail.getD j 0 = r.getD (j + 1) 0 := by
  cases r with
  | nil => simp
  | cons a t => simp
theorem range_erase (n : Nat) : (List.range (n + 1)).erase 0 = (List.range n).map (· + 1) := by
  rw [List.range_succ_eq_map]
  simp
theorem dot_is (X : List (List Rat)) (c : Nat) : ∀ q : List Rat, (q.zip X).foldr (fun (y : Rat × List Rat) (s : Rat) => y.1 * y.2.getD c 0 + s) 0 = sumL (List.range X.length) fun j => q.getD j 0 * (X.getD j []).getD c 0 := by
  induction X with
  | nil => intro q; simp [sumL]
  | cons x X ih =>
    intro q
    rw [List.length_cons, List.range_succ_eq_map, sumL_cons, sumL_map]
    cases q with
    | nil =>
      simp only [List.zip_nil_left, List.foldr_nil]
      rw [show (fun j => ([] : List Rat).getD (Nat.succ j) 0 * ((x :: X).getD (Nat.succ j) []).getD c 0) = fun _ => 0 from funext fun j => by simp, sumL_zero]
      simp
      grind
    | cons a q =>
      simp only [List.zip_cons_cons, List.foldr_cons]
      rw [ih q]
      simp
/-- the equations' answers solve them -/
theorem solved_solves (k : Nat) : ∀ (n : Nat) (rows : List (List Rat)) (v : Nat → Rat), rows.length = n → (∀ r ∈ rows, r.length = n + k) → Dom (List.range n) v (rmat rows) →
    ∀ c, c < k → Solves (List.range n) (rmat rows) (fun j => ((solved k n rows).getD j []).getD c 0) (n + c)
  | 0, rows, v, hl, hw, D, c, hc => fun i hi => by simp at hi
  | n + 1, [], v, hl, hw, D, c, hc => by simp at hl
  | n + 1, r :: rest, v, hl, hw, D, c, hc => by
    have hrl : rest.length = n := by simpa using hl
    have wr : r.length = n + 1 + k := hw r (by simp)
    have hp : 0 < rmat (r :: rest) 0 0 := D.diag (by simp)
    rw [rmat_zero] at hp
    have e1 : r.headD 1 = r.getD 0 0 := head_getD r 1 (by omega)
    generalize hq : r.tail.map (fun (x : Rat) => x / r.headD 1) = q
    have qat : ∀ j, q.getD j 0 = r.getD (j + 1) 0 / r.getD 0 0 := fun j => by
      rw [← hq, e1, ← tail_getD, map_div_getD]
    have lq : q.length = n + k := by rw [← hq, List.length_map, List.length_tail, wr]; omega
    generalize hrows : rest.map (fun (t : List Rat) => List.zipWith (fun (x y : Rat) => x - t.headD 0 * y) t.tail q) = rows'
    have lrows : rows'.length = n := by rw [← hrows, List.length_map, hrl]
    have ent' : ∀ i j, i < n → j < n + k → rmat rows' i j = gj 0 (rmat (r :: rest)) (i + 1) (j + 1) := fun i j hi hj => by
      have hir : i < rest.length := by omega
      have wt : (rest[i]).length = n + 1 + k := hw _ (by simp)
      rw [gj_ne _ _ (by omega), rmat_succ, rmat_succ, rmat_zero, rmat_zero]
      unfold rmat
      rw [← hrows]
      have h1 : (rest.map (fun (t : List Rat) => List.zipWith (fun (x y : Rat) => x - t.headD 0 * y) t.tail q)).getD i [] = List.zipWith (fun (x y : Rat) => x - (rest[i]).headD 0 * y) (rest[i]).tail q := by
        simp [List.getD, List.getElem?_eq_getElem hir]
      have h2 : rest.getD i [] = rest[i] := by simp [List.getD, List.getElem?_eq_getElem hir]
      rw [h1, h2]
      have hjt : j < (rest[i]).tail.length := by rw [List.length_tail, wt]; omega
      have hjq : j < q.length := by omega
      have h3 : (List.zipWith (fun (x y : Rat) => x - (rest[i]).headD 0 * y) (rest[i]).tail q).getD j 0 = (rest[i]).tail.getD j 0 - (rest[i]).headD 0 * q.getD j 0 := by
        simp [List.getD, List.getElem?_zipWith, List.getElem?_eq_getElem hjt, List.getElem?_eq_getElem hjq]
      rw [h3, tail_getD, qat, head_getD _ 0 (by omega)]
      grind
    have D' := D.step (q := 0) (by simp)
    rw [range_erase] at D'
    have D2 : Dom (List.range n) (fun i => v (i + 1)) (rmat rows') := by
      refine ⟨List.nodup_range, fun i hi => D'.pos (i + 1) (List.mem_map.mpr ⟨i, hi, rfl⟩), fun i hi j hj ne => ?_, fun i hi => ?_⟩
      · rw [List.mem_range] at hi hj
        rw [ent' i j hi (by omega)]
        exact D'.off (i + 1) (List.mem_map.mpr ⟨i, by simpa using hi, rfl⟩) (j + 1) (List.mem_map.mpr ⟨j, by simpa using hj, rfl⟩) (by omega)
      · have h := D'.row (i + 1) (List.mem_map.mpr ⟨i, hi, rfl⟩)
        rw [sumL_map] at h
        rw [List.mem_range] at hi
        rw [sumL_congr (g := fun j => gj 0 (rmat (r :: rest)) (i + 1) (j + 1) * v (j + 1)) fun j hj => by rw [ent' i j hi (by rw [List.mem_range] at hj; omega)]]
        exact h
    have wid' : ∀ t ∈ rows', t.length = n + k := fun t ht => by
      rw [← hrows] at ht
      obtain ⟨u, hu, rfl⟩ := List.mem_map.mp ht
      have := hw u (by simp [hu])
      rw [List.length_zipWith, List.length_tail, this, lq]
      omega
    have ih := solved_solves k n rows' _ lrows wid' D2 c hc
    have lX : (solved k n rows').length = n := by
      have := solved_len_ k rows'
      rw [lrows] at this
      exact this
    have hS : solved k (n + 1) (r :: rest) = ((List.range k).map fun (c : Nat) => (q.drop (solved k n rows').length).getD c 0 - ((q.take (solved k n rows').length).zip (solved k n rows')).foldr (fun (y : Rat × List Rat) (s : Rat) => y.1 * y.2.getD c 0 + s) 0) :: solved k n rows' := by
      rw [← hrows, ← hq]
      rfl
    rw [hS]
    generalize solved k n rows' = X at ih lX
    rw [lX]
    have x0 : ((List.range k).map fun (c : Nat) => (q.drop n).getD c 0 - ((q.take n).zip X).foldr (fun (y : Rat × List Rat) (s : Rat) => y.1 * y.2.getD c 0 + s) 0).getD c 0 = q.getD (n + c) 0 - sumL (List.range n) fun j => q.getD j 0 * (X.getD j []).getD c 0 := by
      rw [show ((List.range k).map fun (c : Nat) => (q.drop n).getD c 0 - ((q.take n).zip X).foldr (fun (y : Rat × List Rat) (s : Rat) => y.1 * y.2.getD c 0 + s) 0).getD c 0 = (q.drop n).getD c 0 - ((q.take n).zip X).foldr (fun (y : Rat × List Rat) (s : Rat) => y.1 * y.2.getD c 0 + s) 0 by simp [List.getD, hc], dot_is, lX]
      congr 1
      · simp [List.getD, List.getElem?_drop]
      · refine sumL_congr fun j hj => ?_
        rw [List.mem_range] at hj
        simp [List.getD, List.getElem?_take, hj]
    have key : ∀ F : Nat → Rat, sumL (List.range (n + 1)) (fun j => F j * ((((List.range k).map fun (c : Nat) => (q.drop n).getD c 0 - ((q.take n).zip X).foldr (fun (y : Rat × List Rat) (s : Rat) => y.1 * y.2.getD c 0 + s) 0) :: X).getD j []).getD c 0) = F 0 * (q.getD (n + c) 0 - sumL (List.range n) fun j => q.getD j 0 * (X.getD j []).getD c 0) + sumL (List.range n) fun j => F (j + 1) * (X.getD j []).getD c 0 := fun F => by
      rw [List.range_succ_eq_map, sumL_cons, sumL_map]
      rw [show (((List.range k).map fun (c : Nat) => (q.drop n).getD c 0 - ((q.take n).zip X).foldr (fun (y : Rat × List Rat) (s : Rat) => y.1 * y.2.getD c 0 + s) 0) :: X).getD 0 [] = ((List.range k).map fun (c : Nat) => (q.drop n).getD c 0 - ((q.take n).zip X).foldr (fun (y : Rat × List Rat) (s : Rat) => y.1 * y.2.getD c 0 + s) 0) from rfl, x0]
      congr 1
    have lin : ∀ a : Rat, sumL (List.range n) (fun j => a * (q.getD j 0 * (X.getD j []).getD c 0)) = a * sumL (List.range n) (fun j => q.getD j 0 * (X.getD j []).getD c 0) := fun a => by
      have := sumL_lin (List.range n) (fun j => q.getD j 0 * (X.getD j []).getD c 0) (fun _ => 0) a 0
      rw [sumL_zero] at this
      rw [show (fun j => a * (q.getD j 0 * (X.getD j []).getD c 0)) = fun j => a * (q.getD j 0 * (X.getD j []).getD c 0) + 0 * 0 from funext fun j => by grind, this]
      grind
    intro i hi
    rw [List.mem_range] at hi
    show sumL _ (fun j => rmat (r :: rest) i j * _) = _
    rw [key]
    cases i with
    | zero =>
      simp only [rmat_zero]
      have e2 : sumL (List.range n) (fun j => r.getD (j + 1) 0 * (X.getD j []).getD c 0) = sumL (List.range n) (fun j => r.getD 0 0 * (q.getD j 0 * (X.getD j []).getD c 0)) := sumL_congr fun j hj => by
        rw [qat]
        grind
      rw [e2, lin, qat, show n + 1 + c = n + c + 1 by omega]
      grind
    | succ i =>
      have hi' : i < n := by omega
      have h := ih i (by rw [List.mem_range]; exact hi')
      have e3 : ∀ j, j < n + k → rmat rows' i j = rmat (r :: rest) (i + 1) (j + 1) - rmat (r :: rest) (i + 1) 0 * q.getD j 0 := fun j hj => by
        rw [ent' i j hi' hj, gj_ne _ _ (by omega), qat, rmat_zero, rmat_zero]
        grind
      rw [e3 _ (by omega)] at h
      rw [sumL_congr (g := fun j => 1 * (rmat (r :: rest) (i + 1) (j + 1) * (X.getD j []).getD c 0) + (- rmat (r :: rest) (i + 1) 0) * (q.getD j 0 * (X.getD j []).getD c 0)) fun j hj => by
        rw [e3 _ (by rw [List.mem_range] at hj; omega)]
        grind] at h
      rw [sumL_lin] at h
      rw [show n + 1 + c = n + c + 1 by omega]
      grind
end Wp

namespace Wp
open OwPull
/-! ### the net, in the specification's words -/
def absNode (n : MNode) : Node := if n.fixed = true then .fixed ⟨(n.x : Rat), (n.y : Rat), (n.z : Rat)⟩ n.bound.toNat else .free ⟨(n.x : Rat), (n.y : Rat), (n.z : Rat)⟩
def toSpan (s : MSpan) : Span := ⟨s.a, s.b, (s.d : Rat)⟩
def absSpan (s : MSpan) : Option Span := if s.there = true then some (toSpan s) else none
def absN (nodes : List MNode) (spans : List MSpan) : Net := ⟨nodes.map absNode, spans.map absSpan⟩
theorem drawing_is (nodes : List MNode) : ∀ spans : List MSpan, (absN nodes spans).drawing = (drawingM spans).map toSpan := by
  intro spans
  unfold Net.drawing absN drawingM
  induction spans with
  | nil => rfl
  | cons s r ih =>
    dsimp only at ih ⊢
    rw [List.map_cons, List.filterMap_cons, List.filter_cons]
    have e : ((absSpan s).bind fun (x : Span) => if x.density = 0 then none else some x) = if drawsM s = true then some (toSpan s) else none := by
      unfold absSpan drawsM
      cases s.there with
      | false => rfl
      | true =>
        simp only [if_true, Bool.true_and]
        show (if (s.d : Rat) = 0 then none else some (toSpan s)) = _
        by_cases h : s.d = 0
        · have : (s.d : Rat) = 0 := by rw [h]; rfl
          rw [if_pos this, if_neg (by simp [h])]
        · have : ¬ (s.d : Rat) = 0 := fun q => h (by exact_mod_cast q)
          rw [if_neg this, if_pos (by simpa using h)]
    rw [e]
    by_cases h : drawsM s = true
    · rw [if_pos h, if_pos h, List.map_cons, ih]
    · rw [if_neg h, if_neg h, ih]
theorem node_get (nodes : List MNode) (spans : List MSpan) (i : Nat) : (absN nodes spans).nodes[i]? = (nodes[i]?).map absNode := List.getElem?_map
theorem fixedAt_is (nodes : List MNode) (spans : List MSpan) {i : Nat} (hi : i < nodes.length) : (absN nodes spans).fixedAt i = (nodes.getD i default).fixed := by
  unfold Net.fixedAt
  rw [node_get, List.getElem?_eq_getElem hi]
  simp only [List.getD, List.getElem?_eq_getElem hi, Option.map_some, Option.any_some, Option.getD_some]
  unfold absNode
  cases nodes[i].fixed <;> rfl
theorem freeAt_is (nodes : List MNode) (spans : List MSpan) {i : Nat} (hi : i < nodes.length) : (absN nodes spans).freeAt i = !(nodes.getD i default).fixed := by
  unfold Net.freeAt
  rw [node_get, List.getElem?_eq_getElem hi]
  simp only [List.getD, List.getElem?_eq_getElem hi, Option.map_some, Option.any_some, Option.getD_some]
  unfold absNode
  cases nodes[i].fixed <;> rfl
/-! ### which hang, step by step -/
def lv (nodes : List MNode) (spans : List MSpan) : Nat → Nat → Bool
  | 0, i => (nodes.getD i default).fixed
  | k + 1, i => lv nodes spans k i || (drawingM spans).any fun s => (decide (s.a = i) && lv nodes spans k s.b) || (decide (s.b = i) && lv nodes spans k s.a)
section
variable {nodes : List MNode} {spans : List MSpan}
theorem lv_up {k i : Nat} (h : lv nodes spans k i = true) : lv nodes spans (k + 1) i = true := by
  show (_ || _) = true
  rw [h, Bool.true_or]
theorem lv_mono {k j i : Nat} (h : lv nodes spans k i = true) (kj : k ≤ j) : lv nodes spans j i = true := by
  induction kj with
  | refl => exact h
  | step _ ih => exact lv_up ih
theorem lv_next {k : Nat} {s : MSpan} (hs : s ∈ drawingM spans) : (lv nodes spans k s.a = true → lv nodes spans (k + 1) s.b = true) ∧ (lv nodes spans k s.b = true → lv nodes spans (k + 1) s.a = true) := by
  refine ⟨fun h => ?_, fun h => ?_⟩ <;>
  · show (_ || _) = true
    rw [Bool.or_eq_true]
    refine Or.inr (List.any_eq_true.mpr ⟨s, hs, ?_⟩)
    simp [h]
def EndsOk (nodes : List MNode) (spans : List MSpan) : Prop := ∀ s ∈ drawingM spans, s.a < nodes.length ∧ s.b < nodes.length ∧ s.a ≠ s.b
def Stable (nodes : List MNode) (spans : List MSpan) (k : Nat) : Prop := ∀ i, i < nodes.length → lv nodes spans (k + 1) i = lv nodes spans k i
theorem Stable.next (E : EndsOk nodes spans) {k : Nat} (h : Stable nodes spans k) : Stable nodes spans (k + 1) := fun i hi => by
  show (lv nodes spans (k + 1) i || (drawingM spans).any _) = _
  have e : ((drawingM spans).any fun s => (decide (s.a = i) && lv nodes spans (k + 1) s.b) || (decide (s.b = i) && lv nodes spans (k + 1) s.a)) = (drawingM spans).any fun s => (decide (s.a = i) && lv nodes spans k s.b) || (decide (s.b = i) && lv nodes spans k s.a) := by
    rw [Bool.eq_iff_iff, List.any_eq_true, List.any_eq_true]
    refine ⟨fun ⟨s, hs, q⟩ => ⟨s, hs, ?_⟩, fun ⟨s, hs, q⟩ => ⟨s, hs, ?_⟩⟩
    · rw [h _ (E s hs).1, h _ (E s hs).2.1] at q
      exact q
    · rw [h _ (E s hs).1, h _ (E s hs).2.1]
      exact q
  rw [e]
  have h2 : lv nodes spans (k + 1) i = (lv nodes spans k i || (drawingM spans).any fun s => (decide (s.a = i) && lv nodes spans k s.b) || (decide (s.b = i) && lv nodes spans k s.a)) := rfl
  rw [h2]
  cases lv nodes spans k i <;> simp
theorem countP_lt {α : Type} {p q : α → Bool} : ∀ {l : List α}, (∀ x ∈ l, p x = true → q x = true) → (∃ x ∈ l, p x = false ∧ q x = true) → l.countP p < l.countP q
  | [], _, ⟨x, hx, _⟩ => by simp at hx
  | a :: l, h, ⟨x, hx, hp, hq⟩ => by
    rw [List.countP_cons, List.countP_cons]
    have hle : l.countP p ≤ l.countP q := List.countP_mono_left fun y hy => h y (List.mem_cons_of_mem _ hy)
    rcases List.mem_cons.mp hx with e | hx
    · subst e
      rw [hp, hq]
      simp
      omega
    · have := countP_lt (l := l) (fun y hy => h y (List.mem_cons_of_mem _ hy)) ⟨x, hx, hp, hq⟩
      have h3 := h a (by simp)
      cases hpa : p a with
      | true => rw [h3 hpa]; simp; omega
      | false => cases q a <;> simp <;> omega
theorem stable_or (E : EndsOk nodes spans) : ∀ k, Stable nodes spans k ∨ k ≤ (List.range nodes.length).countP (lv nodes spans k)
  | 0 => Or.inr (Nat.zero_le _)
  | k + 1 => by
    rcases stable_or E k with h | h
    · exact Or.inl (h.next E)
    · by_cases hs : Stable nodes spans k
      · exact Or.inl (hs.next E)
      · refine Or.inr (Nat.lt_of_le_of_lt h (countP_lt (fun x _ q => lv_up q) ?_))
        refine Classical.byContradiction fun hn => hs fun i hi => ?_
        cases hk : lv nodes spans k i with
        | true => exact lv_up hk
        | false =>
          cases hk1 : lv nodes spans (k + 1) i with
          | false => rfl
          | true => exact absurd ⟨i, by simpa using hi, hk, hk1⟩ hn
theorem stable (E : EndsOk nodes spans) : Stable nodes spans nodes.length := by
  rcases stable_or E nodes.length with h | h
  · exact h
  · intro i hi
    have hc : (List.range nodes.length).countP (lv nodes spans nodes.length) = (List.range nodes.length).length := by
      have := List.countP_le_length (p := lv nodes spans nodes.length) (l := List.range nodes.length)
      rw [List.length_range] at *
      omega
    have hi2 := List.countP_eq_length.mp hc i (by simpa using hi)
    rw [hi2]
    exact lv_up hi2
def hungB (nodes : List MNode) (spans : List MSpan) (i : Nat) : Bool := lv nodes spans nodes.length i
theorem hung_closed (E : EndsOk nodes spans) {s : MSpan} (hs : s ∈ drawingM spans) : hungB nodes spans s.a = hungB nodes spans s.b := by
  obtain ⟨h1, h2⟩ := lv_next (nodes := nodes) (k := nodes.length) hs
  obtain ⟨ha, hb, _⟩ := E s hs
  have sa := stable E _ ha
  have sb := stable E _ hb
  unfold hungB
  rw [Bool.eq_iff_iff]
  exact ⟨fun q => by rw [← sb]; exact h1 q, fun q => by rw [← sa]; exact h2 q⟩
/-! ### the mirror's sweeps -/
theorem hangStep_lenH (h : List Bool) (s : MSpan) : (hangStep h s).length = h.length := by
  unfold hangStep
  split
  · simp
  · rfl
theorem sweep_len : ∀ (G : List MSpan) (h : List Bool), (G.foldl hangStep h).length = h.length
  | [], _ => rfl
  | s :: G, h => by rw [List.foldl_cons, sweep_len G, hangStep_lenH]
theorem getD_set {h : List Bool} {a i : Nat} : (h.set a true).getD i false = ((decide (i = a) && decide (a < h.length)) || h.getD i false) := by
  by_cases e : i = a
  · subst e
    by_cases hl : i < h.length
    · simp [List.getD, hl]
    · simp [List.getD, hl]
  · simp [List.getD, List.getElem?_set_ne (fun q => e q.symm), e]
theorem step_get {h : List Bool} {s : MSpan} {i : Nat} (ha : s.a < h.length) (hb : s.b < h.length) : (hangStep h s).getD i false = (h.getD i false || ((h.getD s.a false || h.getD s.b false) && (decide (i = s.a) || decide (i = s.b)))) := by
  unfold hangStep
  by_cases c : (h.getD s.a false || h.getD s.b false) = true
  · rw [if_pos c, getD_set, getD_set, c, List.length_set, decide_eq_true ha, decide_eq_true hb]
    cases decide (i = s.a) <;> cases decide (i = s.b) <;> cases h.getD i false <;> rfl
  · rw [if_neg c]
    have : (h.getD s.a false || h.getD s.b false) = false := by simpa using c
    rw [this]
    simp
theorem sweep_mono : ∀ (G : List MSpan) (h : List Bool) (i : Nat), (∀ s ∈ G, s.a < h.length ∧ s.b < h.length) → h.getD i false = true → (G.foldl hangStep h).getD i false = true
  | [], _, _, _, q => q
  | s :: G, h, i, E, q => by
    rw [List.foldl_cons]
    refine sweep_mono G _ i (fun t ht => by rw [hangStep_lenH]; exact E t (List.mem_cons_of_mem _ ht)) ?_
    rw [step_get (E s (by simp)).1 (E s (by simp)).2, q, Bool.true_or]
theorem sweep_next : ∀ (G : List MSpan) (h : List Bool) (s : MSpan), (∀ s ∈ G, s.a < h.length ∧ s.b < h.length) → s ∈ G → (h.getD s.a false || h.getD s.b false) = true → (G.foldl hangStep h).getD s.a false = true ∧ (G.foldl hangStep h).getD s.b false = true
  | t :: G, h, s, E, hs, q => by
    rw [List.foldl_cons]
    have E' : ∀ s ∈ G, s.a < (hangStep h t).length ∧ s.b < (hangStep h t).length := fun u hu => by rw [hangStep_lenH]; exact E u (List.mem_cons_of_mem _ hu)
    have Et := E t (by simp)
    rcases List.mem_cons.mp hs with e | hs
    · subst e
      exact ⟨sweep_mono G _ _ E' (by rw [step_get Et.1 Et.2, q]; simp), sweep_mono G _ _ E' (by rw [step_get Et.1 Et.2, q]; simp)⟩
    · refine sweep_next G _ s E' hs ?_
      rw [step_get Et.1 Et.2, step_get Et.1 Et.2]
      rw [Bool.or_eq_true] at q
      rcases q with q | q <;> rw [q] <;> simp
theorem sweep_sound (p : Nat → Bool) : ∀ (G : List MSpan) (h : List Bool), (∀ s ∈ G, s.a < h.length ∧ s.b < h.length) → (∀ s ∈ G, p s.a = p s.b) → (∀ i, h.getD i false = true → p i = true) → ∀ i, (G.foldl hangStep h).getD i false = true → p i = true
  | [], _, _, _, q => q
  | s :: G, h, E, c, q => by
    rw [List.foldl_cons]
    have Es := E s (by simp)
    refine sweep_sound p G _ (fun t ht => by rw [hangStep_lenH]; exact E t (List.mem_cons_of_mem _ ht)) (fun t ht => c t (List.mem_cons_of_mem _ ht)) fun i hi => ?_
    rw [step_get Es.1 Es.2] at hi
    have cs := c s (by simp)
    rw [Bool.or_eq_true, Bool.and_eq_true, Bool.or_eq_true, Bool.or_eq_true, decide_eq_true_eq, decide_eq_true_eq] at hi
    rcases hi with hi | ⟨h1 | h1, e | e⟩
    · exact q i hi
    · rw [e]; exact q _ h1
    · rw [e, ← cs]; exact q _ h1
    · rw [e, cs]; exact q _ h1
    · rw [e]; exact q _ h1
def sweeps (nodes : List MNode) (spans : List MSpan) (k : Nat) : List Bool := (List.range k).foldl (fun h _ => (drawingM spans).foldl hangStep h) (nodes.map (·.fixed))
theorem sweeps_succ (k : Nat) : sweeps nodes spans (k + 1) = (drawingM spans).foldl hangStep (sweeps nodes spans k) := by
  unfold sweeps
  rw [List.range_succ, List.foldl_append]
  rfl
theorem sweeps_len : ∀ k, (sweeps nodes spans k).length = nodes.length
  | 0 => by simp [sweeps]
  | k + 1 => by rw [sweeps_succ, sweep_len, sweeps_len k]
theorem sweeps_zero (i : Nat) : (sweeps nodes spans 0).getD i false = (nodes.getD i default).fixed := by
  show (nodes.map (·.fixed)).getD i false = _
  by_cases h : i < nodes.length
  · simp [List.getD, List.getElem?_eq_getElem h]
  · have h' := Nat.le_of_not_lt h
    rw [show (nodes.map (·.fixed)).getD i false = false by simp [List.getD, List.getElem?_eq_none h'], show nodes.getD i default = default by simp [List.getD, List.getElem?_eq_none h']]
    rfl
theorem sweeps_full (E : EndsOk nodes spans) : ∀ k i, lv nodes spans k i = true → (sweeps nodes spans k).getD i false = true
  | 0, i, h => by rw [sweeps_zero]; exact h
  | k + 1, i, h => by
    have El : ∀ s ∈ drawingM spans, s.a < (sweeps nodes spans k).length ∧ s.b < (sweeps nodes spans k).length := fun s hs => by rw [sweeps_len]; exact ⟨(E s hs).1, (E s hs).2.1⟩
    rw [sweeps_succ]
    have h' : (lv nodes spans k i || (drawingM spans).any fun s => (decide (s.a = i) && lv nodes spans k s.b) || (decide (s.b = i) && lv nodes spans k s.a)) = true := h
    rw [Bool.or_eq_true] at h'
    rcases h' with h1 | h1
    · exact sweep_mono _ _ _ El (sweeps_full E k i h1)
    · obtain ⟨s, hs, q⟩ := List.any_eq_true.mp h1
      rw [Bool.or_eq_true, Bool.and_eq_true, Bool.and_eq_true, decide_eq_true_eq, decide_eq_true_eq] at q
      rcases q with ⟨rfl, q⟩ | ⟨rfl, q⟩
      · exact (sweep_next _ _ s El hs (by rw [sweeps_full E k _ q, Bool.or_true])).1
      · exact (sweep_next _ _ s El hs (by rw [sweeps_full E k _ q, Bool.true_or])).2
theorem sweeps_sound (E : EndsOk nodes spans) : ∀ k i, (sweeps nodes spans k).getD i false = true → hungB nodes spans i = true
  | 0, i, h => by
    rw [sweeps_zero] at h
    exact lv_mono (k := 0) h (Nat.zero_le _)
  | k + 1, i, h => by
    rw [sweeps_succ] at h
    exact sweep_sound _ (drawingM spans) (sweeps nodes spans k) (fun s hs => by rw [sweeps_len]; exact ⟨(E s hs).1, (E s hs).2.1⟩) (fun s hs => hung_closed E hs) (sweeps_sound E k) i h
/-- what the mirror tells to hang -/
theorem hang_is (E : EndsOk nodes spans) (i : Nat) : (hangM nodes spans).getD i false = hungB nodes spans i := by
  have e : hangM nodes spans = sweeps nodes spans nodes.length := rfl
  rw [e, Bool.eq_iff_iff]
  exact ⟨sweeps_sound E _ i, sweeps_full E _ i⟩
/-! ### the specification's -/
theorem other_is (s : MSpan) (i : Nat) : (toSpan s).other i = if s.a = i then some s.b else if s.b = i then some s.a else none := rfl
theorem contains_filter {n : Nat} {p : Nat → Bool} {i : Nat} : ((List.range n).filter p).contains i = (decide (i < n) && p i) := by
  rw [Bool.eq_iff_iff, List.contains_iff_mem, List.mem_filter, List.mem_range, Bool.and_eq_true, decide_eq_true_eq]
theorem hung_step (E : EndsOk nodes spans) (k : Nat) : (absN nodes spans).further ((List.range nodes.length).filter (lv nodes spans k)) = (List.range nodes.length).filter (lv nodes spans (k + 1)) := by
  unfold Net.further
  have hn : (absN nodes spans).nodes.length = nodes.length := by simp [absN]
  rw [hn]
  refine List.filter_congr fun i hi => ?_
  rw [List.mem_range] at hi
  rw [contains_filter, decide_eq_true hi, Bool.true_and, drawing_is]
  show _ = (lv nodes spans k i || (drawingM spans).any _)
  congr 1
  rw [List.any_map, Bool.eq_iff_iff, List.any_eq_true, List.any_eq_true]
  have key : ∀ s ∈ drawingM spans, (((fun (s : Span) => (s.other i).any fun (j : Nat) => ((List.range nodes.length).filter (lv nodes spans k)).contains j) ∘ toSpan) s) = ((decide (s.a = i) && lv nodes spans k s.b) || (decide (s.b = i) && lv nodes spans k s.a)) := fun s hs => by
    obtain ⟨ha, hb, hne⟩ := E s hs
    show ((toSpan s).other i).any _ = _
    rw [other_is]
    by_cases h1 : s.a = i
    · have h2 : ¬ s.b = i := fun q => hne (h1.trans q.symm)
      rw [if_pos h1, Option.any_some, contains_filter, decide_eq_true hb, decide_eq_true h1, decide_eq_false h2]
      simp
    · rw [if_neg h1]
      by_cases h2 : s.b = i
      · rw [if_pos h2, Option.any_some, contains_filter, decide_eq_true ha, decide_eq_true h2, decide_eq_false h1]
        simp
      · rw [if_neg h2, decide_eq_false h1, decide_eq_false h2]
        rfl
  exact ⟨fun ⟨s, hs, q⟩ => ⟨s, hs, by rw [key s hs] at q; exact q⟩, fun ⟨s, hs, q⟩ => ⟨s, hs, by rw [key s hs]; exact q⟩⟩
theorem hung_list (E : EndsOk nodes spans) : (absN nodes spans).hung = (List.range nodes.length).filter (hungB nodes spans) := by
  unfold Net.hung
  have hn : (absN nodes spans).nodes.length = nodes.length := by simp [absN]
  rw [hn]
  have h0 : (List.range nodes.length).filter (absN nodes spans).fixedAt = (List.range nodes.length).filter (lv nodes spans 0) := List.filter_congr fun i hi => by
    rw [List.mem_range] at hi
    exact fixedAt_is nodes spans hi
  rw [h0]
  have : ∀ k, (List.range k).foldl (fun (l : List Nat) (_ : Nat) => (absN nodes spans).further l) ((List.range nodes.length).filter (lv nodes spans 0)) = (List.range nodes.length).filter (lv nodes spans k) := by
    intro k
    induction k with
    | zero => rfl
    | succ k ih =>
      rw [List.range_succ, List.foldl_append, ih]
      exact hung_step E k
  exact this _
/-- the free nodes that hang -/
theorem loose_is (E : EndsOk nodes spans) : (absN nodes spans).loose = knotsM nodes (hangM nodes spans) := by
  unfold Net.loose knotsM
  rw [hung_list E, List.filter_filter]
  refine List.filter_congr fun i hi => ?_
  rw [List.mem_range] at hi
  rw [hang_is E, freeAt_is nodes spans hi, Bool.and_comm]
end
end Wp

namespace Wp
open OwPull
/-! ### sums over the spans -/
def sumZ (l : List MSpan) (f : MSpan → Int) : Int := l.foldr (fun s t => f s + t) 0
def sumR (l : List MSpan) (f : MSpan → Rat) : Rat := l.foldr (fun s t => f s + t) 0
theorem sumZ_cons (s : MSpan) (l : List MSpan) (f : MSpan → Int) : sumZ (s :: l) f = f s + sumZ l f := rfl
theorem sumR_cons (s : MSpan) (l : List MSpan) (f : MSpan → Rat) : sumR (s :: l) f = f s + sumR l f := rfl
theorem sumR_nil (f : MSpan → Rat) : sumR [] f = 0 := rfl
theorem sumZ_cast (f : MSpan → Int) : ∀ l : List MSpan, ((sumZ l f : Int) : Rat) = sumR l fun s => (f s : Rat)
  | [] => rfl
  | s :: l => by
    rw [sumZ_cons, sumR_cons, ← sumZ_cast f l]
    push_cast
    rfl
theorem sumR_congr {f g : MSpan → Rat} : ∀ {l : List MSpan}, (∀ s ∈ l, f s = g s) → sumR l f = sumR l g
  | [], _ => rfl
  | s :: l, h => by rw [sumR_cons, sumR_cons, h s (by simp), sumR_congr fun t ht => h t (List.mem_cons_of_mem _ ht)]
theorem sumR_mul (c : Rat) (f : MSpan → Rat) : ∀ l : List MSpan, sumR l (fun s => c * f s) = c * sumR l f
  | [] => by rw [sumR_nil, sumR_nil, Rat.mul_zero]
  | s :: l => by
    rw [sumR_cons, sumR_cons, sumR_mul c f l]
    grind
theorem sumR_sub (f g : MSpan → Rat) : ∀ l : List MSpan, sumR l (fun s => f s - g s) = sumR l f - sumR l g
  | [] => by rw [sumR_nil, sumR_nil, sumR_nil]; grind
  | s :: l => by
    rw [sumR_cons, sumR_cons, sumR_cons, sumR_sub f g l]
    grind
theorem sumR_nonneg {f : MSpan → Rat} : ∀ {l : List MSpan}, (∀ s ∈ l, 0 ≤ f s) → 0 ≤ sumR l f
  | [], _ => Rat.le_refl
  | s :: l, h => by
    rw [sumR_cons]
    have h1 := h s (by simp)
    have h2 := sumR_nonneg fun t ht => h t (List.mem_cons_of_mem _ ht)
    grind
theorem sumR_ge {f g : MSpan → Rat} : ∀ {l : List MSpan}, (∀ s ∈ l, g s ≤ f s) → sumR l g ≤ sumR l f
  | [], _ => Rat.le_refl
  | s :: l, h => by
    rw [sumR_cons, sumR_cons]
    have h1 := h s (by simp)
    have h2 := sumR_ge fun t ht => h t (List.mem_cons_of_mem _ ht)
    grind
theorem sumR_more {f g : MSpan → Rat} {c : Rat} {s0 : MSpan} : ∀ {l : List MSpan}, (∀ s ∈ l, g s ≤ f s) → s0 ∈ l → g s0 + c ≤ f s0 → sumR l g + c ≤ sumR l f
  | s :: l, h, hs, h0 => by
    rw [sumR_cons, sumR_cons]
    rcases List.mem_cons.mp hs with e | hs
    · subst e
      have h2 := sumR_ge fun t ht => h t (List.mem_cons_of_mem _ ht)
      grind
    · have h1 := h s (by simp)
      have h2 := sumR_more (fun t ht => h t (List.mem_cons_of_mem _ ht)) hs h0
      grind
theorem sumZ_abs {f : MSpan → Int} {b : Nat} : ∀ {l : List MSpan}, (∀ s ∈ l, (f s).natAbs ≤ b) → (sumZ l f).natAbs ≤ l.length * b
  | [], _ => by simp [sumZ]
  | s :: l, h => by
    rw [sumZ_cons, List.length_cons, Nat.add_mul, Nat.one_mul]
    have h1 := h s (by simp)
    have h2 := sumZ_abs fun t ht => h t (List.mem_cons_of_mem _ ht)
    omega
theorem swap_sum (n : Nat) (v : Nat → Rat) (g : Nat → MSpan → Rat) : ∀ l : List MSpan, sumL (List.range n) (fun j => sumR l (g j) * v j) = sumR l fun s => sumL (List.range n) fun j => g j s * v j
  | [] => by
    rw [sumR_nil]
    rw [sumL_congr (g := fun _ => 0) fun j _ => by rw [sumR_nil, Rat.zero_mul], sumL_zero]
  | s :: l => by
    rw [sumR_cons, ← swap_sum n v g l]
    rw [sumL_congr (g := fun j => 1 * (g j s * v j) + 1 * (sumR l (g j) * v j)) fun j _ => by rw [sumR_cons]; grind, sumL_lin]
    grind
/-! ### the entries -/
theorem addAt_lenE (row : List Int) (a : Nat) (d : Int) : (addAt row a d).length = row.length := by simp [addAt]
theorem addAt_get {row : List Int} {a j : Nat} {d : Int} (hj : j < row.length) : (addAt row a d).getD j 0 = row.getD j 0 + if j = a then d else 0 := by
  unfold addAt
  by_cases e : j = a
  · subst e
    simp [List.getD, hj]
  · simp [List.getD, List.getElem?_set_ne (fun q => e q.symm), e]
def cE (nodes : List MNode) (knots : List Nat) (own other : Nat) (d : Int) (j : Nat) : Int :=
  (if j = knots.idxOf own then d else 0) + if (nodes.getD other default).fixed = true then (if j = knots.length + 0 then d * (nodes.getD other default).x else 0) + (if j = knots.length + 1 then d * (nodes.getD other default).y else 0) + (if j = knots.length + 2 then d * (nodes.getD other default).z else 0)
    else if j = knots.idxOf other then -d else 0
theorem addDraw_get {nodes : List MNode} {knots : List Nat} {own other j : Nat} {d : Int} {row : List Int} (hj : j < row.length) : (addDrawM nodes knots own other d row).getD j 0 = row.getD j 0 + cE nodes knots own other d j := by
  unfold addDrawM cE
  dsimp only
  split
  · rw [addAt_get (by rw [addAt_lenE, addAt_lenE, addAt_lenE]; exact hj), addAt_get (by rw [addAt_lenE, addAt_lenE]; exact hj), addAt_get (by rw [addAt_lenE]; exact hj), addAt_get hj]
    omega
  · rw [addAt_get (by rw [addAt_lenE]; exact hj), addAt_get hj]
    omega
theorem addDraw_len' (nodes : List MNode) (knots : List Nat) (own other : Nat) (d : Int) (row : List Int) : (addDrawM nodes knots own other d row).length = row.length := by
  unfold addDrawM
  dsimp only
  split <;> simp [addAt_lenE]
structure Shape (rows : List (List Int)) (n m : Nat) : Prop where
  n : rows.length = n
  m : ∀ r ∈ rows, r.length = m
theorem rowAt_shape {rows : List (List Int)} {n m i : Nat} {f : List Int → List Int} (h : Shape rows n m) (hf : ∀ r, (f r).length = r.length) (hi : i < n) : Shape (rowAt rows i f) n m := by
  refine ⟨by unfold rowAt; rw [List.length_set, h.n], fun r hr => ?_⟩
  unfold rowAt at hr
  rcases List.mem_or_eq_of_mem_set hr with q | rfl
  · exact h.m r q
  · rw [hf]
    exact h.m _ (getD_mem (by rw [h.n]; exact hi))
theorem eqEnd_shape {nodes : List MNode} {knots : List Nat} {own other : Nat} {d : Int} {rows : List (List Int)} {m : Nat} (h : Shape rows knots.length m) : Shape (eqEnd nodes knots own other d rows) knots.length m := by
  unfold eqEnd
  split
  · rename_i hm
    exact rowAt_shape h (addDraw_len' _ _ _ _ _) (List.idxOf_lt_length_of_mem hm)
  · exact h
theorem eqEnd_ent {nodes : List MNode} {knots : List Nat} (nd : knots.Nodup) {own other : Nat} {d : Int} {rows : List (List Int)} {m i j : Nat} (h : Shape rows knots.length m) (hi : i < knots.length) (hj : j < m) :
    ent (eqEnd nodes knots own other d rows) i j = ent rows i j + if knots.getD i 0 = own then cE nodes knots own other d j else 0 := by
  have hki : knots.getD i 0 = knots[i] := by simp [List.getD, List.getElem?_eq_getElem hi]
  rw [hki]
  unfold eqEnd
  by_cases hm : own ∈ knots
  · rw [if_pos hm]
    have hlt := List.idxOf_lt_length_of_mem hm
    unfold ent rowAt
    by_cases e : i = knots.idxOf own
    · have e2 : knots[i] = own := by
        subst e
        exact List.getElem_idxOf hlt
      rw [if_pos e2, ← e]
      have : (rows.set i (addDrawM nodes knots own other d (rows.getD i []))).getD i [] = addDrawM nodes knots own other d (rows.getD i []) := by
        simp [List.getD, h.n, hi]
      rw [this, addDraw_get (by rw [h.m _ (getD_mem (by rw [h.n]; exact hi))]; exact hj)]
    · have e2 : ¬ knots[i] = own := fun q => e (by rw [← q]; exact (nd.idxOf_getElem i hi).symm)
      rw [if_neg e2]
      have : (rows.set (knots.idxOf own) (addDrawM nodes knots own other d (rows.getD (knots.idxOf own) []))).getD i [] = rows.getD i [] := by
        simp [List.getD, List.getElem?_set_ne (fun q => e q.symm)]
      rw [this]
      omega
  · rw [if_neg hm, if_neg (fun q => hm (by rw [← q]; exact List.getElem_mem hi))]
    omega
def oth (s : MSpan) (u : Nat) : Option Nat := if s.a = u then some s.b else if s.b = u then some s.a else none
def atS (f : Nat → Int → Int) (u : Nat) (s : MSpan) : Int := match oth s u with
  | none => 0
  | some o => f o s.d
theorem eqs_ent {nodes : List MNode} {knots : List Nat} (nd : knots.Nodup) {m i j : Nat} (hi : i < knots.length) (hj : j < m) : ∀ (spans : List MSpan), (∀ s ∈ drawingM spans, s.a ≠ s.b) → ∀ (rows : List (List Int)), Shape rows knots.length m →
    Shape (spans.foldl (eqStep nodes knots) rows) knots.length m ∧ ent (spans.foldl (eqStep nodes knots) rows) i j = ent rows i j + sumZ (drawingM spans) (atS (fun o d => cE nodes knots (knots.getD i 0) o d j) (knots.getD i 0))
  | [], _, rows, h => ⟨h, by
    show ent rows i j = ent rows i j + 0
    omega⟩
  | s :: spans, E, rows, h => by
    rw [List.foldl_cons]
    by_cases hd : drawsM s = true
    · have e0 : drawingM (s :: spans) = s :: drawingM spans := by unfold drawingM; rw [List.filter_cons, if_pos hd]
      have e1 : eqStep nodes knots rows s = eqEnd nodes knots s.b s.a s.d (eqEnd nodes knots s.a s.b s.d rows) := by unfold eqStep; rw [if_pos hd]
      rw [e0] at E ⊢
      have hne := E s (by simp)
      have h1 := eqEnd_shape (nodes := nodes) (own := s.a) (other := s.b) (d := s.d) h
      have h2 := eqEnd_shape (nodes := nodes) (own := s.b) (other := s.a) (d := s.d) h1
      obtain ⟨a1, a2⟩ := eqs_ent nd hi hj spans (fun t ht => E t (List.mem_cons_of_mem _ ht)) _ h2
      rw [e1]
      refine ⟨a1, ?_⟩
      rw [a2, eqEnd_ent nd h1 hi hj, eqEnd_ent nd h hi hj, sumZ_cons]
      have e3 : atS (fun o d => cE nodes knots (knots.getD i 0) o d j) (knots.getD i 0) s = (if knots.getD i 0 = s.a then cE nodes knots s.a s.b s.d j else 0) + (if knots.getD i 0 = s.b then cE nodes knots s.b s.a s.d j else 0) := by
        unfold atS oth
        by_cases c1 : s.a = knots.getD i 0
        · have c2 : ¬ knots.getD i 0 = s.b := fun q => hne (c1.trans q)
          rw [if_pos c1, if_pos c1.symm, if_neg c2, ← c1]
          simp
        · rw [if_neg c1, if_neg (show ¬ knots.getD i 0 = s.a from fun q => c1 q.symm)]
          by_cases c2 : s.b = knots.getD i 0
          · rw [if_pos c2, if_pos c2.symm, ← c2]
            simp
          · rw [if_neg c2, if_neg (show ¬ knots.getD i 0 = s.b from fun q => c2 q.symm)]
            rfl
      rw [e3]
      omega
    · have e0 : drawingM (s :: spans) = drawingM spans := by unfold drawingM; rw [List.filter_cons, if_neg hd]
      have e1 : eqStep nodes knots rows s = rows := by unfold eqStep; rw [if_neg hd]
      rw [e0] at E ⊢
      rw [e1]
      exact eqs_ent nd hi hj spans E rows h
theorem rows0_shape (nodes : List MNode) (knots : List Nat) : Shape (rows0M nodes knots) knots.length (knots.length + 3) := by
  refine ⟨by simp [rows0M], fun r hr => ?_⟩
  obtain ⟨k, _, rfl⟩ := List.mem_map.mp hr
  simp [MNode.vec]
end Wp

namespace Wp
open OwPull
/-! ### the specification's rows are the mirror's -/
def atR (f : Nat → Rat → Rat) (u : Nat) (s : MSpan) : Rat := match oth s u with
  | none => 0
  | some o => f o (s.d : Rat)
theorem oth_is (s : MSpan) (u : Nat) : (toSpan s).other u = oth s u := rfl
theorem fold_fm {g : Nat × Rat → Rat} {u : Nat} : ∀ G : List MSpan, (((G.map toSpan).filterMap fun (s : Span) => (s.other u).map fun (j : Nat) => (j, s.density)).foldr (fun (x : Nat × Rat) (s : Rat) => g x + s) 0) = sumR G (atR (fun o d => g (o, d)) u)
  | [] => rfl
  | s :: G => by
    rw [List.map_cons, List.filterMap_cons, oth_is, sumR_cons, ← fold_fm G]
    unfold atR
    cases oth s u with
    | none =>
      show _ = 0 + _
      rw [Rat.zero_add]
      rfl
    | some o => rfl
theorem fold_filter {w : Nat} : ∀ l : List (Nat × Rat), ((l.filter fun (x : Nat × Rat) => x.1 == w).foldr (fun (x : Nat × Rat) (s : Rat) => x.2 + s) 0) = l.foldr (fun (x : Nat × Rat) (s : Rat) => (if x.1 = w then x.2 else 0) + s) 0
  | [] => rfl
  | x :: l => by
    rw [List.filter_cons, List.foldr_cons, ← fold_filter l]
    by_cases h : x.1 = w
    · rw [if_pos (by simpa using h), if_pos h, List.foldr_cons]
    · rw [if_neg (by simpa using h), if_neg h, Rat.zero_add]
theorem sumVec_x : ∀ l : List Vec, (sumVec l).x = l.foldr (fun (u : Vec) (s : Rat) => u.x + s) 0
  | [] => rfl
  | u :: l => by
    show u.x + (sumVec l).x = _
    rw [sumVec_x l]
    rfl
theorem sumVec_y : ∀ l : List Vec, (sumVec l).y = l.foldr (fun (u : Vec) (s : Rat) => u.y + s) 0
  | [] => rfl
  | u :: l => by
    show u.y + (sumVec l).y = _
    rw [sumVec_y l]
    rfl
theorem sumVec_z : ∀ l : List Vec, (sumVec l).z = l.foldr (fun (u : Vec) (s : Rat) => u.z + s) 0
  | [] => rfl
  | u :: l => by
    show u.z + (sumVec l).z = _
    rw [sumVec_z l]
    rfl
section
variable {nodes : List MNode} {spans : List MSpan}
theorem at_fixed {i : Nat} (hi : i < nodes.length) (hf : (nodes.getD i default).fixed = true) : (absN nodes spans).nodes[i]? = some (.fixed ⟨((nodes.getD i default).x : Rat), ((nodes.getD i default).y : Rat), ((nodes.getD i default).z : Rat)⟩ (nodes.getD i default).bound.toNat) := by
  rw [node_get, List.getElem?_eq_getElem hi]
  simp only [List.getD, List.getElem?_eq_getElem hi, Option.getD_some] at hf ⊢
  simp only [Option.map_some]
  unfold absNode
  rw [if_pos hf]
theorem at_free {i : Nat} (hi : i < nodes.length) (hf : (nodes.getD i default).fixed = false) : (absN nodes spans).nodes[i]? = some (.free ⟨((nodes.getD i default).x : Rat), ((nodes.getD i default).y : Rat), ((nodes.getD i default).z : Rat)⟩) := by
  rw [node_get, List.getElem?_eq_getElem hi]
  simp only [List.getD, List.getElem?_eq_getElem hi, Option.getD_some] at hf ⊢
  simp only [Option.map_some]
  unfold absNode
  rw [if_neg (by rw [hf]; decide)]
theorem placeFixed_is {i : Nat} (hi : i < nodes.length) (hf : (nodes.getD i default).fixed = true) : (absN nodes spans).placeFixed i = ⟨((nodes.getD i default).x : Rat), ((nodes.getD i default).y : Rat), ((nodes.getD i default).z : Rat)⟩ := by
  unfold Net.placeFixed
  rw [at_fixed hi hf]
theorem load_is {i : Nat} (hi : i < nodes.length) (hf : (nodes.getD i default).fixed = false) : (absN nodes spans).load i = ⟨((nodes.getD i default).x : Rat), ((nodes.getD i default).y : Rat), ((nodes.getD i default).z : Rat)⟩ := by
  unfold Net.load
  rw [at_free hi hf]
/-- what the hanging's mathematics tells of the knots -/
structure KnotsR (nodes : List MNode) (spans : List MSpan) (knots : List Nat) : Prop where
  nd : knots.Nodup
  lt : ∀ k ∈ knots, k < nodes.length
  free : ∀ k ∈ knots, (nodes.getD k default).fixed = false
  ends : EndsOk nodes spans
  to : ∀ s ∈ drawingM spans, ∀ u ∈ knots, ∀ o, oth s u = some o → o < nodes.length ∧ o ≠ u ∧ ((nodes.getD o default).fixed = true ∨ o ∈ knots)
theorem knots_r (E : EndsOk nodes spans) : KnotsR nodes spans (knotsM nodes (hangM nodes spans)) := by
  have mem : ∀ i, i ∈ knotsM nodes (hangM nodes spans) ↔ i < nodes.length ∧ hungB nodes spans i = true ∧ (nodes.getD i default).fixed = false := fun i => by
    unfold knotsM
    rw [List.mem_filter, List.mem_range, hang_is E, Bool.and_eq_true]
    simp
  refine ⟨List.nodup_range.filter _, fun k hk => ((mem k).mp hk).1, fun k hk => ((mem k).mp hk).2.2, E, fun s hs u hu o ho => ?_⟩
  obtain ⟨u1, u2, u3⟩ := (mem u).mp hu
  obtain ⟨ea, eb, ne⟩ := E s hs
  have hc := hung_closed E hs
  have key : o < nodes.length ∧ o ≠ u ∧ hungB nodes spans o = true := by
    unfold oth at ho
    by_cases c1 : s.a = u
    · rw [if_pos c1] at ho
      cases ho
      refine ⟨eb, fun q => ne (c1.trans q.symm), ?_⟩
      rw [← hc, c1]
      exact u2
    · rw [if_neg c1] at ho
      by_cases c2 : s.b = u
      · rw [if_pos c2] at ho
        cases ho
        refine ⟨ea, c1, ?_⟩
        rw [hc, c2]
        exact u2
      · rw [if_neg c2] at ho
        cases ho
  refine ⟨key.1, key.2.1, ?_⟩
  cases hf : (nodes.getD o default).fixed with
  | true => exact Or.inl rfl
  | false => exact Or.inr ((mem o).mpr ⟨key.1, key.2.2, hf⟩)
variable {knots : List Nat}
theorem rows0_ent {i j : Nat} (hi : i < knots.length) : ent (rows0M nodes knots) i j = if j < knots.length then 0 else ((nodes.getD (knots.getD i 0) default).vec.map fun p => 1000 * p).getD (j - knots.length) 0 := by
  unfold ent rows0M
  have e : (knots.map fun k => List.replicate knots.length (0 : Int) ++ (nodes.getD k default).vec.map fun p => 1000 * p).getD i [] = List.replicate knots.length 0 ++ (nodes.getD (knots.getD i 0) default).vec.map fun p => 1000 * p := by
    simp [List.getD, List.getElem?_eq_getElem hi]
  rw [e]
  simp only [List.getD]
  by_cases hj : j < knots.length
  · rw [if_pos hj, List.getElem?_append_left (by simpa using hj)]
    simp [hj]
  · rw [if_neg hj, List.getElem?_append_right (by simpa using Nat.le_of_not_lt hj)]
    simp
/-- the factor between two knots -/
theorem cE_low (R : KnotsR nodes spans knots) {u o i j : Nat} {d : Int} (hi : i < knots.length) (hu : knots.getD i 0 = u) (hj : j < knots.length) (ho : (nodes.getD o default).fixed = true ∨ o ∈ knots) : cE nodes knots u o d j = (if knots.getD j 0 = u then d else 0) - if knots.getD j 0 = o then d else 0 := by
  have hkj : knots.getD j 0 = knots[j] := by simp [List.getD, List.getElem?_eq_getElem hj]
  have hki : knots.getD i 0 = knots[i] := by simp [List.getD, List.getElem?_eq_getElem hi]
  have hum : u ∈ knots := by rw [← hu, hki]; exact List.getElem_mem hi
  have idx : ∀ x ∈ knots, (j = knots.idxOf x ↔ knots.getD j 0 = x) := fun x hx => by
    rw [hkj]
    constructor
    · intro e
      subst e
      exact List.getElem_idxOf hj
    · intro e
      rw [← e]
      exact (R.nd.idxOf_getElem j hj).symm
  unfold cE
  rw [if_neg (show ¬ j = knots.length + 0 by omega), if_neg (show ¬ j = knots.length + 1 by omega), if_neg (show ¬ j = knots.length + 2 by omega)]
  have e1 : (if j = knots.idxOf u then d else 0) = if knots.getD j 0 = u then d else 0 := by
    by_cases c : j = knots.idxOf u
    · rw [if_pos c, if_pos ((idx u hum).mp c)]
    · rw [if_neg c, if_neg (fun q => c ((idx u hum).mpr q))]
  rw [e1]
  by_cases hf : (nodes.getD o default).fixed = true
  · rw [if_pos hf]
    have : ¬ knots.getD j 0 = o := fun q => by
      have h1 := R.free (knots.getD j 0) (by rw [hkj]; exact List.getElem_mem hj)
      rw [q, hf] at h1
      cases h1
    rw [if_neg this]
    omega
  · rw [if_neg hf]
    have hok : o ∈ knots := ho.elim (fun q => absurd q hf) id
    by_cases c : j = knots.idxOf o
    · rw [if_pos c, if_pos ((idx o hok).mp c)]
      omega
    · rw [if_neg c, if_neg (fun q => c ((idx o hok).mpr q))]
      omega
theorem cE_high (R : KnotsR nodes spans knots) {u o j k : Nat} {d : Int} (hu : u ∈ knots) (ho : (nodes.getD o default).fixed = true ∨ o ∈ knots) (hj : j = knots.length + k) (hk : k < 3) : cE nodes knots u o d j = if (nodes.getD o default).fixed = true then d * (nodes.getD o default).vec.getD k 0 else 0 := by
  have h1 := List.idxOf_lt_length_of_mem hu
  unfold cE
  rw [if_neg (show ¬ j = knots.idxOf u by omega)]
  by_cases hf : (nodes.getD o default).fixed = true
  · rw [if_pos hf, if_pos hf]
    match k, hk with
    | 0, _ => rw [if_pos (by omega), if_neg (by omega), if_neg (by omega)]; show _ = d * (nodes.getD o default).x; omega
    | 1, _ => rw [if_neg (by omega), if_pos (by omega), if_neg (by omega)]; show _ = d * (nodes.getD o default).y; omega
    | 2, _ => rw [if_neg (by omega), if_neg (by omega), if_pos (by omega)]; show _ = d * (nodes.getD o default).z; omega
  · rw [if_neg hf, if_neg hf]
    have hok : o ∈ knots := ho.elim (fun q => absurd q hf) id
    have h2 := List.idxOf_lt_length_of_mem hok
    rw [if_neg (by omega)]
    rfl
theorem ite_sub (p q : Prop) [Decidable p] [Decidable q] (d : Int) : (((if p then d else 0) - if q then d else 0 : Int) : Rat) = (if p then (d : Rat) else 0) - if q then (d : Rat) else 0 := by
  by_cases hp : p <;> by_cases hq : q
  · rw [if_pos hp, if_pos hq, if_pos hp, if_pos hq]; push_cast; rfl
  · rw [if_pos hp, if_neg hq, if_pos hp, if_neg hq]; push_cast; rfl
  · rw [if_neg hp, if_pos hq, if_neg hp, if_pos hq]; push_cast; rfl
  · rw [if_neg hp, if_neg hq, if_neg hp, if_neg hq]; push_cast; grind
/-- the mirror's rows, entry by entry -/
theorem eqs_low (R : KnotsR nodes spans knots) {i j : Nat} (hi : i < knots.length) (hj : j < knots.length) : (ent (eqsM nodes spans knots) i j : Rat) = sumR (drawingM spans) (atR (fun o d => (if knots.getD j 0 = knots.getD i 0 then d else 0) - if knots.getD j 0 = o then d else 0) (knots.getD i 0)) := by
  have hki : knots.getD i 0 = knots[i] := by simp [List.getD, List.getElem?_eq_getElem hi]
  have hum : knots.getD i 0 ∈ knots := by rw [hki]; exact List.getElem_mem hi
  unfold eqsM
  rw [(eqs_ent R.nd hi (show j < knots.length + 3 by omega) spans (fun s hs => (R.ends s hs).2.2) _ (rows0_shape nodes knots)).2, rows0_ent hi, if_pos hj, Int.zero_add, sumZ_cast]
  refine sumR_congr fun s hs => ?_
  unfold atS atR
  cases ho : oth s (knots.getD i 0) with
  | none => rfl
  | some o =>
    obtain ⟨h1, h2, h3⟩ := R.to s hs _ hum o ho
    show ((cE nodes knots (knots.getD i 0) o s.d j : Int) : Rat) = _
    rw [cE_low R hi rfl hj h3]
    exact ite_sub _ _ _
theorem eqs_high (R : KnotsR nodes spans knots) {i k : Nat} (hi : i < knots.length) (hk : k < 3) : (ent (eqsM nodes spans knots) i (knots.length + k) : Rat) = 1000 * ((nodes.getD (knots.getD i 0) default).vec.getD k 0 : Rat) + sumR (drawingM spans) (atR (fun o d => if (nodes.getD o default).fixed = true then d * ((nodes.getD o default).vec.getD k 0 : Rat) else 0) (knots.getD i 0)) := by
  have hki : knots.getD i 0 = knots[i] := by simp [List.getD, List.getElem?_eq_getElem hi]
  have hum : knots.getD i 0 ∈ knots := by rw [hki]; exact List.getElem_mem hi
  unfold eqsM
  rw [(eqs_ent R.nd hi (show knots.length + k < knots.length + 3 by omega) spans (fun s hs => (R.ends s hs).2.2) _ (rows0_shape nodes knots)).2, rows0_ent hi, if_neg (by omega)]
  push_cast
  rw [sumZ_cast]
  congr 1
  · rw [show knots.length + k - knots.length = k by omega]
    have : ((nodes.getD (knots.getD i 0) default).vec.map fun p => 1000 * p).getD k 0 = 1000 * (nodes.getD (knots.getD i 0) default).vec.getD k 0 := by
      match k, hk with
      | 0, _ => rfl
      | 1, _ => rfl
      | 2, _ => rfl
    rw [this]
    push_cast
    rfl
  · refine sumR_congr fun s hs => ?_
    unfold atS atR
    cases ho : oth s (knots.getD i 0) with
    | none => rfl
    | some o =>
      obtain ⟨h1, h2, h3⟩ := R.to s hs _ hum o ho
      show ((cE nodes knots (knots.getD i 0) o s.d (knots.length + k) : Int) : Rat) = if (nodes.getD o default).fixed = true then (s.d : Rat) * ((nodes.getD o default).vec.getD k 0 : Rat) else 0
      rw [cE_high R hum h3 rfl hk]
      by_cases hf : (nodes.getD o default).fixed = true
      · rw [if_pos hf, if_pos hf]
        push_cast
        rfl
      · rw [if_neg hf, if_neg hf]
        rfl

/-! ### the specification's row -/
theorem getD_map_app {f : Nat → Rat} {l : List Nat} {m : List Rat} {j : Nat} (hj : j < l.length) : (l.map f ++ m).getD j 0 = f (l.getD j 0) := by
  have h1 : (l.map f ++ m).getD j 0 = f l[j] := by
    simp only [List.getD]
    rw [List.getElem?_append_left (by simpa using hj), List.getElem?_map, List.getElem?_eq_getElem hj]
    rfl
  rw [h1, show l.getD j 0 = l[j] by simp [List.getD, List.getElem?_eq_getElem hj]]
theorem rowOf_low (R : KnotsR nodes spans knots) {i j : Nat} (hi : i < knots.length) (hj : j < knots.length) : ((absN nodes spans).rowOf knots (knots.getD i 0)).getD j 0 = sumR (drawingM spans) (atR (fun o d => (if knots.getD j 0 = knots.getD i 0 then d else 0) - if knots.getD j 0 = o then d else 0) (knots.getD i 0)) := by
  generalize hu : knots.getD i 0 = u
  unfold Net.rowOf
  dsimp only
  rw [getD_map_app hj]
  generalize knots.getD j 0 = w
  rw [drawing_is, fold_fm, fold_filter, fold_fm (g := fun x => if x.1 = w then x.2 else 0)]
  by_cases c : w = u
  · rw [if_pos c, ← sumR_sub]
    refine sumR_congr fun s hs => ?_
    unfold atR
    cases oth s u with
    | none => grind
    | some o =>
      show (s.d : Rat) - (if o = w then (s.d : Rat) else 0) = (if w = u then (s.d : Rat) else 0) - if w = o then (s.d : Rat) else 0
      rw [if_pos c]
      by_cases c2 : o = w
      · rw [if_pos c2, if_pos c2.symm]
      · rw [if_neg c2, if_neg (fun q => c2 q.symm)]
  · rw [if_neg c]
    have : ∀ f : MSpan → Rat, 0 - sumR (drawingM spans) f = sumR (drawingM spans) fun s => (-1) * f s := fun f => by rw [sumR_mul]; grind
    rw [this]
    refine sumR_congr fun s hs => ?_
    unfold atR
    cases oth s u with
    | none => grind
    | some o =>
      show (-1) * (if o = w then (s.d : Rat) else 0) = (if w = u then (s.d : Rat) else 0) - if w = o then (s.d : Rat) else 0
      rw [if_neg c]
      by_cases c2 : o = w
      · rw [if_pos c2, if_pos c2.symm]; grind
      · rw [if_neg c2, if_neg (fun q => c2 q.symm)]; grind
theorem rowOf_high (R : KnotsR nodes spans knots) {i k : Nat} (hi : i < knots.length) (hk : k < 3) : ((absN nodes spans).rowOf knots (knots.getD i 0)).getD (knots.length + k) 0 = 1000 * ((nodes.getD (knots.getD i 0) default).vec.getD k 0 : Rat) + sumR (drawingM spans) (atR (fun o d => if (nodes.getD o default).fixed = true then d * ((nodes.getD o default).vec.getD k 0 : Rat) else 0) (knots.getD i 0)) := by
  have hki : knots.getD i 0 = knots[i] := by simp [List.getD, List.getElem?_eq_getElem hi]
  have hum : knots.getD i 0 ∈ knots := by rw [hki]; exact List.getElem_mem hi
  generalize hu : knots.getD i 0 = u at hum
  have hul := R.lt u hum
  have huf := R.free u hum
  unfold Net.rowOf
  dsimp only
  simp only [List.getD]
  rw [List.getElem?_append_right (by simp), List.length_map, Nat.add_sub_cancel_left, drawing_is, load_is hul huf]
  have fixd : ∀ s ∈ drawingM spans, ∀ o, oth s u = some o → (absN nodes spans).fixedAt o = (nodes.getD o default).fixed ∧ ((nodes.getD o default).fixed = true → (absN nodes spans).placeFixed o = ⟨((nodes.getD o default).x : Rat), ((nodes.getD o default).y : Rat), ((nodes.getD o default).z : Rat)⟩) := fun s hs o ho => by
    obtain ⟨h1, h2, h3⟩ := R.to s hs u hum o ho
    exact ⟨fixedAt_is nodes spans h1, fun hf => placeFixed_is h1 hf⟩
  match k, hk with
  | 0, _ =>
    simp only [List.getElem?_cons_zero, Option.getD_some]
    rw [sumVec_x, List.foldr_cons, List.foldr_map, fold_fm (g := fun x => (if (absN nodes spans).fixedAt x.1 = true then times x.2 ((absN nodes spans).placeFixed x.1) else zero).x)]
    congr 1
    refine sumR_congr fun s hs => ?_
    unfold atR
    cases ho : oth s u with
    | none => rfl
    | some o =>
      obtain ⟨f1, f2⟩ := fixd s hs o ho
      show (if (absN nodes spans).fixedAt o = true then times (s.d : Rat) ((absN nodes spans).placeFixed o) else zero).x = if (nodes.getD o default).fixed = true then (s.d : Rat) * ((nodes.getD o default).x : Rat) else 0
      rw [f1]
      by_cases hf : (nodes.getD o default).fixed = true
      · rw [if_pos hf, if_pos hf, f2 hf]; rfl
      · rw [if_neg hf, if_neg hf]; rfl
  | 1, _ =>
    simp only [List.getElem?_cons_succ, List.getElem?_cons_zero, Option.getD_some]
    rw [sumVec_y, List.foldr_cons, List.foldr_map, fold_fm (g := fun x => (if (absN nodes spans).fixedAt x.1 = true then times x.2 ((absN nodes spans).placeFixed x.1) else zero).y)]
    congr 1
    refine sumR_congr fun s hs => ?_
    unfold atR
    cases ho : oth s u with
    | none => rfl
    | some o =>
      obtain ⟨f1, f2⟩ := fixd s hs o ho
      show (if (absN nodes spans).fixedAt o = true then times (s.d : Rat) ((absN nodes spans).placeFixed o) else zero).y = if (nodes.getD o default).fixed = true then (s.d : Rat) * ((nodes.getD o default).y : Rat) else 0
      rw [f1]
      by_cases hf : (nodes.getD o default).fixed = true
      · rw [if_pos hf, if_pos hf, f2 hf]; rfl
      · rw [if_neg hf, if_neg hf]; rfl
  | 2, _ =>
    simp only [List.getElem?_cons_succ, List.getElem?_cons_zero, Option.getD_some]
    rw [sumVec_z, List.foldr_cons, List.foldr_map, fold_fm (g := fun x => (if (absN nodes spans).fixedAt x.1 = true then times x.2 ((absN nodes spans).placeFixed x.1) else zero).z)]
    congr 1
    refine sumR_congr fun s hs => ?_
    unfold atR
    cases ho : oth s u with
    | none => rfl
    | some o =>
      obtain ⟨f1, f2⟩ := fixd s hs o ho
      show (if (absN nodes spans).fixedAt o = true then times (s.d : Rat) ((absN nodes spans).placeFixed o) else zero).z = if (nodes.getD o default).fixed = true then (s.d : Rat) * ((nodes.getD o default).z : Rat) else 0
      rw [f1]
      by_cases hf : (nodes.getD o default).fixed = true
      · rw [if_pos hf, if_pos hf, f2 hf]; rfl
      · rw [if_neg hf, if_neg hf]; rfl
theorem rowOf_len (l : List Nat) (N : Net) (i : Nat) : (N.rowOf l i).length = l.length + 3 := by
  unfold Net.rowOf
  simp
/-- both matrices -/
theorem mat_is (R : KnotsR nodes spans knots) {i j : Nat} (hi : i < knots.length) (hj : j < knots.length + 3) : rmat (knots.map ((absN nodes spans).rowOf knots)) i j = matOf (eqsM nodes spans knots) i j := by
  have e : (knots.map ((absN nodes spans).rowOf knots)).getD i [] = (absN nodes spans).rowOf knots (knots.getD i 0) := by
    simp [List.getD, List.getElem?_eq_getElem hi]
  unfold rmat matOf
  rw [e]
  by_cases h : j < knots.length
  · rw [rowOf_low R hi h, eqs_low R hi h]
  · obtain ⟨k, rfl⟩ : ∃ k, j = knots.length + k := ⟨j - knots.length, by omega⟩
    rw [rowOf_high R hi (by omega), eqs_high R hi (by omega)]
end
end Wp

namespace Wp
open OwPull
/-! ### the equations are strictly dominated -/
def powR (x : Rat) : Nat → Rat
  | 0 => 1
  | k + 1 => x * powR x k
theorem powR_ge {x : Rat} (h : 1 ≤ x) : ∀ k, 1 ≤ powR x k
  | 0 => Rat.le_refl
  | k + 1 => by
    have ih := powR_ge h k
    show 1 ≤ x * powR x k
    have := Rat.mul_nonneg (a := x - 1) (b := powR x k) (by grind) (by grind)
    grind
theorem powR_add (x : Rat) (a : Nat) : ∀ b, powR x (a + b) = powR x a * powR x b
  | 0 => by
    show powR x a = powR x a * 1
    rw [Rat.mul_one]
  | b + 1 => by
    show x * powR x (a + b) = powR x a * (x * powR x b)
    rw [powR_add x a b]
    grind
theorem powR_mono {x : Rat} (h : 1 ≤ x) {a b : Nat} (ab : a ≤ b) : powR x a ≤ powR x b := by
  obtain ⟨c, rfl⟩ := Nat.le.dest ab
  rw [powR_add]
  have h1 := powR_ge h a
  have h2 := powR_ge h c
  have := Rat.mul_nonneg (a := powR x a) (b := powR x c - 1) (by grind) (by grind)
  grind
theorem sumR_zero : ∀ l : List MSpan, sumR l (fun _ => 0) = 0
  | [] => rfl
  | s :: l => by
    rw [sumR_cons, sumR_zero l]
    grind
section
variable {nodes : List MNode} {spans : List MSpan} {knots : List Nat}
def lev (nodes : List MNode) (spans : List MSpan) (i : Nat) : Nat := (List.range nodes.length).countP fun k => !lv nodes spans k i
theorem lev_zero {i : Nat} (h : (nodes.getD i default).fixed = true) : lev nodes spans i = 0 := by
  unfold lev
  refine List.countP_eq_zero.mpr fun k _ => ?_
  rw [lv_mono (k := 0) (show lv nodes spans 0 i = true from h) (Nat.zero_le _)]
  decide
theorem lev_le (i : Nat) : lev nodes spans i ≤ nodes.length := by
  unfold lev
  have := List.countP_le_length (p := fun k => !lv nodes spans k i) (l := List.range nodes.length)
  rw [List.length_range] at this
  exact this
theorem first_step {f : Nat → Bool} : ∀ n, f 0 = false → f n = true → ∃ k, k < n ∧ f k = false ∧ f (k + 1) = true
  | 0, h0, h1 => by rw [h0] at h1; cases h1
  | n + 1, h0, h1 => by
    cases h : f n with
    | false => exact ⟨n, by omega, h, h1⟩
    | true =>
      obtain ⟨k, a, b, c⟩ := first_step n h0 h
      exact ⟨k, by omega, b, c⟩
theorem lev_step (E : EndsOk nodes spans) {u : Nat} (hh : hungB nodes spans u = true) (hf : (nodes.getD u default).fixed = false) : ∃ s ∈ drawingM spans, ∃ o, oth s u = some o ∧ lev nodes spans o < lev nodes spans u := by
  obtain ⟨k, hk, h0, h1⟩ := first_step (f := fun k => lv nodes spans k u) nodes.length hf hh
  have h1' : (lv nodes spans k u || (drawingM spans).any fun s => (decide (s.a = u) && lv nodes spans k s.b) || (decide (s.b = u) && lv nodes spans k s.a)) = true := h1
  rw [show lv nodes spans k u = false from h0, Bool.false_or] at h1'
  obtain ⟨s, hs, q⟩ := List.any_eq_true.mp h1'
  have key : ∃ o, oth s u = some o ∧ lv nodes spans k o = true := by
    rw [Bool.or_eq_true, Bool.and_eq_true, Bool.and_eq_true, decide_eq_true_eq, decide_eq_true_eq] at q
    unfold oth
    rcases q with ⟨e, q⟩ | ⟨e, q⟩
    · exact ⟨s.b, if_pos e, q⟩
    · have : ¬ s.a = u := fun e2 => (E s hs).2.2 (e2.trans e.symm)
      exact ⟨s.a, by rw [if_neg this, if_pos e], q⟩
  obtain ⟨o, ho, hl⟩ := key
  refine ⟨s, hs, o, ho, countP_lt (fun j _ hj => ?_) ⟨k, by simpa using hk, by rw [hl]; rfl, by rw [show lv nodes spans k u = false from h0]; rfl⟩⟩
  rw [Bool.not_eq_true'] at hj ⊢
  refine Classical.byContradiction fun hn => ?_
  have hu : lv nodes spans j u = true := by simpa using hn
  have hkj : k ≤ j := by
    refine Classical.byContradiction fun hlt => ?_
    have := lv_mono hu (show j ≤ k by omega)
    rw [show lv nodes spans k u = false from h0] at this
    cases this
  rw [lv_mono hl hkj] at hj
  cases hj
def Wt (spans : List MSpan) : Rat := sumR (drawingM spans) fun s => (s.d : Rat)
def Pp (nodes : List MNode) (spans : List MSpan) (i : Nat) : Rat := powR (Wt spans + 1) (nodes.length - lev nodes spans i)
def Vv (nodes : List MNode) (spans : List MSpan) (i : Nat) : Rat := powR (Wt spans + 1) nodes.length - Pp nodes spans i
def Dens (spans : List MSpan) : Prop := ∀ s ∈ drawingM spans, 1 ≤ (s.d : Rat)
theorem Wt_nonneg (D : Dens spans) : 0 ≤ Wt spans := sumR_nonneg fun s hs => by have := D s hs; grind
theorem Wt_ge (D : Dens spans) {s : MSpan} (hs : s ∈ drawingM spans) : 1 ≤ Wt spans := by
  have := sumR_more (f := fun s => (s.d : Rat)) (g := fun _ => 0) (c := 1) (fun t ht => by have := D t ht; grind) hs (by have := D s hs; grind)
  rw [sumR_zero] at this
  unfold Wt
  grind
theorem Pp_pos (D : Dens spans) (i : Nat) : 1 ≤ Pp nodes spans i := powR_ge (by have := Wt_nonneg D; grind) _
theorem Pp_step (D : Dens spans) {o u : Nat} (h : lev nodes spans o < lev nodes spans u) : (Wt spans + 1) * Pp nodes spans u ≤ Pp nodes spans o := by
  have h1 := powR_mono (x := Wt spans + 1) (by have := Wt_nonneg D; grind) (show nodes.length - lev nodes spans u + 1 ≤ nodes.length - lev nodes spans o by have := lev_le (nodes := nodes) (spans := spans) u; omega)
  exact h1
theorem Vv_fixed {i : Nat} (h : (nodes.getD i default).fixed = true) : Vv nodes spans i = 0 := by
  unfold Vv Pp
  rw [lev_zero h, Nat.sub_zero]
  grind
theorem sum_pick (nd : knots.Nodup) (d : Rat) (V : Nat → Rat) (x : Nat) : sumL (List.range knots.length) (fun j => (if knots.getD j 0 = x then d else 0) * V (knots.getD j 0)) = if x ∈ knots then d * V x else 0 := by
  have e : (List.range knots.length).map (fun j => knots.getD j 0) = knots := by
    refine List.ext_getElem (by simp) fun i h1 h2 => ?_
    simp [List.getD, List.getElem?_eq_getElem h2]
  have e2 := sumL_map (List.range knots.length) (fun j => knots.getD j 0) (fun w => (if w = x then d else 0) * V w)
  rw [e] at e2
  rw [← e2]
  by_cases hx : x ∈ knots
  · rw [if_pos hx, sumL_erase _ hx, if_pos rfl]
    rw [sumL_congr (g := fun _ => 0) fun j hj => by rw [if_neg ((nd.mem_erase_iff).mp hj).1, Rat.zero_mul], sumL_zero]
    grind
  · rw [if_neg hx, sumL_congr (g := fun _ => 0) fun j hj => by rw [if_neg (fun q => hx (by rw [← q]; exact hj)), Rat.zero_mul], sumL_zero]
theorem eqs_dom (R : KnotsR nodes spans knots) (D : Dens spans) (hh : ∀ u ∈ knots, hungB nodes spans u = true) : Dom (List.range knots.length) (fun i => Vv nodes spans (knots.getD i 0)) (matOf (eqsM nodes spans knots)) := by
  have km : ∀ i, i < knots.length → knots.getD i 0 ∈ knots := fun i hi => getD_mem hi
  refine ⟨List.nodup_range, fun i hi => ?_, fun i hi j hj ne => ?_, fun i hi => ?_⟩
  · rw [List.mem_range] at hi
    generalize hu : knots.getD i 0 = u
    have hm : u ∈ knots := by rw [← hu]; exact km i hi
    obtain ⟨s, hs, o, ho, hlt⟩ := lev_step R.ends (hh u hm) (R.free u hm)
    have h1 := Pp_step D hlt
    have h2 := Wt_ge D hs
    have h3 := Pp_pos (nodes := nodes) D u
    have h4 : Pp nodes spans o ≤ powR (Wt spans + 1) nodes.length := powR_mono (by grind) (by omega)
    have h5 := Rat.mul_nonneg (a := Wt spans - 1) (b := Pp nodes spans u) (by grind) (by grind)
    show 0 < powR (Wt spans + 1) nodes.length - Pp nodes spans u
    grind
  · rw [List.mem_range] at hi hj
    have hne : ¬ knots.getD j 0 = knots.getD i 0 := fun e => by
      rw [show knots.getD j 0 = knots[j] by simp [List.getD, List.getElem?_eq_getElem hj], show knots.getD i 0 = knots[i] by simp [List.getD, List.getElem?_eq_getElem hi]] at e
      have a := R.nd.idxOf_getElem i hi
      have b := R.nd.idxOf_getElem j hj
      rw [e] at b
      exact ne (a.symm.trans b)
    show (ent (eqsM nodes spans knots) i j : Rat) ≤ 0
    rw [eqs_low R hi hj]
    have := sumR_ge (f := fun _ => 0) (g := atR (fun o d => (if knots.getD j 0 = knots.getD i 0 then d else 0) - if knots.getD j 0 = o then d else 0) (knots.getD i 0)) (l := drawingM spans) fun s hs => by
      unfold atR
      cases oth s (knots.getD i 0) with
      | none => exact Rat.le_refl
      | some o =>
        have hd := D s hs
        show (if knots.getD j 0 = knots.getD i 0 then (s.d : Rat) else 0) - (if knots.getD j 0 = o then (s.d : Rat) else 0) ≤ 0
        rw [if_neg hne]
        split <;> grind
    rw [sumR_zero] at this
    exact this
  · rw [List.mem_range] at hi
    have hm := km i hi
    have hlow : ∀ j, j < knots.length → matOf (eqsM nodes spans knots) i j = sumR (drawingM spans) (atR (fun o d => (if knots.getD j 0 = knots.getD i 0 then d else 0) - if knots.getD j 0 = o then d else 0) (knots.getD i 0)) := fun j hj => eqs_low R hi hj
    rw [sumL_congr fun j hj => by rw [hlow j (by simpa using hj)]]
    generalize knots.getD i 0 = u at hm
    rw [swap_sum knots.length (fun j => Vv nodes spans (knots.getD j 0)) (fun j => atR (fun o d => (if knots.getD j 0 = u then d else 0) - if knots.getD j 0 = o then d else 0) u)]
    obtain ⟨s0, hs0, o0, ho0, hlt⟩ := lev_step R.ends (hh u hm) (R.free u hm)
    have p0 := Pp_pos (nodes := nodes) D u
    have ev : ∀ s ∈ drawingM spans, sumL (List.range knots.length) (fun j => atR (fun o d => (if knots.getD j 0 = u then d else 0) - if knots.getD j 0 = o then d else 0) u s * Vv nodes spans (knots.getD j 0)) = atR (fun o d => d * (Pp nodes spans o - Pp nodes spans u)) u s := fun s hs => by
      unfold atR
      cases ho : oth s u with
      | none =>
        show sumL _ (fun j => 0 * _) = 0
        rw [sumL_congr (g := fun _ => 0) fun j _ => Rat.zero_mul _, sumL_zero]
      | some o =>
        show sumL _ (fun j => ((if knots.getD j 0 = u then (s.d : Rat) else 0) - if knots.getD j 0 = o then (s.d : Rat) else 0) * Vv nodes spans (knots.getD j 0)) = (s.d : Rat) * (Pp nodes spans o - Pp nodes spans u)
        rw [sumL_congr (g := fun j => 1 * ((if knots.getD j 0 = u then (s.d : Rat) else 0) * Vv nodes spans (knots.getD j 0)) + (-1) * ((if knots.getD j 0 = o then (s.d : Rat) else 0) * Vv nodes spans (knots.getD j 0))) fun j _ => by grind, sumL_lin, sum_pick R.nd, sum_pick R.nd, if_pos hm]
        obtain ⟨h1, h2, h3⟩ := R.to s hs u hm o ho
        have e : (if o ∈ knots then (s.d : Rat) * Vv nodes spans o else 0) = (s.d : Rat) * Vv nodes spans o := by
          by_cases c : o ∈ knots
          · rw [if_pos c]
          · rw [if_neg c, Vv_fixed (h3.elim id fun q => absurd q c), Rat.mul_zero]
        rw [e]
        unfold Vv
        grind
    rw [sumR_congr ev]
    have key := sumR_more (f := atR (fun o d => d * (Pp nodes spans o - Pp nodes spans u)) u) (g := fun s => (- Pp nodes spans u) * (s.d : Rat)) (c := Pp nodes spans o0) (s0 := s0) (l := drawingM spans) (fun s hs => by
      have hd := D s hs
      unfold atR
      cases oth s u with
      | none =>
        show (- Pp nodes spans u) * (s.d : Rat) ≤ 0
        have := Rat.mul_nonneg (a := Pp nodes spans u) (b := (s.d : Rat)) (by grind) (by grind)
        grind
      | some o =>
        show (- Pp nodes spans u) * (s.d : Rat) ≤ (s.d : Rat) * (Pp nodes spans o - Pp nodes spans u)
        have := Rat.mul_nonneg (a := Pp nodes spans o) (b := (s.d : Rat)) (by have := Pp_pos (nodes := nodes) D o; grind) (by grind)
        grind) hs0 (by
      have hd := D s0 hs0
      unfold atR
      rw [ho0]
      show (- Pp nodes spans u) * (s0.d : Rat) + Pp nodes spans o0 ≤ (s0.d : Rat) * (Pp nodes spans o0 - Pp nodes spans u)
      have := Rat.mul_nonneg (a := Pp nodes spans o0) (b := (s0.d : Rat) - 1) (by have := Pp_pos (nodes := nodes) D o0; grind) (by grind)
      grind)
    rw [sumR_mul] at key
    have h1 := Pp_step D hlt
    have eW : Wt spans = sumR (drawingM spans) fun s => (s.d : Rat) := rfl
    rw [← eW] at key
    grind
end
end Wp

namespace Wp
open OwPull
/-! ### lists that are set at places -/
theorem setAt_len {α : Type} (c : Nat → Bool) (f : Nat → α) (n : Nat) (d : α) : ∀ m, ((List.range m).foldl (fun p i => if c i = true then p.set i (f i) else p) (List.replicate n d)).length = n
  | 0 => by simp
  | m + 1 => by
    rw [List.range_succ, List.foldl_append, List.foldl_cons, List.foldl_nil]
    split
    · rw [List.length_set, setAt_len c f n d m]
    · exact setAt_len c f n d m
theorem setAt_get {α : Type} (c : Nat → Bool) (f : Nat → α) (n : Nat) (d : α) {i : Nat} (hi : i < n) : ∀ m, ((List.range m).foldl (fun p i => if c i = true then p.set i (f i) else p) (List.replicate n d))[i]? = some (if i < m ∧ c i = true then f i else d)
  | 0 => by simp [hi]
  | m + 1 => by
    have hl := setAt_len c f n d m
    have ih := setAt_get c f n d hi m
    rw [List.range_succ, List.foldl_append, List.foldl_cons, List.foldl_nil]
    by_cases e : m = i
    · subst e
      rw [if_neg (by omega)] at ih
      by_cases hc : c m = true
      · rw [if_pos hc, List.getElem?_set_self (by omega), if_pos ⟨by omega, hc⟩]
      · rw [if_neg hc, ih, if_neg (fun q => hc q.2)]
    · have e2 : (if i < m + 1 ∧ c i = true then f i else d) = if i < m ∧ c i = true then f i else d := by
        by_cases h : i < m ∧ c i = true
        · rw [if_pos h, if_pos ⟨by omega, h.2⟩]
        · rw [if_neg h, if_neg (fun q => h ⟨by omega, q.2⟩)]
      rw [e2]
      split
      · rw [List.getElem?_set_ne e]
        exact ih
      · exact ih
theorem foldPut_len {α β : Type} (f : β → α) : ∀ (l : List (Nat × β)) (p : List α), (l.foldl (fun p x => p.set x.1 (f x.2)) p).length = p.length
  | [], _ => rfl
  | x :: l, p => by rw [List.foldl_cons, foldPut_len f l, List.length_set]
theorem foldPut_out {α β : Type} (f : β → α) {i : Nat} : ∀ (l : List (Nat × β)) (p : List α), (∀ y ∈ l, y.1 ≠ i) → (l.foldl (fun p x => p.set x.1 (f x.2)) p)[i]? = p[i]?
  | [], _, _ => rfl
  | x :: l, p, h => by rw [List.foldl_cons, foldPut_out f l _ (fun y hy => h y (List.mem_cons_of_mem _ hy)), List.getElem?_set_ne (h x (by simp))]
theorem foldPut_in {α β : Type} (f : β → α) {i : Nat} {a : β} : ∀ (l : List (Nat × β)) (p : List α), (l.map (·.1)).Nodup → (i, a) ∈ l → i < p.length → (l.foldl (fun p x => p.set x.1 (f x.2)) p)[i]? = some (f a)
  | x :: l, p, nd, h, hi => by
    rw [List.foldl_cons]
    rw [List.map_cons, List.nodup_cons] at nd
    rcases List.mem_cons.mp h with e | h
    · rw [← e] at nd ⊢
      rw [foldPut_out f l _ (fun y hy q => nd.1 (List.mem_map.mpr ⟨y, hy, q⟩)), List.getElem?_set_self hi]
    · exact foldPut_in f l _ nd.2 h (by rw [List.length_set]; exact hi)
theorem zip_fst {α β : Type} : ∀ (a : List α) (b : List β), a.length = b.length → (a.zip b).map (·.1) = a
  | [], [], _ => rfl
  | x :: a, y :: b, h => by
    rw [List.zip_cons_cons, List.map_cons, zip_fst a b (by simpa using h)]
  | [], _ :: _, h => by simp at h
  | _ :: _, [], h => by simp at h
section
variable {nodes : List MNode} {spans : List MSpan} {knots : List Nat}
/-! ### what an ok net gives -/
theorem net_ends (N : NetOk nodes spans) : EndsOk nodes spans := fun s hs => by
  obtain ⟨a, b, c, _⟩ := N.span s (List.mem_filter.mp hs).1
  exact ⟨a, b, c⟩
theorem net_dens (N : NetOk nodes spans) : Dens spans := fun s hs => by
  obtain ⟨h1, h2⟩ := List.mem_filter.mp hs
  obtain ⟨_, _, _, h0, _⟩ := N.span s h1
  unfold drawsM at h2
  rw [Bool.and_eq_true, decide_eq_true_eq] at h2
  have : 1 ≤ s.d := by omega
  exact_mod_cast this
theorem eqs_shape : ∀ (l : List MSpan) (rows : List (List Int)), Shape rows knots.length (knots.length + 3) → Shape (l.foldl (eqStep nodes knots) rows) knots.length (knots.length + 3)
  | [], _, h => h
  | s :: l, rows, h => by
    rw [List.foldl_cons]
    refine eqs_shape l _ ?_
    unfold eqStep
    split
    · exact eqEnd_shape (eqEnd_shape h)
    · exact h
theorem eqsM_shape : Shape (eqsM nodes spans knots) knots.length (knots.length + 3) := eqs_shape spans _ (rows0_shape nodes knots)
theorem knots_few (N : NetOk nodes spans) (h : List Bool) : (knotsM nodes h).length ≤ 24 := by
  unfold knotsM
  have := List.length_filter_le (fun i => h.getD i false && !(nodes.getD i default).fixed) (List.range nodes.length)
  rw [List.length_range] at this
  exact Nat.le_trans this N.nl
theorem knot_hung (E : EndsOk nodes spans) {u : Nat} (hu : u ∈ knotsM nodes (hangM nodes spans)) : u < nodes.length ∧ hungB nodes spans u = true ∧ (nodes.getD u default).fixed = false := by
  unfold knotsM at hu
  rw [List.mem_filter, List.mem_range, hang_is E, Bool.and_eq_true] at hu
  exact ⟨hu.1, hu.2.1, by simpa using hu.2.2⟩
theorem vec_bits (N : NetOk nodes spans) (i : Nat) {k : Nat} (hk : k < 3) : Bits 17 ((nodes.getD i default).vec.getD k 0) := by
  by_cases hi : i < nodes.length
  · exact ((N.node _ (getD_mem hi)).1.get k hk).2
  · rw [getD_out (l := nodes) (by omega)]
    match k, hk with
    | 0, _ => exact Bits.zero _
    | 1, _ => exact Bits.zero _
    | 2, _ => exact Bits.zero _
theorem ite_abs {p : Prop} [Decidable p] {z : Int} {b : Nat} (h : z.natAbs ≤ b) : (if p then z else 0).natAbs ≤ b := by
  split
  · exact h
  · exact Nat.zero_le _
theorem cE_abs (N : NetOk nodes spans) {u o j : Nat} {d : Int} (hd : Bits 20 d) : (cE nodes knots u o d j).natAbs ≤ 2 ^ 39 := by
  have h1 : ∀ k, k < 3 → (d * (nodes.getD o default).vec.getD k 0).natAbs ≤ 2 ^ 37 := fun k hk => Nat.le_of_lt (hd.mul (vec_bits N o hk))
  have hx := h1 0 (by decide)
  have hy := h1 1 (by decide)
  have hz := h1 2 (by decide)
  have ex : (nodes.getD o default).vec.getD 0 0 = (nodes.getD o default).x := rfl
  have ey : (nodes.getD o default).vec.getD 1 0 = (nodes.getD o default).y := rfl
  have ez : (nodes.getD o default).vec.getD 2 0 = (nodes.getD o default).z := rfl
  rw [ex] at hx
  rw [ey] at hy
  rw [ez] at hz
  have hd' : d.natAbs ≤ 2 ^ 20 := Nat.le_of_lt hd
  unfold cE
  have a0 : (if j = knots.idxOf u then d else 0).natAbs ≤ 2 ^ 20 := ite_abs hd'
  split
  · have a1 : (if j = knots.length + 0 then d * (nodes.getD o default).x else 0).natAbs ≤ 2 ^ 37 := ite_abs hx
    have a2 : (if j = knots.length + 1 then d * (nodes.getD o default).y else 0).natAbs ≤ 2 ^ 37 := ite_abs hy
    have a3 : (if j = knots.length + 2 then d * (nodes.getD o default).z else 0).natAbs ≤ 2 ^ 37 := ite_abs hz
    omega
  · have a1 : (if j = knots.idxOf o then -d else 0).natAbs ≤ 2 ^ 20 := ite_abs (by omega)
    omega
theorem eqs_rows (N : NetOk nodes spans) (R : KnotsR nodes spans knots) (hh : ∀ u ∈ knots, hungB nodes spans u = true) (hk : knots.length ≤ 24) : RowsOk (eqsM nodes spans knots) (knots.length + 3) (fun i => Vv nodes spans (knots.getD i 0)) := by
  have S := eqsM_shape (nodes := nodes) (spans := spans) (knots := knots)
  refine ⟨S.m, by rw [S.n]; omega, by rw [S.n]; exact hk, by omega, fun r hr z hz => ?_, ?_⟩
  · obtain ⟨i, hi, rfl⟩ := List.getElem_of_mem hr
    obtain ⟨j, hj, rfl⟩ := List.getElem_of_mem hz
    have hm := S.m _ hr
    rw [S.n] at hi
    have e : ent (eqsM nodes spans knots) i j = (eqsM nodes spans knots)[i][j] := by
      unfold ent
      simp [List.getD, List.getElem?_eq_getElem (show i < (eqsM nodes spans knots).length by rw [S.n]; exact hi), List.getElem?_eq_getElem hj]
    rw [← e]
    have h := (eqs_ent (nodes := nodes) R.nd hi (show j < knots.length + 3 by omega) spans (fun s hs => (R.ends s hs).2.2) _ (rows0_shape nodes knots)).2
    have e2 : ent (eqsM nodes spans knots) i j = ent (spans.foldl (eqStep nodes knots) (rows0M nodes knots)) i j := rfl
    rw [e2, h, rows0_ent hi]
    have b1 : (if j < knots.length then (0 : Int) else ((nodes.getD (knots.getD i 0) default).vec.map fun p => 1000 * p).getD (j - knots.length) 0).natAbs ≤ 2 ^ 27 := by
      split
      · exact Nat.zero_le _
      · have hk3 : j - knots.length < 3 := by omega
        have e3 : ((nodes.getD (knots.getD i 0) default).vec.map fun p => 1000 * p).getD (j - knots.length) 0 = 1000 * (nodes.getD (knots.getD i 0) default).vec.getD (j - knots.length) 0 := by
          generalize j - knots.length = k at hk3
          match k, hk3 with
          | 0, _ => rfl
          | 1, _ => rfl
          | 2, _ => rfl
        rw [e3]
        have := vec_bits N (knots.getD i 0) hk3
        unfold Bits at this
        omega
    have b2 : (sumZ (drawingM spans) (atS (fun o d => cE nodes knots (knots.getD i 0) o d j) (knots.getD i 0))).natAbs ≤ (drawingM spans).length * 2 ^ 39 := sumZ_abs fun s hs => by
      unfold atS
      cases oth s (knots.getD i 0) with
      | none => exact Nat.zero_le _
      | some o =>
        obtain ⟨_, _, _, _, hb⟩ := N.span s (List.mem_filter.mp hs).1
        exact cE_abs N hb
    have b3 : (drawingM spans).length ≤ 40 := Nat.le_trans (List.length_filter_le _ _) N.sl
    have b4 : (drawingM spans).length * 2 ^ 39 ≤ 40 * 2 ^ 39 := Nat.mul_le_mul_right _ b3
    unfold Bits
    omega
  · rw [S.n]
    exact eqs_dom R (net_dens N) hh
/-- the rows of the sways: the same matrix -/
def swayR (rows : List (List Int)) (pushes : List Int) (n : Nat) : List (List Int) := (rows.zip pushes).map fun x => x.1.take n ++ [x.2]
theorem dom_congr {S : List Nat} {v : Nat → Rat} {M M' : Mat} (D : Dom S v M) (h : ∀ i ∈ S, ∀ j ∈ S, M' i j = M i j) : Dom S v M' :=
  ⟨D.nd, D.pos, fun i hi j hj ne => by rw [h i hi j hj]; exact D.off i hi j hj ne, fun i hi => by
    rw [sumL_congr (g := fun j => M i j * v j) fun j hj => by rw [h i hi j hj]]
    exact D.row i hi⟩
theorem sway_ent {rows : List (List Int)} {pushes : List Int} {n m i j : Nat} (S : Shape rows n m) (hnm : n ≤ m) (hp : pushes.length = n) (hi : i < n) : ent (swayR rows pushes n) i j = if j < n then ent rows i j else if j = n then pushes.getD i 0 else 0 := by
  have h1 : i < rows.length := by rw [S.n]; exact hi
  have h2 : i < pushes.length := by omega
  have e : (swayR rows pushes n).getD i [] = rows[i].take n ++ [pushes[i]] := by
    unfold swayR
    simp only [List.getD]
    have hz : (rows.zip pushes)[i]? = some (rows[i], pushes[i]) := List.getElem?_zip_eq_some.mpr ⟨List.getElem?_eq_getElem h1, List.getElem?_eq_getElem h2⟩
    rw [List.getElem?_map, hz]
    rfl
  have hl : (rows[i].take n).length = n := by rw [List.length_take, S.m _ (List.getElem_mem h1)]; omega
  unfold ent
  rw [e, show rows.getD i [] = rows[i] by simp [List.getD, List.getElem?_eq_getElem h1], show pushes.getD i 0 = pushes[i] by simp [List.getD, List.getElem?_eq_getElem h2]]
  simp only [List.getD]
  by_cases hj : j < n
  · rw [if_pos hj, List.getElem?_append_left (by omega), List.getElem?_take, if_pos hj]
  · rw [if_neg hj, List.getElem?_append_right (by omega), hl]
    by_cases hjn : j = n
    · rw [if_pos hjn, hjn, Nat.sub_self]
      rfl
    · rw [if_neg hjn, List.getElem?_eq_none (by simp; omega)]
      rfl
theorem sway_rows {v : Nat → Rat} {rows : List (List Int)} {pushes : List Int} {n : Nat} (S : Shape rows n (n + 3)) (R : RowsOk rows (n + 3) v) (hp : pushes.length = n) (hb : ∀ z ∈ pushes, Bits 46 z) : RowsOk (swayR rows pushes n) (n + 1) v := by
  have hl : (swayR rows pushes n).length = n := by simp [swayR, S.n, hp]
  have hn24 : n ≤ 24 := by have := R.few; rw [S.n] at this; exact this
  refine ⟨fun r hr => ?_, by omega, by omega, by omega, fun r hr z hz => ?_, ?_⟩
  · obtain ⟨x, hx, rfl⟩ := List.mem_map.mp hr
    rw [List.length_append, List.length_take, S.m _ (List.of_mem_zip hx).1]
    show min n (n + 3) + 1 = n + 1
    omega
  · obtain ⟨x, hx, rfl⟩ := List.mem_map.mp hr
    rcases List.mem_append.mp hz with h | h
    · exact R.bits _ (List.of_mem_zip hx).1 z (List.mem_of_mem_take h)
    · rw [List.mem_singleton.mp h]
      exact hb _ (List.of_mem_zip hx).2
  · rw [hl]
    have D := R.dom
    rw [S.n] at D
    refine dom_congr D fun i hi j hj => ?_
    rw [List.mem_range] at hi hj
    unfold matOf
    rw [sway_ent S (by omega) hp hi, if_pos hj]
end
theorem RowsOk.botb {rows : List (List Int)} {m : Nat} {v : Nat → Rat} (R : RowsOk rows m v) : Bits 1300 (solvedM rows).1 := by
  have h := intB_eq (R.whole_ rows.length (Nat.le_refl _)).1 (R.state rows.length (Nat.le_refl _)).1.symm
  have := R.few
  exact Nat.lt_of_le_of_lt h (Nat.lt_of_le_of_lt (lid_bits _ (by omega)) (Nat.pow_lt_pow_right (by decide) (by omega)))
end Wp

namespace Wp
open OwPull
section
variable {nodes : List MNode} {spans : List MSpan}
abbrev kn (nodes : List MNode) (spans : List MSpan) : List Nat := knotsM nodes (hangM nodes spans)
abbrev eqR (nodes : List MNode) (spans : List MSpan) : List (List Int) := eqsM nodes spans (kn nodes spans)
abbrev vK (nodes : List MNode) (spans : List MSpan) : Nat → Rat := fun i => Vv nodes spans ((kn nodes spans).getD i 0)
theorem net_rows (N : NetOk nodes spans) : RowsOk (eqR nodes spans) ((kn nodes spans).length + 3) (vK nodes spans) :=
  eqs_rows N (knots_r (net_ends N)) (fun u hu => (knot_hung (net_ends N) hu).2.1) (knots_few N _)
theorem eqR_len : (eqR nodes spans).length = (kn nodes spans).length := eqsM_shape.n
theorem hang_len : (hangM nodes spans).length = nodes.length := sweeps_len (nodes := nodes) (spans := spans) nodes.length
theorem hang_at (N : NetOk nodes spans) (i : Nat) : (balancedM nodes spans).hang i = hungB nodes spans i := hang_is (net_ends N) i
theorem hang_lt {i : Nat} (h : (hangM nodes spans).getD i false = true) : i < nodes.length := by
  refine Classical.byContradiction fun hn => ?_
  rw [getD_out (by rw [hang_len]; omega)] at h
  cases h
theorem mem_kn (N : NetOk nodes spans) {i : Nat} : i ∈ kn nodes spans ↔ hungB nodes spans i = true ∧ i < nodes.length ∧ (nodes.getD i default).fixed = false := by
  constructor
  · intro h
    obtain ⟨a, b, c⟩ := knot_hung (net_ends N) h
    exact ⟨b, a, c⟩
  · intro ⟨a, b, c⟩
    unfold kn knotsM
    rw [List.mem_filter, List.mem_range, hang_is (net_ends N), a, c]
    exact ⟨b, rfl⟩
theorem answers_len : (solvedM (eqR nodes spans)).2.length = (kn nodes spans).length := by
  have : (solvedM (eqR nodes spans)).2 = (stateAt (eqR nodes spans) (eqR nodes spans).length).1.map fun row => row.drop (eqR nodes spans).length := rfl
  rw [this, List.length_map, stateAt_len, eqR_len]
theorem answers_row (N : NetOk nodes spans) {x : Nat} (hx : x < (kn nodes spans).length) : V3 2000 ((solvedM (eqR nodes spans)).2.getD x []) := by
  have R := net_rows N
  have S := R.solveOk
  have hl := stateAt_len (eqR nodes spans) (eqR nodes spans).length
  have hlen := eqR_len (nodes := nodes) (spans := spans)
  have hx2 : x < (stateAt (eqR nodes spans) (eqR nodes spans).length).1.length := by omega
  have e : (solvedM (eqR nodes spans)).2.getD x [] = ((stateAt (eqR nodes spans) (eqR nodes spans).length).1[x]).drop (eqR nodes spans).length := by
    have : (solvedM (eqR nodes spans)).2 = (stateAt (eqR nodes spans) (eqR nodes spans).length).1.map fun row => row.drop (eqR nodes spans).length := rfl
    rw [this]
    simp only [List.getD]
    rw [List.getElem?_map, List.getElem?_eq_getElem hx2]
    rfl
  have hm := List.getElem_mem hx2
  have hw := stateAt_wide S.wide _ (Nat.le_refl _) _ hm
  have hb := S.bits _ (Nat.le_refl _) _ hm
  rw [e]
  generalize (stateAt (eqR nodes spans) (eqR nodes spans).length).1[x] = r at hw hb
  have hd : ∀ z ∈ r.drop (eqR nodes spans).length, Bits 2000 z := fun z hz => hb z (List.mem_of_mem_drop hz)
  have hl3 : (r.drop (eqR nodes spans).length).length = 3 := by rw [List.length_drop, hw, hlen]; omega
  match r.drop (eqR nodes spans).length, hl3, hd with
  | [a, b, c], _, hd => exact ⟨a, b, c, rfl, hd a (by simp), hd b (by simp), hd c (by simp)⟩
theorem places_len (k : List Nat) (bot : Int) (ans : List (List Int)) : (placesM nodes k bot ans).length = nodes.length := by
  unfold placesM
  rw [foldPut_len some, setAt_len]
theorem place_fix (N : NetOk nodes spans) {i : Nat} (hi : i < nodes.length) (hf : (nodes.getD i default).fixed = true) : (balancedM nodes spans).places[i]? = some (some ((nodes.getD i default).vec.map fun q => q * (balancedM nodes spans).bottom)) := by
  have e : (balancedM nodes spans).places = placesM nodes (kn nodes spans) (solvedM (eqR nodes spans)).1 (solvedM (eqR nodes spans)).2 := rfl
  rw [e]
  unfold placesM
  rw [foldPut_out some _ _ (fun y hy q => ?_), setAt_get (fun i => (nodes.getD i default).fixed) (fun i => some ((nodes.getD i default).vec.map fun q => q * (solvedM (eqR nodes spans)).1)) nodes.length none hi, if_pos ⟨hi, hf⟩]
  · rfl
  · have := (mem_kn N).mp (List.of_mem_zip hy).1
    rw [q, hf] at this
    cases this.2.2
theorem place_knot (N : NetOk nodes spans) {x : Nat} (hx : x < (kn nodes spans).length) : (balancedM nodes spans).places[(kn nodes spans).getD x 0]? = some (some ((solvedM (eqR nodes spans)).2.getD x [])) := by
  have e : (balancedM nodes spans).places = placesM nodes (kn nodes spans) (solvedM (eqR nodes spans)).1 (solvedM (eqR nodes spans)).2 := rfl
  have al := answers_len (nodes := nodes) (spans := spans)
  have hxa : x < (solvedM (eqR nodes spans)).2.length := by omega
  have hk : (kn nodes spans).getD x 0 = (kn nodes spans)[x] := by simp [List.getD, List.getElem?_eq_getElem hx]
  have hm : (kn nodes spans).getD x 0 ∈ kn nodes spans := by rw [hk]; exact List.getElem_mem hx
  rw [e]
  unfold placesM
  rw [foldPut_in some (a := (solvedM (eqR nodes spans)).2.getD x [])]
  · rw [zip_fst _ _ al.symm]
    exact (knots_r (net_ends N)).nd
  · have : ((kn nodes spans).zip (solvedM (eqR nodes spans)).2)[x]? = some ((kn nodes spans).getD x 0, (solvedM (eqR nodes spans)).2.getD x []) := by
      rw [List.getElem?_zip_eq_some]
      refine ⟨by rw [hk, List.getElem?_eq_getElem hx], ?_⟩
      rw [show (solvedM (eqR nodes spans)).2.getD x [] = (solvedM (eqR nodes spans)).2[x] by simp [List.getD, List.getElem?_eq_getElem hxa], List.getElem?_eq_getElem hxa]
    exact List.mem_of_getElem? this
  · rw [setAt_len]
    exact ((mem_kn N).mp hm).2.1
theorem knot_ix (N : NetOk nodes spans) {i : Nat} (h : hungB nodes spans i = true) (hi : i < nodes.length) (hf : (nodes.getD i default).fixed = false) : ∃ x, x < (kn nodes spans).length ∧ (kn nodes spans).getD x 0 = i := by
  have hm := (mem_kn N).mpr ⟨h, hi, hf⟩
  have hl := List.idxOf_lt_length_of_mem hm
  exact ⟨_, hl, by simp [List.getD, List.getElem?_eq_getElem hl]⟩
theorem bal_ok (N : NetOk nodes spans) : BalOk (balancedM nodes spans) nodes spans := by
  have R := net_rows N
  have S := R.solveOk
  have hb : (balancedM nodes spans).bottom = (solvedM (eqR nodes spans)).1 := rfl
  have hbot : Bits 1300 (balancedM nodes spans).bottom := R.botb
  refine ⟨hang_len, places_len _ _ _, fun i hh => ?_, fun i n hn hf => ?_, S.pos _ (Nat.le_refl _), S.bot _ (Nat.le_refl _), fun s hs hd hab => ?_⟩
  · have hi := hang_lt hh
    cases hf : (nodes.getD i default).fixed with
    | true =>
      refine ⟨_, place_fix N hi hf, ?_⟩
      have hv := (N.node _ (getD_mem (d := default) hi)).1
      refine ⟨_, _, _, rfl, ?_, ?_, ?_⟩
      · exact ((hv.get 0 (by decide)).2.mul hbot).mono (by decide)
      · exact ((hv.get 1 (by decide)).2.mul hbot).mono (by decide)
      · exact ((hv.get 2 (by decide)).2.mul hbot).mono (by decide)
    | false =>
      rw [hang_at N] at hh
      obtain ⟨x, hx, rfl⟩ := knot_ix N hh hi hf
      exact ⟨_, place_knot N hx, answers_row N hx⟩
  · rw [hang_at N]
    have : nodes.getD i default = n := by simp [List.getD, hn]
    exact lv_mono (k := 0) (show (nodes.getD i default).fixed = true by rw [this]; exact hf) (Nat.zero_le _)
  · have := hung_closed (net_ends N) (List.mem_filter.mpr ⟨hs, hd⟩)
    rw [hang_at N, hang_at N] at hab ⊢
    rw [this] at hab ⊢
    rcases hab with q | q <;> exact ⟨q, q⟩
/-! ### the specification's places -/
theorem find_zip {α : Type} {i : Nat} : ∀ (l : List Nat) (vs : List α), l.length = vs.length → i ∉ l → ((l.zip vs).find? fun (x : Nat × α) => x.1 == i) = none
  | [], _, _, _ => rfl
  | a :: l, [], h, _ => by simp at h
  | a :: l, v :: vs, h, hn => by
    rw [List.zip_cons_cons, List.find?_cons]
    have : (a == i) = false := by
      rw [beq_eq_false_iff_ne]
      exact fun e => hn (by simp [e])
    rw [this]
    exact find_zip l vs (by simpa using h) fun m => hn (List.mem_cons_of_mem _ m)
theorem find_zip_in {α : Type} {d : α} : ∀ (l : List Nat) (vs : List α) (x : Nat), l.length = vs.length → l.Nodup → x < l.length → ((l.zip vs).find? fun (y : Nat × α) => y.1 == l.getD x 0) = some (l.getD x 0, vs.getD x d)
  | [], _, _, _, _, h => by simp at h
  | a :: l, [], _, h, _, _ => by simp at h
  | a :: l, v :: vs, 0, h, nd, hx => by
    rw [List.zip_cons_cons, List.find?_cons]
    simp
  | a :: l, v :: vs, x + 1, h, nd, hx => by
    rw [List.zip_cons_cons, List.find?_cons]
    rw [List.nodup_cons] at nd
    have hx' : x < l.length := by simpa using hx
    have e : (a :: l).getD (x + 1) 0 = l.getD x 0 := by simp [List.getD]
    have e2 : (v :: vs).getD (x + 1) d = vs.getD x d := by simp [List.getD]
    rw [e, e2]
    have : (a == l.getD x 0) = false := by
      rw [beq_eq_false_iff_ne]
      exact fun q => nd.1 (by rw [q]; exact getD_mem hx')
    rw [this]
    exact find_zip_in l vs x (by simpa using h) nd.2 hx'
theorem rows_len3 (Nt : Net) (l : List Nat) : ∀ r ∈ l.map (Nt.rowOf l), r.length = l.length + 3 := fun r hr => by
  obtain ⟨i, _, rfl⟩ := List.mem_map.mp hr
  exact rowOf_len l Nt i
/-- a solution of the specification's equations over the same factors -/
theorem spec_sol (N : NetOk nodes spans) {Nt : Net} {rows : List (List Int)} {m : Nat} {v : Nat → Rat} (R : RowsOk rows m v) (hl : rows.length = (kn nodes spans).length)
    (hm : ∀ i j, i < (kn nodes spans).length → j < (kn nodes spans).length → rmat ((kn nodes spans).map (Nt.rowOf (kn nodes spans))) i j = matOf rows i j) {c : Nat} (hc : c < 3) (hcm : ∃ c', rows.length + c' < m ∧ ∀ i, i < (kn nodes spans).length → rmat ((kn nodes spans).map (Nt.rowOf (kn nodes spans))) i ((kn nodes spans).length + c) = matOf rows i (rows.length + c')) :
    ∃ c', rows.length + c' < m ∧ (∀ i, i < (kn nodes spans).length → rmat ((kn nodes spans).map (Nt.rowOf (kn nodes spans))) i ((kn nodes spans).length + c) = matOf rows i (rows.length + c')) ∧ ∀ x, x < (kn nodes spans).length → ((solved 3 (kn nodes spans).length ((kn nodes spans).map (Nt.rowOf (kn nodes spans)))).getD x []).getD c 0 = (((solvedM rows).2.getD x []).getD c' 0 : Rat) / ((solvedM rows).1 : Rat) := by
  obtain ⟨c', hc', hcol⟩ := hcm
  refine ⟨c', hc', hcol, fun x hx => ?_⟩
  have D := R.dom
  rw [hl] at D
  have D2 : Dom (List.range (kn nodes spans).length) v (rmat ((kn nodes spans).map (Nt.rowOf (kn nodes spans)))) := dom_congr D fun i hi j hj => hm i j (by simpa using hi) (by simpa using hj)
  have hS := solved_solves 3 (kn nodes spans).length ((kn nodes spans).map (Nt.rowOf (kn nodes spans))) v (by simp) (rows_len3 Nt _) D2 c hc
  refine R.sol (x := fun j => ((solved 3 (kn nodes spans).length ((kn nodes spans).map (Nt.rowOf (kn nodes spans)))).getD j []).getD c 0) hc' ?_ (by omega)
  rw [hl]
  intro i hi
  have h := hS i hi
  rw [List.mem_range] at hi
  rw [← hl, ← hcol i hi, ← h]
  rw [hl]
  exact sumL_congr fun j hj => by rw [hm i j hi (by simpa using hj)]
/-- where a node is -/
def placeV (b : MBal) (i : Nat) : Vec := ⟨((b.at_ i).getD 0 0 : Rat) / (b.bottom : Rat), ((b.at_ i).getD 1 0 : Rat) / (b.bottom : Rat), ((b.at_ i).getD 2 0 : Rat) / (b.bottom : Rat)⟩
theorem laid_is (N : NetOk nodes spans) : (absN nodes spans).laid = (kn nodes spans).map fun i => (i, placeV (balancedM nodes spans) i) := by
  have hl := loose_is (nodes := nodes) (spans := spans) (net_ends N)
  unfold Net.laid
  dsimp only
  rw [hl]
  have R := net_rows N
  have KR := knots_r (nodes := nodes) (spans := spans) (net_ends N)
  have hm : ∀ i j, i < (kn nodes spans).length → j < (kn nodes spans).length + 3 → rmat ((kn nodes spans).map ((absN nodes spans).rowOf (kn nodes spans))) i j = matOf (eqR nodes spans) i j := fun i j hi hj => mat_is KR hi hj
  have sl : (solved 3 (kn nodes spans).length ((kn nodes spans).map ((absN nodes spans).rowOf (kn nodes spans)))).length = (kn nodes spans).length := by
    have := solved_len_ 3 ((kn nodes spans).map ((absN nodes spans).rowOf (kn nodes spans)))
    rw [List.length_map] at this
    exact this
  have col : ∀ c, c < 3 → ∀ x, x < (kn nodes spans).length → ((solved 3 (kn nodes spans).length ((kn nodes spans).map ((absN nodes spans).rowOf (kn nodes spans)))).getD x []).getD c 0 = (((solvedM (eqR nodes spans)).2.getD x []).getD c 0 : Rat) / ((solvedM (eqR nodes spans)).1 : Rat) := fun c hc x hx => by
    have D := R.dom
    rw [eqR_len] at D
    have D2 : Dom (List.range (kn nodes spans).length) (vK nodes spans) (rmat ((kn nodes spans).map ((absN nodes spans).rowOf (kn nodes spans)))) := dom_congr D fun i hi j hj => hm i j (by simpa using hi) (Nat.lt_add_right 3 (List.mem_range.mp hj))
    have hS := solved_solves 3 (kn nodes spans).length ((kn nodes spans).map ((absN nodes spans).rowOf (kn nodes spans))) (vK nodes spans) (by simp) (rows_len3 _ _) D2 c hc
    refine R.sol (c := c) (x := fun j => ((solved 3 (kn nodes spans).length ((kn nodes spans).map ((absN nodes spans).rowOf (kn nodes spans)))).getD j []).getD c 0) (by rw [eqR_len]; omega) ?_ (by rw [eqR_len]; exact hx)
    rw [eqR_len]
    intro i hi
    have h := hS i hi
    rw [List.mem_range] at hi
    rw [← hm i _ hi (by omega), ← h]
    exact sumL_congr fun j hj => by rw [hm i j hi (Nat.lt_add_right 3 (List.mem_range.mp hj))]
  refine List.ext_getElem (by simp [sl]) fun x h1 h2 => ?_
  have hx : x < (kn nodes spans).length := by simpa using h2
  have hxs : x < (solved 3 (kn nodes spans).length ((kn nodes spans).map ((absN nodes spans).rowOf (kn nodes spans)))).length := by omega
  rw [List.getElem_zip, List.getElem_map, List.getElem_map]
  have e : (solved 3 (kn nodes spans).length ((kn nodes spans).map ((absN nodes spans).rowOf (kn nodes spans))))[x] = (solved 3 (kn nodes spans).length ((kn nodes spans).map ((absN nodes spans).rowOf (kn nodes spans)))).getD x [] := by simp [List.getD, List.getElem?_eq_getElem hxs]
  rw [e, col 0 (by decide) x hx, col 1 (by decide) x hx, col 2 (by decide) x hx]
  have hp := place_knot N hx
  have hk : (kn nodes spans).getD x 0 = (kn nodes spans)[x] := by simp [List.getD, List.getElem?_eq_getElem hx]
  rw [hk] at hp
  have ha : (balancedM nodes spans).at_ (kn nodes spans)[x] = (solvedM (eqR nodes spans)).2.getD x [] := by
    unfold MBal.at_
    simp only [List.getD]
    rw [hp]
    rfl
  unfold placeV
  rw [ha]
  rfl
theorem at_fixv (N : NetOk nodes spans) {i : Nat} (hi : i < nodes.length) (hf : (nodes.getD i default).fixed = true) : (balancedM nodes spans).at_ i = (nodes.getD i default).vec.map fun q => q * (balancedM nodes spans).bottom := by
  unfold MBal.at_
  rw [show (balancedM nodes spans).places.getD i none = some ((nodes.getD i default).vec.map fun q => q * (balancedM nodes spans).bottom) by simp only [List.getD]; rw [place_fix N hi hf]; rfl]
  rfl
theorem mul_div_self {a b : Int} (hb : 0 < b) : ((a * b : Int) : Rat) / (b : Rat) = (a : Rat) := by
  have : (b : Rat) ≠ 0 := fun e => by
    have h2 : b = 0 := by exact_mod_cast e
    omega
  push_cast
  grind
/-- the places -/
theorem placeBy_is (N : NetOk nodes spans) (i : Nat) : (absN nodes spans).placeBy (absN nodes spans).laid i = if (balancedM nodes spans).hang i = true then some (placeV (balancedM nodes spans) i) else none := by
  have B := bal_ok N
  unfold Net.placeBy
  by_cases hi : i < nodes.length
  · cases hf : (nodes.getD i default).fixed with
    | true =>
      rw [at_fixed hi hf]
      have hh : (balancedM nodes spans).hang i = true := B.fix i _ (by simp [List.getD, List.getElem?_eq_getElem hi]) hf
      rw [if_pos hh]
      dsimp only
      congr 1
      unfold placeV
      rw [at_fixv N hi hf]
      show _ = (⟨(((nodes.getD i default).x * (balancedM nodes spans).bottom : Int) : Rat) / _, (((nodes.getD i default).y * (balancedM nodes spans).bottom : Int) : Rat) / _, (((nodes.getD i default).z * (balancedM nodes spans).bottom : Int) : Rat) / _⟩ : Vec)
      rw [mul_div_self B.pos, mul_div_self B.pos, mul_div_self B.pos]
    | false =>
      rw [at_free hi hf]
      dsimp only
      rw [laid_is N]
      have hz : ((kn nodes spans).map fun i => (i, placeV (balancedM nodes spans) i)) = (kn nodes spans).zip ((kn nodes spans).map (placeV (balancedM nodes spans))) := by
        rw [List.zip_map_right]
        refine List.ext_getElem (by simp) fun x h1 h2 => ?_
        simp
      rw [hz, hang_at N]
      cases hh : hungB nodes spans i with
      | true =>
        obtain ⟨x, hx, rfl⟩ := knot_ix N hh hi hf
        rw [find_zip_in (d := zero) _ _ x (by simp) (knots_r (net_ends N)).nd hx, if_pos rfl]
        simp [List.getD, List.getElem?_eq_getElem hx]
      | false =>
        rw [find_zip _ _ (by simp) (fun hm => by rw [((mem_kn N).mp hm).1] at hh; cases hh), if_neg (by decide)]
        rfl
  · rw [node_get, List.getElem?_eq_none (by omega)]
    have : ¬ (balancedM nodes spans).hang i = true := fun h => hi (hang_lt h)
    rw [if_neg this]
    rfl
end
end Wp

namespace Wp
open OwPull PullSpec
/-! ### what is told of a fraction -/
theorem toldM_is {t b : Int} (hb : 0 < b) : toldM t b = fraction ((t : Rat) / (b : Rat)) := by
  have hg : 0 < gcdM b t := by
    unfold gcdM
    have : 0 < Int.gcd b t := Int.gcd_pos_of_ne_zero_left t (by omega)
    omega
  have h1 : gcdM b t ∣ t := Int.gcd_dvd_right _ _
  have h2 : gcdM b t ∣ b := Int.gcd_dvd_left _ _
  obtain ⟨t', ht⟩ := h1
  obtain ⟨b', hb'⟩ := h2
  have hcop : Int.gcd b' t' = 1 := by
    have h3 : Int.gcd b t = Int.gcd (gcdM b t * b') (gcdM b t * t') := by rw [← ht, ← hb']
    rw [Int.gcd_mul_left] at h3
    have h4 : (gcdM b t).natAbs = Int.gcd b t := by unfold gcdM; simp
    rw [h4] at h3
    have h5 : 0 < Int.gcd b t := Int.gcd_pos_of_ne_zero_left t (by omega)
    have h6 : Int.gcd b t * 1 = Int.gcd b t * Int.gcd b' t' := by omega
    exact (Nat.eq_of_mul_eq_mul_left h5 h6).symm
  have hbp : 0 < b' := by
    rw [hb'] at hb
    refine Classical.byContradiction fun hn => ?_
    have := Int.mul_le_mul_of_nonneg_left (show b' ≤ 0 by omega) (Int.le_of_lt hg)
    omega
  generalize hgg : gcdM b t = g at *
  have e1 : t / g = t' := by rw [ht, Int.mul_ediv_cancel_left _ (by omega)]
  have e2 : b / g = b' := by rw [hb', Int.mul_ediv_cancel_left _ (by omega)]
  unfold toldM
  rw [hgg, e1, e2]
  have hr : (⟨t', b'.toNat, by omega, by
      unfold Nat.Coprime
      rw [show b'.toNat = b'.natAbs by omega, Nat.gcd_comm]
      exact hcop⟩ : Rat) = (t : Rat) / (b : Rat) := by
    refine (Rat.mkRat_self _).symm.trans ?_
    rw [Rat.mkRat_eq_div]
    show (t' : Rat) / ((b'.toNat : Nat) : Rat) = _
    have hbr : ((b'.toNat : Nat) : Rat) = (b' : Rat) := by
      have : ((b'.toNat : Int) : Rat) = (b' : Rat) := by rw [Int.toNat_of_nonneg (by omega)]
      exact_mod_cast this
    rw [hbr, ht, hb']
    have g0 : (g : Rat) ≠ 0 := fun e => by
      have : g = 0 := by exact_mod_cast e
      omega
    have b0 : (b' : Rat) ≠ 0 := fun e => by
      have : b' = 0 := by exact_mod_cast e
      omega
    push_cast
    grind
  unfold fraction
  rw [← hr]
  dsimp only
  rw [Int.toNat_of_nonneg (by omega)]
/-- three numbers over one -/
def vecM (v : List Int) (b : Int) : Vec := ⟨(v.getD 0 0 : Rat) / (b : Rat), (v.getD 1 0 : Rat) / (b : Rat), (v.getD 2 0 : Rat) / (b : Rat)⟩
theorem vector_is {v : List Int} {b : Int} (hv : v.length = 3) (hb : 0 < b) : vector (vecM v b) = toldVecM v b := by
  match v, hv with
  | [x, y, z], _ =>
    unfold vector toldVecM vecM
    rw [List.flatMap_cons, List.flatMap_cons, List.flatMap_cons, List.flatMap_nil, List.append_nil, toldM_is hb, toldM_is hb, toldM_is hb]
    rfl
theorem vecM_add (u v : List Int) (b : Int) : vecM (addV u v) b = plus (vecM u b) (vecM v b) := by
  unfold vecM addV plus
  have e : ∀ k, k < 3 → (((List.range 3).map fun k => u.getD k 0 + v.getD k 0).getD k 0 : Rat) / (b : Rat) = (u.getD k 0 : Rat) / (b : Rat) + (v.getD k 0 : Rat) / (b : Rat) := fun k hk => by
    have : ((List.range 3).map fun k => u.getD k 0 + v.getD k 0).getD k 0 = u.getD k 0 + v.getD k 0 := by
      match k, hk with
      | 0, _ => rfl
      | 1, _ => rfl
      | 2, _ => rfl
    rw [this]
    push_cast
    grind
  rw [e 0 (by decide), e 1 (by decide), e 2 (by decide)]
theorem plus_zero (u : Vec) : plus u zero = u := by
  unfold plus zero
  rw [Rat.add_zero, Rat.add_zero, Rat.add_zero]
theorem zero_plus (u : Vec) : plus zero u = u := by
  unfold plus zero
  rw [Rat.zero_add, Rat.zero_add, Rat.zero_add]
theorem plus_assoc (u v w : Vec) : plus (plus u v) w = plus u (plus v w) := by
  unfold plus
  rw [Rat.add_assoc, Rat.add_assoc, Rat.add_assoc]
theorem vecM_fold (b : Int) : ∀ (l : List (List Int)) (a : List Int), vecM (l.foldl addV a) b = plus (vecM a b) (sumVec (l.map fun v => vecM v b))
  | [], a => (plus_zero _).symm
  | v :: l, a => by
    rw [List.foldl_cons, vecM_fold b l, vecM_add, plus_assoc]
    rfl
theorem vecM_zero (b : Int) : vecM [0, 0, 0] b = zero := by
  unfold vecM zero
  show (⟨((0 : Int) : Rat) / (b : Rat), ((0 : Int) : Rat) / (b : Rat), ((0 : Int) : Rat) / (b : Rat)⟩ : Vec) = _
  have : ((0 : Int) : Rat) / (b : Rat) = 0 := by
    rw [Rat.div_def]
    exact Rat.zero_mul _
  rw [this]
theorem vecM_sum (b : Int) (l : List (List Int)) : vecM (summedM l) b = sumVec (l.map fun v => vecM v b) := by
  unfold summedM
  rw [vecM_fold, vecM_zero, zero_plus]
section
variable {nodes : List MNode} {spans : List MSpan} {b : MBal}
theorem placeV_is (b : MBal) (i : Nat) : placeV b i = vecM (b.at_ i) b.bottom := rfl
theorem ratpos {b : Int} (h : 0 < b) : (b : Rat) ≠ 0 := fun e => by
  have : b = 0 := by exact_mod_cast e
  omega
theorem fb_rat (b : MBal) : (b.fb : Rat) = 1000 * (b.bottom : Rat) := by
  unfold MBal.fb
  push_cast
  rfl
theorem pull_is {own other : Nat} {d : Int} (hb : 0 < b.bottom) : vecM (pullM b own other d) b.fb = pullOf (d : Rat) (placeV b own) (placeV b other) := by
  have h0 := ratpos hb
  unfold vecM pullM pullOf times minus placeV
  have e : ∀ k, k < 3 → ((((List.range 3).map fun k => d * ((b.at_ other).getD k 0 - (b.at_ own).getD k 0)).getD k 0 : Int) : Rat) / (b.fb : Rat) = (d : Rat) / 1000 * (((b.at_ other).getD k 0 : Rat) / (b.bottom : Rat) - ((b.at_ own).getD k 0 : Rat) / (b.bottom : Rat)) := fun k hk => by
    have : ((List.range 3).map fun k => d * ((b.at_ other).getD k 0 - (b.at_ own).getD k 0)).getD k 0 = d * ((b.at_ other).getD k 0 - (b.at_ own).getD k 0) := by
      match k, hk with
      | 0, _ => rfl
      | 1, _ => rfl
      | 2, _ => rfl
    rw [this, fb_rat]
    push_cast
    grind
  rw [e 0 (by decide), e 1 (by decide), e 2 (by decide)]
theorem squares_is {f : List Int} {c : Int} (hf : f.length = 3) (hc : 0 < c) : squares (vecM f c) = (((f.map fun q => q * q).sum : Int) : Rat) / ((c * c : Int) : Rat) := by
  have h0 := ratpos hc
  match f, hf with
  | [x, y, z], _ =>
    show ((x : Rat) / (c : Rat)) * ((x : Rat) / (c : Rat)) + ((y : Rat) / (c : Rat)) * ((y : Rat) / (c : Rat)) + ((z : Rat) / (c : Rat)) * ((z : Rat) / (c : Rat)) = _
    have e : ([x, y, z].map fun q => q * q).sum = x * x + y * y + z * z := by simp; omega
    rw [e]
    push_cast
    grind
/-- the forces -/
theorem forces_is {i : Nat} (N : NetOk nodes spans) (hh : (balancedM nodes spans).hang i = true) : ∀ l : List MSpan, (∀ s ∈ l, s ∈ spans) → sumVec (((drawingM l).map toSpan).filterMap fun (s : Span) => (s.other i).bind fun (j : Nat) => match (absN nodes spans).placeBy (absN nodes spans).laid i, (absN nodes spans).placeBy (absN nodes spans).laid j with
    | some p, some q => some (pullOf s.density p q)
    | _, _ => none) = sumVec ((drawingAtM l i).map fun s => vecM (pullM (balancedM nodes spans) i (otherEndM s i) s.d) (balancedM nodes spans).fb)
  | [], _ => rfl
  | s :: l, hsub => by
    have ih := forces_is N hh l fun t ht => hsub t (List.mem_cons_of_mem _ ht)
    have B := bal_ok N
    unfold drawingM drawingAtM at ih ⊢
    rw [List.filter_cons, List.filter_cons]
    by_cases hd : drawsM s = true
    · rw [if_pos hd, List.map_cons, List.filterMap_cons]
      rw [hd, Bool.true_and]
      obtain ⟨sa, sb, ne, _⟩ := N.span s (hsub s (by simp))
      have key : ∀ j, (toSpan s).other i = some j → ((((toSpan s).other i).bind fun (j : Nat) => match (absN nodes spans).placeBy (absN nodes spans).laid i, (absN nodes spans).placeBy (absN nodes spans).laid j with
        | some p, some q => some (pullOf (toSpan s).density p q)
        | _, _ => none) = if (balancedM nodes spans).hang j = true then some (vecM (pullM (balancedM nodes spans) i j s.d) (balancedM nodes spans).fb) else none) := fun j hj => by
        rw [hj, Option.bind_some, placeBy_is N, placeBy_is N, if_pos hh]
        by_cases hhj : (balancedM nodes spans).hang j = true
        · rw [if_pos hhj, if_pos hhj]
          dsimp only
          rw [pull_is B.pos]
          rfl
        · rw [if_neg hhj, if_neg hhj]
      by_cases h1 : s.a = i
      · have ho : (toSpan s).other i = some s.b := by rw [other_is, if_pos h1]
        have hb := (B.closed s (hsub s (by simp)) hd (Or.inl (by rw [h1]; exact hh))).2
        rw [key _ ho, if_pos hb, if_pos (show (decide (s.a = i) || decide (s.b = i)) = true by rw [decide_eq_true h1]; rfl), List.map_cons]
        show plus _ (sumVec _) = plus _ (sumVec _)
        rw [ih]
        have : otherEndM s i = s.b := by unfold otherEndM; rw [if_pos h1]
        rw [this]
      · by_cases h2 : s.b = i
        · have ho : (toSpan s).other i = some s.a := by rw [other_is, if_neg h1, if_pos h2]
          have hb := (B.closed s (hsub s (by simp)) hd (Or.inr (by rw [h2]; exact hh))).1
          rw [key _ ho, if_pos hb, if_pos (show (decide (s.a = i) || decide (s.b = i)) = true by rw [decide_eq_true h2, Bool.or_true]), List.map_cons]
          show plus _ (sumVec _) = plus _ (sumVec _)
          rw [ih]
          have : otherEndM s i = s.a := by unfold otherEndM; rw [if_neg h1]
          rw [this]
        · have ho : (toSpan s).other i = none := by rw [other_is, if_neg h1, if_neg h2]
          rw [ho, if_neg (show ¬ (decide (s.a = i) || decide (s.b = i)) = true by rw [decide_eq_false h1, decide_eq_false h2]; decide)]
          exact ih
    · rw [if_neg hd, if_neg (by rw [Bool.and_eq_true]; exact fun q => hd q.1)]
      exact ih
theorem force_is (N : NetOk nodes spans) {i : Nat} (hh : (balancedM nodes spans).hang i = true) : (absN nodes spans).force (absN nodes spans).laid i = vecM (forceM (balancedM nodes spans) spans i) (balancedM nodes spans).fb := by
  unfold Net.force Net.pullsBy
  rw [drawing_is]
  refine Eq.trans (forces_is N hh spans fun s hs => hs) ?_
  unfold forceM
  rw [vecM_sum, List.map_map]
  rfl
theorem moment_is {n : MNode} {f : List Int} {c : Int} (hc : 0 < c) : ((vecM f c).x * (vecM f c).x + (vecM f c).y * (vecM f c).y) * ((n.z : Rat) * (n.z : Rat)) = ((momentM n f : Int) : Rat) / ((c * c : Int) : Rat) := by
  have h0 := ratpos hc
  unfold vecM momentM
  push_cast
  grind
theorem moment2_is (N : NetOk nodes spans) {i : Nat} (hi : i < nodes.length) (hf : (nodes.getD i default).fixed = true) : (absN nodes spans).moment2 (absN nodes spans).laid i = ((momentM (nodes.getD i default) (forceM (balancedM nodes spans) spans i) : Int) : Rat) / (((balancedM nodes spans).fb * (balancedM nodes spans).fb : Int) : Rat) := by
  have B := bal_ok N
  have hh : (balancedM nodes spans).hang i = true := B.fix i _ (by simp [List.getD, List.getElem?_eq_getElem hi]) hf
  unfold Net.moment2
  dsimp only
  rw [force_is N hh, placeFixed_is hi hf]
  exact moment_is B.fbpos
theorem bound_is {i : Nat} (N : NetOk nodes spans) (hi : i < nodes.length) (hf : (nodes.getD i default).fixed = true) : ((absN nodes spans).bound i : Int) = (nodes.getD i default).bound := by
  unfold Net.bound
  rw [at_fixed hi hf]
  have := (N.node _ (getD_mem (d := default) hi)).2.1
  exact Int.toNat_of_nonneg this
theorem div_le_iff_ {m c : Rat} (hc : 0 < c) (x : Rat) : m / c ≤ x ↔ m ≤ x * c := by
  constructor
  · intro h
    have h2 := Rat.mul_nonneg (a := x - m / c) (b := c) (by grind) (Rat.le_of_lt hc)
    have h3 : c ≠ 0 := fun e => by rw [e] at hc; exact absurd hc (by decide)
    have : (x - m / c) * c = x * c - m := by grind
    grind
  · intro h
    have h3 : c ≠ 0 := fun e => by rw [e] at hc; exact absurd hc (by decide)
    have h2 := Rat.mul_nonneg (a := x * c - m) (b := c⁻¹) (by grind) (Rat.le_of_lt (Rat.inv_pos.mpr hc))
    have : (x * c - m) * c⁻¹ = x - m / c := by grind
    grind
theorem holds_is (N : NetOk nodes spans) {i : Nat} (hi : i < nodes.length) (hf : (nodes.getD i default).fixed = true) : (absN nodes spans).holds (absN nodes spans).laid i = holdsM (balancedM nodes spans) nodes spans i := by
  have B := bal_ok N
  have hb := bound_is N hi hf
  unfold Net.holds holdsM bearsSoM
  rw [moment2_is N hi hf]
  congr 1
  · rw [Bool.eq_iff_iff, beq_iff_eq, decide_eq_true_eq]
    omega
  · rw [Bool.eq_iff_iff, decide_eq_true_eq, decide_eq_true_eq]
    have hp := Int.mul_pos B.fbpos B.fbpos
    have hpr : (0 : Rat) < (((balancedM nodes spans).fb * (balancedM nodes spans).fb : Int) : Rat) := by exact_mod_cast hp
    rw [div_le_iff_ hpr]
    have e : (((absN nodes spans).bound i * (absN nodes spans).bound i : Nat) : Rat) * (((balancedM nodes spans).fb * (balancedM nodes spans).fb : Int) : Rat) = (((nodes.getD i default).bound * (nodes.getD i default).bound * (balancedM nodes spans).fb * (balancedM nodes spans).fb : Int) : Rat) := by
      have h1 : (((absN nodes spans).bound i : Int) : Rat) = ((nodes.getD i default).bound : Rat) := by rw [hb]
      have h2 : (((absN nodes spans).bound i : Nat) : Rat) = ((nodes.getD i default).bound : Rat) := by rw [← h1]; rfl
      push_cast
      rw [h2]
      grind
    rw [e]
    exact Rat.intCast_le_intCast
end
end Wp

namespace Wp
open OwPull PullSpec
def absNet (N : MNet) : Net := absN N.nodes N.spans
def Agrees (N : MNet) (x : Call) (r : MNet × List Int) : Prop := (PullSpec.step (absNet N) x).1 = absNet r.1 ∧ PullNeutral.told (PullSpec.step (absNet N) x).2 = r.2
theorem nlen (N : MNet) : (absNet N).nodes.length = N.nodes.length := by simp [absNet, absN]
theorem slen (N : MNet) : (absNet N).spans.length = N.spans.length := by simp [absNet, absN]
theorem span_is (N : MNet) (s : Nat) : (absNet N).span s = if isSpanM N.spans s = true then some (toSpan (N.spans.getD s default)) else none := by
  unfold Net.span isSpanM
  show ((N.spans.map absSpan)[s]?).join = _
  rw [List.getElem?_map]
  by_cases h : s < N.spans.length
  · rw [List.getElem?_eq_getElem h, decide_eq_true h, Bool.true_and]
    have e : N.spans.getD s default = N.spans[s] := by simp [List.getD, List.getElem?_eq_getElem h]
    rw [e]
    rfl
  · rw [List.getElem?_eq_none (by omega), decide_eq_false h]
    rfl
theorem span_none (N : MNet) (s : Nat) : (((absNet N).span s).isNone = true) ↔ isSpanM N.spans s = false := by
  rw [span_is]
  cases isSpanM N.spans s <;> simp
abbrev NOk (N : MNet) : Prop := NetOk N.nodes N.spans
abbrev bal (N : MNet) : MBal := balancedM N.nodes N.spans
theorem hung_v3 {N : MNet} (O : NOk N) {i : Nat} (h : (bal N).hang i = true) : ((bal N).at_ i).length = 3 := ((bal_ok O).at_ h).2.len
theorem ask_place {N : MNet} (O : NOk N) (i : Nat) : Agrees N (.place i) (N, placeM N i) := by
  refine ⟨rfl, ?_⟩
  unfold PullSpec.step placeM
  dsimp only
  rw [nlen]
  by_cases h : N.nodes.length ≤ i
  · rw [if_pos h, if_pos h]
    rfl
  · rw [if_neg h, if_neg h]
    unfold Net.place
    have hp := placeBy_is O i
    have hp' : (absNet N).placeBy (absNet N).laid i = _ := hp
    rw [hp']
    by_cases hh : (bal N).hang i = true
    · rw [if_pos hh, if_neg (by rw [hh]; decide)]
      show 0 :: vector (placeV (bal N) i) = _
      rw [placeV_is, vector_is (hung_v3 O hh) (bal_ok O).pos]
    · rw [if_neg hh, if_pos (by simpa using hh)]
      rfl
theorem ask_pull {N : MNet} (O : NOk N) (s : Nat) : Agrees N (.pull s) (N, pullAskM N s) := by
  refine ⟨rfl, ?_⟩
  unfold PullSpec.step pullAskM
  dsimp only
  rw [span_is]
  by_cases h : isSpanM N.spans s = true
  · rw [if_pos h, if_neg (by rw [h]; decide)]
    dsimp only
    generalize hp : N.spans.getD s default = p
    have hd : Bits 20 p.d := by
      have hl : s < N.spans.length := by
        unfold isSpanM at h
        rw [Bool.and_eq_true, decide_eq_true_eq] at h
        exact h.1
      rw [← hp]
      exact (O.span _ (getD_mem hl)).2.2.2.2
    have B := bal_ok O
    unfold Net.place
    have hpa : (absNet N).placeBy (absNet N).laid (toSpan p).a = _ := placeBy_is O p.a
    have hpb : (absNet N).placeBy (absNet N).laid (toSpan p).b = _ := placeBy_is O p.b
    rw [hpa, hpb]
    by_cases ha : (bal N).hang p.a = true
    · by_cases hb : (bal N).hang p.b = true
      · rw [if_pos ha, if_pos hb, if_neg (by rw [ha, hb]; decide)]
        dsimp only
        have hv := (pull_v3 B ha hb hd).len
        have e : pullOf (toSpan p).density (placeV (bal N) p.a) (placeV (bal N) p.b) = vecM (pullM (bal N) p.a p.b p.d) (bal N).fb := (pull_is B.pos).symm
        show 0 :: (vector (pullOf (toSpan p).density (placeV (bal N) p.a) (placeV (bal N) p.b)) ++ fraction (squares (pullOf (toSpan p).density (placeV (bal N) p.a) (placeV (bal N) p.b)))) = _
        rw [e, vector_is hv B.fbpos, squares_is hv B.fbpos, ← toldM_is (Int.mul_pos B.fbpos B.fbpos)]
      · rw [if_pos ha, if_neg hb, if_pos (by rw [ha]; simpa using hb)]
        rfl
    · rw [if_neg ha, if_pos (show ((bal N).hang p.a && (bal N).hang p.b) = false by rw [show (bal N).hang p.a = false by simpa using ha]; rfl)]
      by_cases hb : (bal N).hang p.b = true
      · rw [if_pos hb]; rfl
      · rw [if_neg hb]; rfl
  · rw [if_neg h, if_pos (by simpa using h)]
    rfl
theorem force_len (b : MBal) (spans : List MSpan) (i : Nat) : (forceM b spans i).length = 3 := by
  unfold forceM summedM
  have : ∀ (l : List (List Int)) (a : List Int), a.length = 3 → (l.foldl addV a).length = 3 := by
    intro l
    induction l with
    | nil => intro a h; exact h
    | cons x l ih => intro a h; exact ih _ (by simp [addV])
  exact this _ _ rfl
theorem ask_bears {N : MNet} (O : NOk N) (i : Nat) : Agrees N (.bears i) (N, bearsM N i) := by
  refine ⟨rfl, ?_⟩
  unfold PullSpec.step bearsM
  dsimp only
  rw [nlen]
  by_cases h : N.nodes.length ≤ i
  · rw [if_pos h, if_pos h]
    rfl
  · rw [if_neg h, if_neg h]
    have hi : i < N.nodes.length := by omega
    have hfa : (absNet N).fixedAt i = _ := fixedAt_is N.nodes N.spans hi
    rw [hfa]
    by_cases hf : (N.nodes.getD i default).fixed = false
    · rw [if_pos hf, if_pos hf]
      rfl
    · rw [if_neg hf, if_neg hf]
      have hf' : (N.nodes.getD i default).fixed = true := by simpa using hf
      have B := bal_ok O
      have hh : (bal N).hang i = true := B.fix i _ (by simp [List.getD, List.getElem?_eq_getElem hi]) hf'
      have e1 : (absNet N).holds (absNet N).laid i = _ := holds_is O hi hf'
      have e2 : (absNet N).force (absNet N).laid i = _ := force_is O hh
      have e3 : (absNet N).moment2 (absNet N).laid i = _ := moment2_is O hi hf'
      rw [e1, e2, e3]
      show (if _ then (1 : Int) else 0) :: (vector _ ++ fraction _) = _
      rw [vector_is (force_len _ _ _) B.fbpos, ← toldM_is (Int.mul_pos B.fbpos B.fbpos)]
      rfl
theorem ask_all {N : MNet} (O : NOk N) : Agrees N .all (N, allM N) := by
  refine ⟨rfl, ?_⟩
  unfold PullSpec.step allM
  dsimp only
  have B := bal_ok O
  have e : (absNet N).fixedOnes = (List.range N.nodes.length).filter fun i => (N.nodes.getD i default).fixed := by
    unfold Net.fixedOnes
    rw [nlen]
    exact List.filter_congr fun i hi => fixedAt_is N.nodes N.spans (by simpa using hi)
  rw [e]
  generalize hF : (List.range N.nodes.length).filter (fun i => (N.nodes.getD i default).fixed) = F
  have hm : F.map ((absNet N).force (absNet N).laid) = (F.map (forceM (bal N) N.spans)).map fun v => vecM v (bal N).fb := by
    rw [List.map_map]
    refine List.map_congr_left fun i hi => ?_
    rw [← hF] at hi
    obtain ⟨h1, h2⟩ := List.mem_filter.mp hi
    exact force_is O (B.fix i _ (by have : i < N.nodes.length := by simpa using h1
                                    simp [List.getD, List.getElem?_eq_getElem this]) h2)
  rw [hm, ← vecM_sum]
  show 0 :: vector _ = _
  have hl : (summedM (F.map (forceM (bal N) N.spans))).length = 3 := by
    unfold summedM
    have : ∀ (l : List (List Int)) (a : List Int), a.length = 3 → (l.foldl addV a).length = 3 := by
      intro l
      induction l with
      | nil => intro a h; exact h
      | cons x l ih => intro a h; exact ih _ (by simp [addV])
    exact this _ _ rfl
  rw [vector_is hl B.fbpos]
theorem fixedOnes_is (N : MNet) : (absNet N).fixedOnes = (List.range N.nodes.length).filter fun i => (N.nodes.getD i default).fixed := by
  unfold Net.fixedOnes
  rw [nlen]
  exact List.filter_congr fun i hi => fixedAt_is N.nodes N.spans (by simpa using hi)
theorem ask_counts {N : MNet} (O : NOk N) : Agrees N .counts (N, countsM N) := by
  refine ⟨rfl, ?_⟩
  unfold PullSpec.step countsM
  dsimp only
  rw [nlen, fixedOnes_is]
  have e1 : (absNet N).laid.length = (knotsM N.nodes (bal N).hangs).length := by
    have : (absNet N).laid = _ := laid_is O
    rw [this, List.length_map]
    rfl
  have e2 : ((absNet N).spans.filter Option.isSome).length = (N.spans.filter (·.there)).length := by
    show ((N.spans.map absSpan).filter Option.isSome).length = _
    rw [List.filter_map, List.length_map]
    congr 1
    refine List.filter_congr fun s _ => ?_
    show (absSpan s).isSome = s.there
    unfold absSpan
    cases s.there <;> rfl
  have e3 : (((List.range N.nodes.length).filter fun i => (N.nodes.getD i default).fixed).filter fun (i : Nat) => !(absNet N).holds (absNet N).laid i).length = ((failingM (bal N) N.nodes N.spans).filter id).length := by
    unfold failingM
    rw [List.filter_map, List.length_map, List.filter_filter]
    congr 1
    refine List.filter_congr fun i hi => ?_
    have hi' : i < N.nodes.length := by simpa using hi
    show (!(absNet N).holds (absNet N).laid i && (N.nodes.getD i default).fixed) = ((N.nodes.getD i default).fixed && !holdsM (bal N) N.nodes N.spans i)
    cases hf : (N.nodes.getD i default).fixed with
    | true =>
      have h : (absNet N).holds (absNet N).laid i = _ := holds_is O hi' hf
      rw [h, Bool.and_true, Bool.true_and]
    | false => simp
  rw [e1, e2, e3]
  rfl
/-! ### the first of the greatest -/
theorem mostOf_cons (x : Nat × Rat) (r : List (Nat × Rat)) : mostOf (x :: r) = match mostOf r with
  | some y => if x.2 < y.2 then some y else some x
  | none => some x := rfl
theorem mostOf_val (f : Nat → Rat) : ∀ (l : List Nat) (y : Nat × Rat), mostOf (l.map fun i => (i, f i)) = some y → y.2 = f y.1
  | [], y, h => by cases h
  | b :: l, y, h => by
    rw [List.map_cons, mostOf_cons] at h
    cases hm : mostOf (l.map fun i => (i, f i)) with
    | none => rw [hm] at h; cases h; rfl
    | some z =>
      rw [hm] at h
      dsimp only at h
      split at h
      · rw [← Option.some.inj h]; exact mostOf_val f l z hm
      · rw [← Option.some.inj h]
theorem mostOf_fold (f : Nat → Rat) (st : Nat → Nat → Nat) (hst : ∀ c k, st c k = if f c < f k then k else c) : ∀ (r : List Nat) (c : Nat), r.foldl st c = match mostOf (r.map fun i => (i, f i)) with
    | none => c
    | some y => if f c < y.2 then y.1 else c
  | [], c => rfl
  | a :: r, c => by
    rw [List.foldl_cons, mostOf_fold f st hst r, List.map_cons, mostOf_cons]
    cases hm : mostOf (r.map fun i => (i, f i)) with
    | none =>
      dsimp only
      exact hst c a
    | some y =>
      dsimp only
      rw [hst]
      by_cases h1 : f c < f a
      · rw [if_pos h1]
        by_cases h2 : f a < y.2
        · rw [if_pos h2, if_pos h2]
          dsimp only
          rw [if_pos (show f c < y.2 by grind)]
        · rw [if_neg h2, if_neg h2]
          dsimp only
          rw [if_pos h1]
      · rw [if_neg h1]
        by_cases h2 : f a < y.2
        · rw [if_pos h2]
        · rw [if_neg h2]
          dsimp only
          rw [if_neg (show ¬ f c < y.2 by grind), if_neg h1]
theorem mostOf_is (f : Nat → Rat) (st : Nat → Nat → Nat) (hst : ∀ c k, st c k = if f c < f k then k else c) (i : Nat) (r : List Nat) : mostOf ((i :: r).map fun i => (i, f i)) = some (r.foldl st i, f (r.foldl st i)) := by
  have h := mostOf_fold f st hst r i
  rw [List.map_cons, mostOf_cons]
  cases hm : mostOf (r.map fun i => (i, f i)) with
  | none =>
    rw [hm] at h
    dsimp only at h ⊢
    rw [h]
  | some y =>
    rw [hm] at h
    dsimp only at h ⊢
    have hy := mostOf_val f r y hm
    by_cases h1 : f i < y.2
    · rw [if_pos h1] at h ⊢
      rw [h, ← hy]
    · rw [if_neg h1] at h ⊢
      rw [h]
end Wp

namespace Wp
open OwPull PullSpec
theorem lt_div_iff2 {a b c d : Int} (hb : 0 < b) (hd : 0 < d) : ((a : Rat) / (b : Rat) < (c : Rat) / (d : Rat)) ↔ c * b > a * d := by
  have hbr : (0 : Rat) < (b : Rat) := by exact_mod_cast hb
  have hdr : (0 : Rat) < (d : Rat) := by exact_mod_cast hd
  have h1 : ¬ ((c : Rat) / (d : Rat) ≤ (a : Rat) / (b : Rat)) ↔ ¬ (c * b ≤ a * d) := by
    rw [div_le_iff_ hdr]
    have e : ((c : Rat) ≤ (a : Rat) / (b : Rat) * (d : Rat)) ↔ ((c * b : Int) : Rat) ≤ ((a * d : Int) : Rat) := by
      have hb0 := ratpos hb
      have h2 : (a : Rat) / (b : Rat) * (d : Rat) = ((a * d : Int) : Rat) / (b : Rat) := by push_cast; grind
      rw [h2]
      have h3 := div_le_iff_ (m := - ((a * d : Int) : Rat)) hbr (- (c : Rat))
      have h4 : - ((a * d : Int) : Rat) / (b : Rat) = - (((a * d : Int) : Rat) / (b : Rat)) := by grind
      rw [h4] at h3
      have h5 : ((c * b : Int) : Rat) = (c : Rat) * (b : Rat) := by push_cast; rfl
      rw [h5]
      constructor
      · intro q
        have := h3.mp (by grind)
        grind
      · intro q
        have := h3.mpr (by grind)
        grind
    rw [e, Rat.intCast_le_intCast]
  rw [Rat.not_le] at h1
  rw [h1]
  omega
theorem fold_pair (g : Nat → Int × Int) : ∀ (r : List Nat) (c : Nat), r.foldl (worstStep g) (c, g c) = (r.foldl (fun c k => if (g k).1 * (g c).2 > (g c).1 * (g k).2 then k else c) c, g (r.foldl (fun c k => if (g k).1 * (g c).2 > (g c).1 * (g k).2 then k else c) c))
  | [], c => rfl
  | k :: r, c => by
    rw [List.foldl_cons, List.foldl_cons]
    have e : worstStep g (c, g c) k = ((if (g k).1 * (g c).2 > (g c).1 * (g k).2 then k else c), g (if (g k).1 * (g c).2 > (g c).1 * (g k).2 then k else c)) := by
      unfold worstStep
      dsimp only
      split <;> rfl
    rw [e]
    exact fold_pair g r _
theorem foldl_congr_mem {α β : Type} (P : β → Prop) {f g : β → α → β} : ∀ (l : List α) (b : β), P b → (∀ b a, a ∈ l → P b → f b a = g b a ∧ P (f b a)) → l.foldl f b = l.foldl g b
  | [], _, _, _ => rfl
  | a :: l, b, hb, h => by
    rw [List.foldl_cons, List.foldl_cons]
    obtain ⟨h1, h2⟩ := h b a (by simp) hb
    rw [← h1]
    exact foldl_congr_mem P l _ h2 fun c x hx hc => h c x (List.mem_cons_of_mem _ hx) hc
theorem ask_worst {N : MNet} (O : NOk N) : Agrees N .worst (N, worstM N) := by
  refine ⟨rfl, ?_⟩
  unfold PullSpec.step
  dsimp only
  have B := bal_ok O
  have hfb := B.fbpos
  have e0 : (absNet N).worst = mostOf ((boundedM N.nodes).map fun (i : Nat) => (i, (absNet N).moment2 (absNet N).laid i / (((absNet N).bound i * (absNet N).bound i : Nat) : Rat))) := by
    unfold Net.worst
    dsimp only
    rw [fixedOnes_is, List.filter_filter]
    congr 2
    unfold boundedM
    refine List.filter_congr fun i hi => ?_
    have hi' : i < N.nodes.length := by simpa using hi
    cases hf : (N.nodes.getD i default).fixed with
    | false => simp
    | true =>
      have hb : (((absNet N).bound i : Nat) : Int) = _ := bound_is O hi' hf
      rw [Bool.and_true, Bool.true_and, Bool.eq_iff_iff, bne_iff_ne, decide_eq_true_eq]
      omega
  rw [e0]
  have key : ∀ i ∈ boundedM N.nodes, (absNet N).moment2 (absNet N).laid i / (((absNet N).bound i * (absNet N).bound i : Nat) : Rat) = ((strainM (bal N) N.nodes N.spans i).1 : Rat) / ((strainM (bal N) N.nodes N.spans i).2 : Rat) ∧ 0 < (strainM (bal N) N.nodes N.spans i).2 := fun i hi => by
    unfold boundedM at hi
    obtain ⟨h1, h2⟩ := List.mem_filter.mp hi
    rw [Bool.and_eq_true, decide_eq_true_eq] at h2
    have hi' : i < N.nodes.length := by simpa using h1
    have hb : (((absNet N).bound i : Nat) : Int) = _ := bound_is O hi' h2.1
    have hm : (absNet N).moment2 (absNet N).laid i = _ := moment2_is O hi' h2.1
    unfold strainM
    dsimp only
    have hbp : 0 < (N.nodes.getD i default).bound := h2.2
    refine ⟨?_, Int.mul_pos (Int.mul_pos hfb hbp) (Int.mul_pos hfb hbp)⟩
    rw [hm]
    have h1r : (((absNet N).bound i : Nat) : Rat) = ((N.nodes.getD i default).bound : Rat) := by
      have : ((((absNet N).bound i : Nat) : Int) : Rat) = ((N.nodes.getD i default).bound : Rat) := by rw [hb]
      exact this
    have f0 := ratpos hfb
    have b0 := ratpos hbp
    push_cast
    rw [h1r]
    grind
  unfold worstM
  cases hB : boundedM N.nodes with
  | nil => rfl
  | cons i r =>
    rw [hB] at key
    dsimp only
    have hmap : (i :: r).map (fun (i : Nat) => (i, (absNet N).moment2 (absNet N).laid i / (((absNet N).bound i * (absNet N).bound i : Nat) : Rat))) = (i :: r).map (fun (i : Nat) => (i, ((strainM (bal N) N.nodes N.spans i).1 : Rat) / ((strainM (bal N) N.nodes N.spans i).2 : Rat))) := List.map_congr_left fun k hk => by rw [(key k hk).1]
    rw [hmap, mostOf_is (fun i => ((strainM (bal N) N.nodes N.spans i).1 : Rat) / ((strainM (bal N) N.nodes N.spans i).2 : Rat)) (fun c k => if ((strainM (bal N) N.nodes N.spans c).1 : Rat) / ((strainM (bal N) N.nodes N.spans c).2 : Rat) < ((strainM (bal N) N.nodes N.spans k).1 : Rat) / ((strainM (bal N) N.nodes N.spans k).2 : Rat) then k else c) (fun _ _ => rfl)]
    rw [List.foldl_cons]
    have e1 : worstStep (strainM (bal N) N.nodes N.spans) (i, strainM (bal N) N.nodes N.spans i) i = (i, strainM (bal N) N.nodes N.spans i) := by
      unfold worstStep
      dsimp only
      split <;> rfl
    rw [e1, fold_pair]
    have hc : r.foldl (fun c k => if ((strainM (bal N) N.nodes N.spans c).1 : Rat) / ((strainM (bal N) N.nodes N.spans c).2 : Rat) < ((strainM (bal N) N.nodes N.spans k).1 : Rat) / ((strainM (bal N) N.nodes N.spans k).2 : Rat) then k else c) i = r.foldl (fun c k => if (strainM (bal N) N.nodes N.spans k).1 * (strainM (bal N) N.nodes N.spans c).2 > (strainM (bal N) N.nodes N.spans c).1 * (strainM (bal N) N.nodes N.spans k).2 then k else c) i := by
      refine foldl_congr_mem (fun c => c ∈ i :: r) r i (by simp) fun c k hk hc => ⟨?_, ?_⟩
      · have q := lt_div_iff2 (a := (strainM (bal N) N.nodes N.spans c).1) (c := (strainM (bal N) N.nodes N.spans k).1) (key c hc).2 (key k (List.mem_cons_of_mem _ hk)).2
        by_cases h : (strainM (bal N) N.nodes N.spans k).1 * (strainM (bal N) N.nodes N.spans c).2 > (strainM (bal N) N.nodes N.spans c).1 * (strainM (bal N) N.nodes N.spans k).2
        · rw [if_pos h, if_pos (q.mpr h)]
        · rw [if_neg h, if_neg (fun x => h (q.mp x))]
      · split
        · exact List.mem_cons_of_mem _ hk
        · exact hc
    have hcm : r.foldl (fun c k => if (strainM (bal N) N.nodes N.spans k).1 * (strainM (bal N) N.nodes N.spans c).2 > (strainM (bal N) N.nodes N.spans c).1 * (strainM (bal N) N.nodes N.spans k).2 then k else c) i ∈ i :: r := by
      have gen : ∀ (l : List Nat) (c : Nat), c ∈ i :: r → (∀ x ∈ l, x ∈ i :: r) → l.foldl (fun c k => if (strainM (bal N) N.nodes N.spans k).1 * (strainM (bal N) N.nodes N.spans c).2 > (strainM (bal N) N.nodes N.spans c).1 * (strainM (bal N) N.nodes N.spans k).2 then k else c) c ∈ i :: r := by
        intro l
        induction l with
        | nil => intro c h _; exact h
        | cons x l ih =>
          intro c h hl
          rw [List.foldl_cons]
          refine ih _ ?_ fun y hy => hl y (List.mem_cons_of_mem _ hy)
          split
          · exact hl x (by simp)
          · exact h
      exact gen r i (by simp) fun x hx => List.mem_cons_of_mem _ hx
    rw [hc]
    generalize r.foldl (fun c k => if (strainM (bal N) N.nodes N.spans k).1 * (strainM (bal N) N.nodes N.spans c).2 > (strainM (bal N) N.nodes N.spans c).1 * (strainM (bal N) N.nodes N.spans k).2 then k else c) i = c at hcm
    show (c : Int) :: fraction _ = (c : Int) :: toldM _ _
    rw [toldM_is (key c hcm).2]
theorem ask_lowest {N : MNet} (O : NOk N) : Agrees N .lowest (N, lowestM N) := by
  refine ⟨rfl, ?_⟩
  unfold PullSpec.step
  dsimp only
  have B := bal_ok O
  have hb := B.pos
  have hbr : (0 : Rat) < ((bal N).bottom : Rat) := by exact_mod_cast hb
  have hl : (absNet N).laid = _ := laid_is O
  have e0 : (absNet N).lowest = (mostOf ((kn N.nodes N.spans).map fun (i : Nat) => (i, -(((bal N).at_ i).getD 2 0 : Rat) / ((bal N).bottom : Rat)))).map fun (x : Nat × Rat) => (x.1, -x.2) := by
    unfold Net.lowest
    rw [hl, List.map_map]
    congr 2
    refine List.map_congr_left fun i hi => ?_
    show (i, -((((bal N).at_ i).getD 2 0 : Rat) / ((bal N).bottom : Rat))) = _
    congr 1
    grind
  rw [e0]
  unfold lowestM
  dsimp only
  show _ = (match kn N.nodes N.spans with
    | [] => [-7]
    | i :: r => _)
  cases hK : kn N.nodes N.spans with
  | nil => rfl
  | cons i r =>
    rw [mostOf_is (fun i => -(((bal N).at_ i).getD 2 0 : Rat) / ((bal N).bottom : Rat)) (fun c k => if ((bal N).at_ k).getD 2 0 < ((bal N).at_ c).getD 2 0 then k else c) (fun c k => ?_)]
    · dsimp only
      rw [List.foldl_cons, if_neg (Int.lt_irrefl _)]
      generalize r.foldl (fun c k => if ((bal N).at_ k).getD 2 0 < ((bal N).at_ c).getD 2 0 then k else c) i = c
      show (c : Int) :: fraction (-(-(((bal N).at_ c).getD 2 0 : Rat) / ((bal N).bottom : Rat))) = _
      rw [toldM_is hb]
      congr 2
      grind
    · have q := lt_div_iff2 (a := -((bal N).at_ c).getD 2 0) (c := -((bal N).at_ k).getD 2 0) hb hb
      have e1 : ((-((bal N).at_ c).getD 2 0 : Int) : Rat) = -(((bal N).at_ c).getD 2 0 : Rat) := by push_cast; rfl
      have e2 : ((-((bal N).at_ k).getD 2 0 : Int) : Rat) = -(((bal N).at_ k).getD 2 0 : Rat) := by push_cast; rfl
      rw [e1, e2] at q
      have h3 : (-((bal N).at_ k).getD 2 0 * (bal N).bottom > -((bal N).at_ c).getD 2 0 * (bal N).bottom) ↔ ((bal N).at_ k).getD 2 0 < ((bal N).at_ c).getD 2 0 := by
        constructor
        · intro h
          have := Int.lt_of_mul_lt_mul_right h (Int.le_of_lt hb)
          omega
        · intro h
          exact Int.mul_lt_mul_of_pos_right (by omega) hb
      rw [h3] at q
      by_cases h : ((bal N).at_ k).getD 2 0 < ((bal N).at_ c).getD 2 0
      · rw [if_pos h, if_pos (q.mpr h)]
      · rw [if_neg h, if_neg (fun x => h (q.mp x))]
end Wp

namespace Wp
open OwPull PullSpec
/-! ### changes -/
theorem far_is (z : Int) : far z = !partOk z := by
  unfold far partOk
  rw [Bool.eq_iff_iff]
  simp
theorem farAny_is (x y z : Int) : farAny x y z = !vecOk x y z := by
  unfold farAny vecOk
  rw [far_is, far_is, far_is]
  cases partOk x <;> cases partOk y <;> cases partOk z <;> rfl
theorem most_is {b : Int} (h : 0 ≤ b) : MOST < b.toNat ↔ strOk b = false := by
  have h2 : MOST < b.toNat ↔ 999999 < b := by
    show 999999 < b.toNat ↔ _
    omega
  rw [h2]
  unfold strOk
  rw [Bool.and_eq_false_iff, decide_eq_false_iff_not, decide_eq_false_iff_not]
  omega
theorem vec_fixed {x y z b : Int} : absNode ⟨true, x, y, z, b⟩ = .fixed (vec x y z) b.toNat := rfl
theorem vec_free {x y z b : Int} : absNode ⟨false, x, y, z, b⟩ = .free (vec x y z) := rfl
theorem abs_add (N : MNet) (n : MNode) : absNet { N with nodes := N.nodes ++ [n] } = { absNet N with nodes := (absNet N).nodes ++ [absNode n] } := by
  simp [absNet, absN]
theorem add_agrees (N : MNet) (n : MNode) : (if NODES ≤ (absNet N).nodes.length then (absNet N, says (-6)) else ({ absNet N with nodes := (absNet N).nodes ++ [absNode n] }, says ((absNet N).nodes.length : Int))) = (absNet (addNodeM N n).1, says ((addNodeM N n).2.headD 0)) ∧ PullNeutral.told (says ((addNodeM N n).2.headD 0)) = (addNodeM N n).2 := by
  unfold addNodeM
  rw [nlen]
  by_cases h : 24 ≤ N.nodes.length
  · rw [if_pos (show NODES ≤ N.nodes.length from h), if_pos (show N.nodes.length ≥ 24 from h)]
    exact ⟨rfl, rfl⟩
  · rw [if_neg (show ¬ NODES ≤ N.nodes.length from h), if_neg (show ¬ N.nodes.length ≥ 24 from h)]
    dsimp only
    rw [abs_add]
    exact ⟨rfl, rfl⟩
theorem ch_fix (N : MNet) {x y z b : Int} (hb : 0 ≤ b) : Agrees N (.fix x y z b.toNat) (fixM N x y z b) := by
  unfold Agrees PullSpec.step fixM
  dsimp only
  rw [farAny_is]
  by_cases h : (vecOk x y z && strOk b) = false
  · have hc : (!vecOk x y z) = true ∨ MOST < b.toNat := by
      rw [most_is hb]
      rw [Bool.and_eq_false_iff] at h
      exact h.imp (fun q => by rw [q]; rfl) id
    rw [if_pos hc, if_pos h]
    exact ⟨rfl, rfl⟩
  · have hc : ¬ ((!vecOk x y z) = true ∨ MOST < b.toNat) := by
      rw [most_is hb]
      rw [Bool.not_eq_false, Bool.and_eq_true] at h
      rw [h.1, h.2]
      simp
    rw [if_neg hc, if_neg h]
    obtain ⟨h1, h2⟩ := add_agrees N ⟨true, x, y, z, b⟩
    rw [vec_fixed] at h1
    rw [h1]
    exact ⟨rfl, h2⟩
theorem ch_free (N : MNet) {x y z : Int} : Agrees N (.free x y z) (freeM N x y z) := by
  unfold Agrees PullSpec.step freeM
  dsimp only
  rw [farAny_is]
  by_cases h : vecOk x y z = false
  · rw [if_pos (by rw [h]; rfl), if_pos h]
    exact ⟨rfl, rfl⟩
  · rw [if_neg (by simpa using h), if_neg h]
    obtain ⟨h1, h2⟩ := add_agrees N ⟨false, x, y, z, 0⟩
    rw [vec_free] at h1
    rw [h1]
    exact ⟨rfl, h2⟩
theorem toNat_rat {d : Int} (h : 0 ≤ d) : ((d.toNat : Nat) : Rat) = (d : Rat) := by
  have : ((d.toNat : Int) : Rat) = (d : Rat) := by rw [Int.toNat_of_nonneg h]
  exact this
theorem ch_span (N : MNet) {a b : Nat} {d : Int} (hd : 0 ≤ d) : Agrees N (.span a b d.toNat) (leadM N a b d) := by
  unfold Agrees PullSpec.step leadM
  dsimp only
  rw [nlen, slen]
  by_cases h : (decide (a = b) || !strOk d) = true
  · have hc : MOST < d.toNat ∨ a = b := by
      rw [most_is hd]
      rw [Bool.or_eq_true, decide_eq_true_eq] at h
      exact h.symm.imp (fun q => by simpa using q) id
    rw [if_pos hc, if_pos h]
    exact ⟨rfl, rfl⟩
  · have hc : ¬ (MOST < d.toNat ∨ a = b) := by
      rw [most_is hd]
      intro q
      apply h
      rw [Bool.or_eq_true, decide_eq_true_eq]
      exact q.symm.imp id fun q => by rw [q]; rfl
    rw [if_neg hc, if_neg h]
    by_cases h2 : (decide (a < N.nodes.length) && decide (b < N.nodes.length)) = false
    · have hc2 : N.nodes.length ≤ a ∨ N.nodes.length ≤ b := by
        rw [Bool.and_eq_false_iff, decide_eq_false_iff_not, decide_eq_false_iff_not] at h2
        omega
      rw [if_pos hc2, if_pos h2]
      exact ⟨rfl, rfl⟩
    · have hc2 : ¬ (N.nodes.length ≤ a ∨ N.nodes.length ≤ b) := by
        rw [Bool.not_eq_false, Bool.and_eq_true, decide_eq_true_eq, decide_eq_true_eq] at h2
        omega
      rw [if_neg hc2, if_neg h2]
      by_cases h3 : 40 ≤ N.spans.length
      · rw [if_pos (show SPANS ≤ N.spans.length from h3), if_pos (show N.spans.length ≥ 40 from h3)]
        exact ⟨rfl, rfl⟩
      · rw [if_neg (show ¬ SPANS ≤ N.spans.length from h3), if_neg (show ¬ N.spans.length ≥ 40 from h3)]
        dsimp only
        refine ⟨?_, rfl⟩
        rw [toNat_rat hd]
        show _ = absN N.nodes (N.spans ++ [⟨a, b, d, true⟩])
        unfold absN
        rw [List.map_append]
        rfl
theorem isSpan_lt {spans : List MSpan} {s : Nat} (h : isSpanM spans s = true) : s < spans.length ∧ (spans.getD s default).there = true := by
  unfold isSpanM at h
  rw [Bool.and_eq_true, decide_eq_true_eq] at h
  exact h
theorem tuned_is (N : MNet) {s : Nat} {d : Int} (hd : 0 ≤ d) (h : isSpanM N.spans s = true) : (absNet N).tuned s ((d.toNat : Nat) : Rat) = absN N.nodes (withDensityM N.spans s d) := by
  obtain ⟨hl, ht⟩ := isSpan_lt h
  rw [toNat_rat hd]
  unfold Net.tuned absNet absN
  dsimp only
  congr 1
  have e : N.spans.getD s default = N.spans[s] := by simp [List.getD, List.getElem?_eq_getElem hl]
  rw [e] at ht
  unfold withDensityM
  rw [e]
  refine List.ext_getElem? fun i => ?_
  rw [List.getElem?_modify, List.getElem?_map, List.getElem?_map, List.getElem?_set]
  by_cases hi : s = i
  · subst hi
    rw [if_pos rfl, if_pos hl, List.getElem?_eq_getElem hl]
    show some ((fun a => if s = s then Option.map (fun y : Span => ({ y with density := (d : Rat) } : Span)) a else a) (absSpan N.spans[s])) = some (absSpan ⟨N.spans[s].a, N.spans[s].b, d, true⟩)
    dsimp only
    rw [if_pos rfl]
    unfold absSpan
    rw [if_pos ht, if_pos rfl]
    rfl
  · rw [if_neg hi]
    cases N.spans[i]? with
    | none => rfl
    | some x =>
      show some (if s = i then _ else absSpan x) = some (absSpan x)
      rw [if_neg hi]
theorem without_is (N : MNet) {s : Nat} (h : isSpanM N.spans s = true) : (absNet N).without s = absN N.nodes (withoutM N.spans s) := by
  unfold Net.without absNet absN
  dsimp only
  congr 1
  unfold withoutM
  rw [List.map_set]
  rfl
theorem ch_tune (N : MNet) {s : Nat} {d : Int} (hd : 0 ≤ d) : Agrees N (.tune s d.toNat) (tuneM N s d) := by
  unfold Agrees PullSpec.step tuneM
  dsimp only
  by_cases h : strOk d = false
  · rw [if_pos ((most_is hd).mpr h), if_pos h]
    exact ⟨rfl, rfl⟩
  · rw [if_neg (fun q => h ((most_is hd).mp q)), if_neg h]
    by_cases h2 : isSpanM N.spans s = false
    · rw [if_pos ((span_none N s).mpr h2), if_pos h2]
      exact ⟨rfl, rfl⟩
    · rw [if_neg (fun q => h2 ((span_none N s).mp q)), if_neg h2]
      exact ⟨tuned_is N hd (by simpa using h2), rfl⟩
theorem ch_cut (N : MNet) {s : Nat} : Agrees N (.cut s) (cutM N s) := by
  unfold Agrees PullSpec.step cutM
  dsimp only
  by_cases h2 : isSpanM N.spans s = false
  · rw [if_pos ((span_none N s).mpr h2), if_pos h2]
    exact ⟨rfl, rfl⟩
  · rw [if_neg (fun q => h2 ((span_none N s).mp q)), if_neg h2]
    exact ⟨without_is N (by simpa using h2), rfl⟩
theorem abs_setNode (N : MNet) (i : Nat) (n : MNode) : absNet { N with nodes := N.nodes.set i n } = { absNet N with nodes := (absNet N).nodes.set i (absNode n) } := by
  unfold absNet absN
  dsimp only
  rw [List.map_set]
theorem ch_load (N : MNet) {i : Nat} {x y z : Int} : Agrees N (.load i x y z) (loadM N i x y z) := by
  unfold Agrees PullSpec.step loadM
  dsimp only
  rw [farAny_is, nlen]
  by_cases h : vecOk x y z = false
  · rw [if_pos (by rw [h]; rfl), if_pos h]
    exact ⟨rfl, rfl⟩
  · rw [if_neg (by simpa using h), if_neg h]
    by_cases h2 : N.nodes.length ≤ i
    · rw [if_pos h2, if_pos h2]
      exact ⟨rfl, rfl⟩
    · rw [if_neg h2, if_neg h2]
      have hf : (absNet N).fixedAt i = _ := fixedAt_is N.nodes N.spans (show i < N.nodes.length by omega)
      rw [hf]
      by_cases h3 : (N.nodes.getD i default).fixed = true
      · rw [if_pos h3, if_pos h3]
        exact ⟨rfl, rfl⟩
      · rw [if_neg h3, if_neg h3]
        refine ⟨?_, rfl⟩
        dsimp only
        rw [abs_setNode, vec_free]
theorem ch_shift (N : MNet) {i : Nat} {x y z : Int} : Agrees N (.shift i x y z) (shiftM N i x y z) := by
  unfold Agrees PullSpec.step shiftM
  dsimp only
  rw [farAny_is]
  by_cases h : vecOk x y z = false
  · rw [if_pos (by rw [h]; rfl), if_pos h]
    exact ⟨rfl, rfl⟩
  · rw [if_neg (by simpa using h), if_neg h]
    have hg : (absNet N).nodes[i]? = (N.nodes[i]?).map absNode := node_get N.nodes N.spans i
    rw [hg]
    by_cases h2 : N.nodes.length ≤ i
    · rw [if_pos h2, List.getElem?_eq_none h2]
      exact ⟨rfl, rfl⟩
    · rw [if_neg h2]
      have hi : i < N.nodes.length := by omega
      rw [List.getElem?_eq_getElem hi]
      have e : N.nodes.getD i default = N.nodes[i] := by simp [List.getD, List.getElem?_eq_getElem hi]
      rw [e]
      by_cases h3 : N.nodes[i].fixed = false
      · rw [if_pos h3]
        have : absNode N.nodes[i] = .free ⟨(N.nodes[i].x : Rat), (N.nodes[i].y : Rat), (N.nodes[i].z : Rat)⟩ := by
          unfold absNode
          rw [if_neg (by rw [h3]; decide)]
        simp only [Option.map_some]
        rw [this]
        exact ⟨rfl, rfl⟩
      · rw [if_neg h3]
        have : absNode N.nodes[i] = .fixed ⟨(N.nodes[i].x : Rat), (N.nodes[i].y : Rat), (N.nodes[i].z : Rat)⟩ N.nodes[i].bound.toNat := by
          unfold absNode
          rw [if_pos (by simpa using h3)]
        simp only [Option.map_some]
        rw [this]
        refine ⟨?_, rfl⟩
        dsimp only
        rw [abs_setNode, vec_fixed]
/-! ### would, breaks -/
theorem strOk_b {d : Int} (h : strOk d = true) : 0 ≤ d ∧ Bits 20 d := by
  unfold strOk at h
  rw [Bool.and_eq_true, decide_eq_true_eq, decide_eq_true_eq] at h
  exact ⟨h.1, Bits.of_le (m := 999999) (by omega) (by decide)⟩
theorem netok_set {nodes : List MNode} {l : List MSpan} (N : NetOk nodes l) {s : Nat} (h2 : s < l.length) {x : MSpan} (ha : x.a = (l.getD s default).a) (hb : x.b = (l.getD s default).b) (hd : 0 ≤ x.d ∧ Bits 20 x.d) : NetOk nodes (l.set s x) := by
  refine ⟨N.nl, by rw [List.length_set]; exact N.sl, N.node, fun y hy => ?_⟩
  rcases List.mem_or_eq_of_mem_set hy with h | rfl
  · exact N.span y h
  · obtain ⟨a, b, c, _⟩ := N.span _ (getD_mem (d := default) h2)
    rw [ha, hb]
    exact ⟨a, b, c, hd.1, hd.2⟩
theorem netok_with {N : MNet} (O : NOk N) {s : Nat} (hs : isSpanM N.spans s = true) {d : Int} (hd : strOk d = true) : NetOk N.nodes (withDensityM N.spans s d) := netok_set O (isSpan_lt hs).1 rfl rfl (strOk_b hd)
theorem netok_without {N : MNet} (O : NOk N) {s : Nat} (hs : isSpanM N.spans s = true) : NetOk N.nodes (withoutM N.spans s) := netok_set O (isSpan_lt hs).1 rfl rfl ⟨Int.le_refl 0, Bits.zero _⟩
theorem ask_would {N : MNet} (O : NOk N) {s i : Nat} {d : Int} (hd : 0 ≤ d) : Agrees N (.would s d.toNat i) (N, wouldM N s d i) := by
  refine ⟨rfl, ?_⟩
  unfold PullSpec.step wouldM
  dsimp only
  rw [nlen]
  by_cases h : strOk d = false
  · rw [if_pos ((most_is hd).mpr h), if_pos h]
    rfl
  · rw [if_neg (fun q => h ((most_is hd).mp q)), if_neg h]
    have hd' : strOk d = true := by simpa using h
    by_cases h2 : (isSpanM N.spans s && decide (i < N.nodes.length)) = false
    · have hc : ((absNet N).span s).isNone = true ∨ N.nodes.length ≤ i := by
        rw [span_none]
        rw [Bool.and_eq_false_iff, decide_eq_false_iff_not] at h2
        exact h2.imp id fun q => by omega
      rw [if_pos hc, if_pos h2]
      rfl
    · rw [Bool.not_eq_false, Bool.and_eq_true, decide_eq_true_eq] at h2
      obtain ⟨hs, hi⟩ := h2
      have hc : ¬ (((absNet N).span s).isNone = true ∨ N.nodes.length ≤ i) := by
        rw [span_none, hs]
        simp
        omega
      rw [if_neg hc, if_neg (by rw [hs, decide_eq_true hi]; decide)]
      rw [tuned_is N hd hs]
      have O2 := netok_with O hs hd'
      have B := bal_ok O
      have B2 := bal_ok O2
      have h1 : (absNet N).place i = _ := placeBy_is O i
      have h2 : (absN N.nodes (withDensityM N.spans s d)).place i = _ := placeBy_is O2 i
      rw [h1, h2]
      by_cases ha : (balancedM N.nodes N.spans).hang i = true
      · by_cases hb : (balancedM N.nodes (withDensityM N.spans s d)).hang i = true
        · rw [if_pos ha, if_pos hb, if_neg (by rw [ha, hb]; decide)]
          dsimp only
          show 0 :: vector (minus (placeV (balancedM N.nodes (withDensityM N.spans s d)) i) (placeV (balancedM N.nodes N.spans) i)) = _
          have e : minus (placeV (balancedM N.nodes (withDensityM N.spans s d)) i) (placeV (balancedM N.nodes N.spans) i) = vecM ((List.range 3).map fun k => ((balancedM N.nodes (withDensityM N.spans s d)).at_ i).getD k 0 * (balancedM N.nodes N.spans).bottom - ((balancedM N.nodes N.spans).at_ i).getD k 0 * (balancedM N.nodes (withDensityM N.spans s d)).bottom) ((balancedM N.nodes N.spans).bottom * (balancedM N.nodes (withDensityM N.spans s d)).bottom) := by
            have r1 := ratpos B.pos
            have r2 := ratpos B2.pos
            unfold minus placeV vecM
            have hk : ∀ k, k < 3 → ((List.range 3).map fun k => ((balancedM N.nodes (withDensityM N.spans s d)).at_ i).getD k 0 * (balancedM N.nodes N.spans).bottom - ((balancedM N.nodes N.spans).at_ i).getD k 0 * (balancedM N.nodes (withDensityM N.spans s d)).bottom).getD k 0 = ((balancedM N.nodes (withDensityM N.spans s d)).at_ i).getD k 0 * (balancedM N.nodes N.spans).bottom - ((balancedM N.nodes N.spans).at_ i).getD k 0 * (balancedM N.nodes (withDensityM N.spans s d)).bottom := fun k hk => by
              match k, hk with
              | 0, _ => rfl
              | 1, _ => rfl
              | 2, _ => rfl
            have hr : ∀ p q r t : Int, (r : Rat) ≠ 0 → (t : Rat) ≠ 0 → (p : Rat) / (t : Rat) - (q : Rat) / (r : Rat) = ((p * r - q * t : Int) : Rat) / ((r * t : Int) : Rat) := fun p q r t hr ht => by
              push_cast
              grind
            rw [hk 0 (by decide), hk 1 (by decide), hk 2 (by decide), hr _ _ _ _ r1 r2, hr _ _ _ _ r1 r2, hr _ _ _ _ r1 r2]
          rw [e, vector_is (by simp) (Int.mul_pos B.pos B2.pos)]
        · rw [if_pos ha, if_neg hb, if_pos (by rw [ha, show (balancedM N.nodes (withDensityM N.spans s d)).hang i = false by simpa using hb]; rfl)]
          rfl
      · rw [if_neg ha, if_pos (show ((balancedM N.nodes N.spans).hang i && (balancedM N.nodes (withDensityM N.spans s d)).hang i) = false by rw [show (balancedM N.nodes N.spans).hang i = false by simpa using ha]; rfl)]
        by_cases hb : (balancedM N.nodes (withDensityM N.spans s d)).hang i = true
        · rw [if_pos hb]; rfl
        · rw [if_neg hb]; rfl
theorem loose_filter {N : MNet} (O : NOk N) : (absNet N).loose = (List.range N.nodes.length).filter fun i => (bal N).hang i && !(N.nodes.getD i default).fixed := loose_is (net_ends O)
theorem ask_breaks {N : MNet} (O : NOk N) (s : Nat) : Agrees N (.breaks s) (N, breaksM N s) := by
  refine ⟨rfl, ?_⟩
  unfold PullSpec.step breaksM
  dsimp only
  by_cases h2 : isSpanM N.spans s = false
  · rw [if_pos ((span_none N s).mpr h2), if_pos h2]
    rfl
  · rw [if_neg (fun q => h2 ((span_none N s).mp q)), if_neg h2]
    have hs : isSpanM N.spans s = true := by simpa using h2
    have O2 := netok_without O hs
    have B := bal_ok O
    have B2 := bal_ok O2
    have lo2 : (absN N.nodes (withoutM N.spans s)).loose = _ := loose_filter (N := ⟨N.nodes, withoutM N.spans s⟩) O2
    have e1 : (absNet N).falls s = (List.range N.nodes.length).filter fun i => (bal N).hang i && !(balancedM N.nodes (withoutM N.spans s)).hang i := by
      unfold Net.falls
      dsimp only
      rw [without_is N hs, loose_filter O, lo2, List.filter_filter]
      refine List.filter_congr fun i hi => ?_
      have hi' : i < N.nodes.length := by simpa using hi
      rw [contains_filter, decide_eq_true hi', Bool.true_and]
      cases hf : (N.nodes.getD i default).fixed with
      | true =>
        have h1 : (bal N).hang i = true := B.fix i _ (by simp [List.getD, List.getElem?_eq_getElem hi']) hf
        have h2 : (balancedM N.nodes (withoutM N.spans s)).hang i = true := B2.fix i _ (by simp [List.getD, List.getElem?_eq_getElem hi']) hf
        rw [h1, h2]
        simp
      | false =>
        show (!((balancedM N.nodes (withoutM N.spans s)).hang i && !false) && ((bal N).hang i && !false)) = _
        cases (balancedM N.nodes (withoutM N.spans s)).hang i <;> cases (bal N).hang i <;> rfl
    have e2 : (absNet N).gives s = (List.range N.nodes.length).filter fun i => (failingM (balancedM N.nodes (withoutM N.spans s)) N.nodes (withoutM N.spans s)).getD i false && !(failingM (bal N) N.nodes N.spans).getD i false := by
      unfold Net.gives
      dsimp only
      rw [without_is N hs, fixedOnes_is, List.filter_filter]
      refine List.filter_congr fun i hi => ?_
      have hi' : i < N.nodes.length := by simpa using hi
      have g : ∀ (b : MBal) (sp : List MSpan), (failingM b N.nodes sp).getD i false = ((N.nodes.getD i default).fixed && !holdsM b N.nodes sp i) := fun b sp => by
        unfold failingM
        simp [List.getD, hi']
      rw [g, g]
      cases hf : (N.nodes.getD i default).fixed with
      | true =>
        have h1 : (absNet N).holds (absNet N).laid i = _ := holds_is O hi' hf
        have h2 : (absN N.nodes (withoutM N.spans s)).holds (absN N.nodes (withoutM N.spans s)).laid i = _ := holds_is O2 hi' hf
        rw [h1, h2]
        cases holdsM (balancedM N.nodes N.spans) N.nodes N.spans i <;> cases holdsM (balancedM N.nodes (withoutM N.spans s)) N.nodes (withoutM N.spans s) i <;> rfl
      | false => simp
    rw [e1, e2]
    rfl
end Wp

namespace Wp
open OwPull PullSpec
/-! ### reach -/
theorem piv_congr : ∀ (l : List Nat) {S : List Nat} {M M' : Mat}, (∀ x ∈ l, x ∈ S) → (∀ i ∈ S, ∀ j ∈ S, M i j = M' i j) → piv l M = piv l M'
  | [], _, _, _, _, _ => rfl
  | q :: l, S, M, M', sub, h => by
    have hq := sub q (by simp)
    show M q q * piv l (gj q M) = M' q q * piv l (gj q M')
    rw [h q hq q hq]
    congr 1
    refine piv_congr l (S := S) (fun x hx => sub x (List.mem_cons_of_mem _ hx)) fun i hi j hj => ?_
    unfold gj
    rw [h q hq j hj, h q hq q hq, h i hi j hj, h i hi q hq]
section
variable {nodes : List MNode} {spans : List MSpan}
def pushOf (a b : Nat) (k : Nat) : Int := (if k = a then (1 : Int) else 0) - (if k = b then 1 else 0)
abbrev swR (nodes : List MNode) (spans : List MSpan) (a b : Nat) : List (List Int) := swayR (eqR nodes spans) ((kn nodes spans).map (pushOf a b)) (kn nodes spans).length
theorem sw_rows (N : NetOk nodes spans) (a b : Nat) : RowsOk (swR nodes spans a b) ((kn nodes spans).length + 1) (vK nodes spans) := sway_rows eqsM_shape (net_rows N) (by simp) fun z hz => by
  obtain ⟨k, _, rfl⟩ := List.mem_map.mp hz
  unfold pushOf Bits
  split <;> split <;> decide
theorem sw_len (a b : Nat) : (swR nodes spans a b).length = (kn nodes spans).length := by
  unfold swR swayR
  rw [List.length_map, List.length_zip, eqR_len, List.length_map, Nat.min_self]
theorem sw_ent (a b : Nat) {i j : Nat} (hi : i < (kn nodes spans).length) : ent (swR nodes spans a b) i j = if j < (kn nodes spans).length then ent (eqR nodes spans) i j else if j = (kn nodes spans).length then ((kn nodes spans).map (pushOf a b)).getD i 0 else 0 :=
  sway_ent eqsM_shape (by omega) (by simp) hi
theorem sw_bot (N : NetOk nodes spans) (a b : Nat) : (solvedM (swR nodes spans a b)).1 = (balancedM nodes spans).bottom := by
  have h1 := ((sw_rows N a b).state _ (Nat.le_refl _)).1
  have h2 := ((net_rows N).state _ (Nat.le_refl _)).1
  rw [sw_len] at h1
  rw [eqR_len] at h2
  have e : piv (List.range (kn nodes spans).length) (matOf (swR nodes spans a b)) = piv (List.range (kn nodes spans).length) (matOf (eqR nodes spans)) := piv_congr _ (fun x h => h) fun i hi j hj => by
    rw [List.mem_range] at hi hj
    unfold matOf
    rw [sw_ent a b hi, if_pos hj]
  rw [e, ← h2] at h1
  have e1 : (solvedM (swR nodes spans a b)).1 = (stateAt (swR nodes spans a b) (kn nodes spans).length).2 := by
    have : (solvedM (swR nodes spans a b)).1 = (stateAt (swR nodes spans a b) (swR nodes spans a b).length).2 := rfl
    rw [this, sw_len]
  have e2 : (balancedM nodes spans).bottom = (stateAt (eqR nodes spans) (kn nodes spans).length).2 := by
    have : (balancedM nodes spans).bottom = (stateAt (eqR nodes spans) (eqR nodes spans).length).2 := rfl
    rw [this, eqR_len]
  rw [e1, e2]
  exact_mod_cast h1
/-! the net that is tried -/
theorem tr_get (a b i : Nat) : ((absN nodes spans).tried a b).nodes[i]? = ((absN nodes spans).nodes[i]?).map fun (n : Node) => match n with
  | .fixed _ k => .fixed zero k
  | .free _ => .free ⟨(if i = a then 1 / 1000 else 0) - (if i = b then 1 / 1000 else 0), 0, 0⟩ := by
  show (((absN nodes spans).nodes.zipIdx).map _)[i]? = _
  rw [List.getElem?_map, List.getElem?_zipIdx]
  cases (absN nodes spans).nodes[i]? with
  | none => rfl
  | some n =>
    simp only [Option.map_some, Nat.zero_add]
    cases n <;> rfl
theorem tr_len (a b : Nat) : ((absN nodes spans).tried a b).nodes.length = (absN nodes spans).nodes.length := by
  show (((absN nodes spans).nodes.zipIdx).map _).length = _
  simp
theorem tr_fixed (a b : Nat) : ((absN nodes spans).tried a b).fixedAt = (absN nodes spans).fixedAt := by
  funext i
  unfold Net.fixedAt
  rw [tr_get]
  cases (absN nodes spans).nodes[i]? with
  | none => rfl
  | some n => cases n <;> rfl
theorem tr_free (a b : Nat) : ((absN nodes spans).tried a b).freeAt = (absN nodes spans).freeAt := by
  funext i
  unfold Net.freeAt
  rw [tr_get]
  cases (absN nodes spans).nodes[i]? with
  | none => rfl
  | some n => cases n <;> rfl
theorem tr_draw (a b : Nat) : ((absN nodes spans).tried a b).drawing = (absN nodes spans).drawing := rfl
theorem tr_loose (a b : Nat) : ((absN nodes spans).tried a b).loose = (absN nodes spans).loose := by
  unfold Net.loose Net.hung
  have hf : ((absN nodes spans).tried a b).further = (absN nodes spans).further := by
    funext l
    unfold Net.further
    rw [tr_len, tr_draw]
  rw [tr_len, tr_fixed, tr_free, hf]
theorem tr_low (a b : Nat) (l : List Nat) (u : Nat) {j : Nat} (hj : j < l.length) : (((absN nodes spans).tried a b).rowOf l u).getD j 0 = ((absN nodes spans).rowOf l u).getD j 0 := by
  unfold Net.rowOf
  dsimp only
  rw [getD_map_app hj, getD_map_app hj]
  rfl
theorem tr_high {a b u : Nat} (l : List Nat) (hu : u < nodes.length) (hf : (nodes.getD u default).fixed = false) : (((absN nodes spans).tried a b).rowOf l u).getD (l.length + 0) 0 = ((pushOf a b u : Int) : Rat) := by
  have hl : ((absN nodes spans).tried a b).load u = ⟨(if u = a then 1 / 1000 else 0) - (if u = b then 1 / 1000 else 0), 0, 0⟩ := by
    unfold Net.load
    rw [tr_get, at_free hu hf]
    rfl
  have hp : ∀ o, (if ((absN nodes spans).tried a b).fixedAt o = true then ((absN nodes spans).tried a b).placeFixed o else zero) = zero := fun o => by
    split
    · unfold Net.placeFixed
      rw [tr_get]
      cases (absN nodes spans).nodes[o]? with
      | none => rfl
      | some n => cases n <;> rfl
    · rfl
  unfold Net.rowOf
  dsimp only
  simp only [List.getD]
  rw [List.getElem?_append_right (by simp), List.length_map, Nat.add_zero, Nat.sub_self]
  simp only [List.getElem?_cons_zero, Option.getD_some]
  rw [sumVec_x, List.foldr_cons, List.foldr_map, tr_draw, drawing_is, fold_fm (g := fun x => (if ((absN nodes spans).tried a b).fixedAt x.1 = true then times x.2 (((absN nodes spans).tried a b).placeFixed x.1) else zero).x), hl]
  have hz : sumR (drawingM spans) (atR (fun o d => (if ((absN nodes spans).tried a b).fixedAt o = true then times d (((absN nodes spans).tried a b).placeFixed o) else zero).x) u) = 0 := by
    rw [sumR_congr (g := fun _ => 0) fun s hs => ?_, sumR_zero]
    unfold atR
    cases oth s u with
    | none => rfl
    | some o =>
      show (if ((absN nodes spans).tried a b).fixedAt o = true then times (s.d : Rat) (((absN nodes spans).tried a b).placeFixed o) else zero).x = 0
      have h := hp o
      by_cases c : ((absN nodes spans).tried a b).fixedAt o = true
      · rw [if_pos c] at h ⊢
        rw [h]
        exact Rat.mul_zero _
      · rw [if_neg c]
        rfl
  rw [hz]
  show 1000 * ((if u = a then (1 / 1000 : Rat) else 0) - (if u = b then 1 / 1000 else 0)) + 0 = _
  unfold pushOf
  by_cases c1 : u = a
  · by_cases c2 : u = b
    · rw [if_pos c1, if_pos c2, if_pos c1, if_pos c2]; push_cast; grind
    · rw [if_pos c1, if_neg c2, if_pos c1, if_neg c2]; push_cast; grind
  · by_cases c2 : u = b
    · rw [if_neg c1, if_pos c2, if_neg c1, if_pos c2]; push_cast; grind
    · rw [if_neg c1, if_neg c2, if_neg c1, if_neg c2]; push_cast; grind
theorem tr_sol (N : NetOk nodes spans) (a b : Nat) {x : Nat} (hx : x < (kn nodes spans).length) : ((solved 3 (kn nodes spans).length ((kn nodes spans).map (((absN nodes spans).tried a b).rowOf (kn nodes spans)))).getD x []).getD 0 0 = (((solvedM (swR nodes spans a b)).2.getD x []).getD 0 0 : Rat) / ((balancedM nodes spans).bottom : Rat) := by
  have R := sw_rows N a b
  have hl := sw_len (nodes := nodes) (spans := spans) a b
  have KR := knots_r (nodes := nodes) (spans := spans) (net_ends N)
  have eAt : ∀ i, i < (kn nodes spans).length → ∀ j, rmat ((kn nodes spans).map (((absN nodes spans).tried a b).rowOf (kn nodes spans))) i j = (((absN nodes spans).tried a b).rowOf (kn nodes spans) ((kn nodes spans).getD i 0)).getD j 0 := fun i hi j => by
    unfold rmat
    rw [show ((kn nodes spans).map (((absN nodes spans).tried a b).rowOf (kn nodes spans))).getD i [] = ((absN nodes spans).tried a b).rowOf (kn nodes spans) ((kn nodes spans).getD i 0) by simp [List.getD, List.getElem?_eq_getElem hi]]
  have hm : ∀ i j, i < (kn nodes spans).length → j < (kn nodes spans).length → rmat ((kn nodes spans).map (((absN nodes spans).tried a b).rowOf (kn nodes spans))) i j = matOf (swR nodes spans a b) i j := fun i j hi hj => by
    rw [eAt i hi, tr_low a b _ _ hj]
    unfold matOf
    rw [sw_ent a b hi, if_pos hj]
    have := mat_is KR hi (show j < (kn nodes spans).length + 3 by omega)
    unfold rmat at this
    rw [show ((kn nodes spans).map ((absN nodes spans).rowOf (kn nodes spans))).getD i [] = (absN nodes spans).rowOf (kn nodes spans) ((kn nodes spans).getD i 0) by simp [List.getD, List.getElem?_eq_getElem hi]] at this
    rw [this]
    rfl
  have hcol : ∀ i, i < (kn nodes spans).length → rmat ((kn nodes spans).map (((absN nodes spans).tried a b).rowOf (kn nodes spans))) i ((kn nodes spans).length + 0) = matOf (swR nodes spans a b) i ((swR nodes spans a b).length + 0) := fun i hi => by
    have hk := getD_mem (d := 0) hi
    obtain ⟨k1, k2, k3⟩ := (mem_kn N).mp hk
    rw [eAt i hi, tr_high _ k2 k3, hl]
    unfold matOf
    rw [sw_ent a b hi, if_neg (by omega), if_pos (by omega)]
    congr 1
    simp [List.getD, List.getElem?_eq_getElem hi]
  have D := R.dom
  rw [hl] at D
  have D2 : Dom (List.range (kn nodes spans).length) (vK nodes spans) (rmat ((kn nodes spans).map (((absN nodes spans).tried a b).rowOf (kn nodes spans)))) := dom_congr D fun i hi j hj => hm i j (by simpa using hi) (by simpa using hj)
  have hS := solved_solves 3 (kn nodes spans).length ((kn nodes spans).map (((absN nodes spans).tried a b).rowOf (kn nodes spans))) (vK nodes spans) (by simp) (rows_len3 _ _) D2 0 (by decide)
  rw [← sw_bot N a b]
  refine R.sol (c := 0) (x := fun j => ((solved 3 (kn nodes spans).length ((kn nodes spans).map (((absN nodes spans).tried a b).rowOf (kn nodes spans)))).getD j []).getD 0 0) (by omega) ?_ (by omega)
  rw [hl]
  intro i hi
  have h := hS i hi
  rw [List.mem_range] at hi
  have hc := hcol i hi
  rw [hl] at hc
  rw [← hc, ← h]
  exact sumL_congr fun j hj => by rw [hm i j hi (by simpa using hj)]
/-- how far a node gives way -/
theorem gives_is (N : NetOk nodes spans) (p : MSpan) {j : Nat} (hh : (balancedM nodes spans).hang j = true) : ((((absN nodes spans).tried p.a p.b).placeBy ((absN nodes spans).tried p.a p.b).laid j).getD zero).x = ((swaysM nodes spans (balancedM nodes spans).hangs p).getD j 0 : Rat) / ((balancedM nodes spans).bottom : Rat) := by
  have B := bal_ok N
  have hj : j < nodes.length := hang_lt hh
  have KR := knots_r (nodes := nodes) (spans := spans) (net_ends N)
  have hsw : swaysM nodes spans (balancedM nodes spans).hangs p = ((kn nodes spans).zip (solvedM (swR nodes spans p.a p.b)).2).foldl (fun w x => w.set x.1 (x.2.getD 0 0)) (List.replicate nodes.length 0) := rfl
  have al : (solvedM (swR nodes spans p.a p.b)).2.length = (kn nodes spans).length := by
    have : (solvedM (swR nodes spans p.a p.b)).2 = (stateAt (swR nodes spans p.a p.b) (swR nodes spans p.a p.b).length).1.map fun row => row.drop (swR nodes spans p.a p.b).length := rfl
    rw [this, List.length_map, stateAt_len, sw_len]
  unfold Net.placeBy
  rw [tr_get]
  cases hf : (nodes.getD j default).fixed with
  | true =>
    rw [at_fixed hj hf]
    have hz : (swaysM nodes spans (balancedM nodes spans).hangs p).getD j 0 = 0 := by
      rw [hsw, List.getD, foldPut_out (fun (x : List Int) => x.getD 0 0) _ _ (fun y hy q => ?_)]
      · simp [hj]
      · have := (mem_kn N).mp (List.of_mem_zip hy).1
        rw [q, hf] at this
        cases this.2.2
    rw [hz]
    show (0 : Rat) = ((0 : Int) : Rat) / _
    rw [Rat.div_def]
    exact (Rat.zero_mul _).symm
  | false =>
    rw [at_free hj hf]
    dsimp only [Option.map_some]
    rw [hang_at N] at hh
    obtain ⟨x, hx, rfl⟩ := knot_ix N hh hj hf
    have hxa : x < (solvedM (swR nodes spans p.a p.b)).2.length := by omega
    have hk : (kn nodes spans).getD x 0 = (kn nodes spans)[x] := by simp [List.getD, List.getElem?_eq_getElem hx]
    have hw : (swaysM nodes spans (balancedM nodes spans).hangs p).getD ((kn nodes spans).getD x 0) 0 = ((solvedM (swR nodes spans p.a p.b)).2.getD x []).getD 0 0 := by
      rw [hsw]
      have h3 := foldPut_in (fun (x : List Int) => x.getD 0 0) (i := (kn nodes spans).getD x 0) (a := (solvedM (swR nodes spans p.a p.b)).2.getD x []) ((kn nodes spans).zip (solvedM (swR nodes spans p.a p.b)).2) (List.replicate nodes.length 0) (by rw [zip_fst _ _ al.symm]; exact KR.nd) (by
        have : ((kn nodes spans).zip (solvedM (swR nodes spans p.a p.b)).2)[x]? = some ((kn nodes spans).getD x 0, (solvedM (swR nodes spans p.a p.b)).2.getD x []) := by
          rw [List.getElem?_zip_eq_some]
          refine ⟨by rw [hk, List.getElem?_eq_getElem hx], ?_⟩
          rw [show (solvedM (swR nodes spans p.a p.b)).2.getD x [] = (solvedM (swR nodes spans p.a p.b)).2[x] by simp [List.getD, List.getElem?_eq_getElem hxa], List.getElem?_eq_getElem hxa]
        exact List.mem_of_getElem? this) (by rw [List.length_replicate]; exact hj)
      rw [List.getD, h3]
      rfl
    rw [hw, ← tr_sol N p.a p.b hx]
    have hlo : ((absN nodes spans).tried p.a p.b).loose = kn nodes spans := by rw [tr_loose]; exact loose_is (net_ends N)
    have sl : (solved 3 (kn nodes spans).length ((kn nodes spans).map (((absN nodes spans).tried p.a p.b).rowOf (kn nodes spans)))).length = (kn nodes spans).length := by
      have := solved_len_ 3 ((kn nodes spans).map (((absN nodes spans).tried p.a p.b).rowOf (kn nodes spans)))
      rw [List.length_map] at this
      exact this
    have hlaid : ((absN nodes spans).tried p.a p.b).laid = (kn nodes spans).zip ((solved 3 (kn nodes spans).length ((kn nodes spans).map (((absN nodes spans).tried p.a p.b).rowOf (kn nodes spans)))).map fun (r : List Rat) => (⟨r.getD 0 0, r.getD 1 0, r.getD 2 0⟩ : Vec)) := by
      unfold Net.laid
      dsimp only
      rw [hlo]
    rw [hlaid, find_zip_in (d := zero) _ _ x (by rw [List.length_map, sl]) KR.nd hx]
    have hxs : x < (solved 3 (kn nodes spans).length ((kn nodes spans).map (((absN nodes spans).tried p.a p.b).rowOf (kn nodes spans)))).length := by omega
    simp [List.getD, List.getElem?_eq_getElem hxs]
end
theorem along_is {b : MBal} {j k : Nat} (hk : k < 3) : along k (placeV b j) = ((b.at_ j).getD k 0 : Rat) / (b.bottom : Rat) := by
  match k, hk with
  | 0, _ => rfl
  | 1, _ => rfl
  | 2, _ => rfl
def reachCore (t q : Rat) : Option Rat := if t = 0 then some 0 else if q = 0 then none else if 0 < t / q then some (t / q) else none
theorem reach_core (wi wa wb pi pa pb c bt : Int) (hbp : 0 < bt) : PullNeutral.told (match reachCore ((pi : Rat) / (bt : Rat) - (c : Rat)) ((wi : Rat) / (bt : Rat) * ((pa : Rat) / (bt : Rat) - (pb : Rat) / (bt : Rat)) - ((pi : Rat) / (bt : Rat) - (c : Rat)) * ((wa : Rat) / (bt : Rat) - (wb : Rat) / (bt : Rat))) with
    | none => says (-7)
    | some e => tells 0 (fraction e)) = if pi = c * bt then [0, 0, 1] else if wi * (pa - pb) - (wa - wb) * (pi - c * bt) = 0 ∨ (pi - c * bt) * bt * (wi * (pa - pb) - (wa - wb) * (pi - c * bt)) < 0 then [-7] else 0 :: toldM (((pi - c * bt) * bt).natAbs : Int) ((wi * (pa - pb) - (wa - wb) * (pi - c * bt)).natAbs : Int) := by
  have r0 := ratpos hbp
  by_cases ht : pi = c * bt
  · have : (pi : Rat) / (bt : Rat) - (c : Rat) = 0 := by
      rw [ht]
      push_cast
      grind
    rw [if_pos ht]
    unfold reachCore
    rw [if_pos this]
    rfl
  · have ht2 : ¬ (pi : Rat) / (bt : Rat) - (c : Rat) = 0 := fun q => ht (by
      have : (pi : Rat) = ((c * bt : Int) : Rat) := by
        push_cast
        grind
      exact_mod_cast this)
    rw [if_neg ht]
    have q2 : (wi : Rat) / (bt : Rat) * ((pa : Rat) / (bt : Rat) - (pb : Rat) / (bt : Rat)) - ((pi : Rat) / (bt : Rat) - (c : Rat)) * ((wa : Rat) / (bt : Rat) - (wb : Rat) / (bt : Rat)) = ((wi * (pa - pb) - (wa - wb) * (pi - c * bt) : Int) : Rat) / ((bt * bt : Int) : Rat) := by
      push_cast
      grind
    have t2 : (pi : Rat) / (bt : Rat) - (c : Rat) = ((pi - c * bt : Int) : Rat) / (bt : Rat) := by
      push_cast
      grind
    rw [t2] at ht2
    rw [q2, t2]
    have fne : pi - c * bt ≠ 0 := fun e => ht (by omega)
    generalize pi - c * bt = far at fne ht2
    generalize wi * (pa - pb) - (wa - wb) * far = g2
    have hbb := Int.mul_pos hbp hbp
    have rbb := ratpos hbb
    by_cases hg : g2 = 0
    · have : ((g2 : Int) : Rat) / ((bt * bt : Int) : Rat) = 0 := by
        rw [hg, Rat.div_def]
        exact Rat.zero_mul _
      unfold reachCore
      rw [if_neg ht2, if_pos this, if_pos (Or.inl hg)]
      rfl
    · have gr : (g2 : Rat) ≠ 0 := fun e => hg (by exact_mod_cast e)
      have : ¬ ((g2 : Int) : Rat) / ((bt * bt : Int) : Rat) = 0 := fun e => gr (by grind)
      unfold reachCore
      rw [if_neg ht2, if_neg this]
      have tq : (far : Rat) / (bt : Rat) / ((g2 : Rat) / ((bt * bt : Int) : Rat)) = ((far * bt * g2 : Int) : Rat) / ((g2 * g2 : Int) : Rat) := by
        push_cast
        grind
      have hgg : 0 < g2 * g2 := by
        rcases Int.lt_or_gt_of_ne hg with q | q
        · exact Int.mul_pos_of_neg_of_neg q q
        · exact Int.mul_pos q q
      have hggr : (0 : Rat) < ((g2 * g2 : Int) : Rat) := by exact_mod_cast hgg
      have hpos : (0 < (far : Rat) / (bt : Rat) / ((g2 : Rat) / ((bt * bt : Int) : Rat))) ↔ 0 < far * bt * g2 := by
        rw [tq]
        have h4 := div_le_iff_ (m := ((far * bt * g2 : Int) : Rat)) hggr 0
        rw [Rat.zero_mul] at h4
        have h5 : (((far * bt * g2 : Int) : Rat) ≤ 0) ↔ far * bt * g2 ≤ 0 := by
          have := Rat.intCast_le_intCast (a := far * bt * g2) (b := 0)
          exact this
        rw [h5] at h4
        constructor
        · intro q
          refine Classical.byContradiction fun hn => ?_
          have := h4.mpr (by omega)
          grind
        · intro q
          refine Classical.byContradiction fun hn => ?_
          have := h4.mp (by grind)
          omega
      have hne : far * bt * g2 ≠ 0 := Int.mul_ne_zero (Int.mul_ne_zero fne (by omega)) hg
      by_cases hp : 0 < far * bt * g2
      · rw [if_pos (hpos.mpr hp), if_neg (fun q => by rcases q with q | q; exact hg q; omega)]
        show 0 :: fraction _ = 0 :: toldM _ _
        have hna : 0 < (g2.natAbs : Int) := by omega
        rw [toldM_is hna]
        congr 2
        have hsg : ((far * bt).natAbs : Int) * g2 = far * bt * (g2.natAbs : Int) := by
          generalize far * bt = f at hp hne
          rcases Int.lt_or_gt_of_ne hg with q | q
          · have hf : f < 0 := by
              refine Classical.byContradiction fun hn => ?_
              have := Int.mul_le_mul_of_nonneg_left (show g2 ≤ 0 by omega) (show 0 ≤ f by omega)
              omega
            rw [show (f.natAbs : Int) = -f by omega, show (g2.natAbs : Int) = -g2 by omega]
            grind
          · have hf : 0 < f := by
              refine Classical.byContradiction fun hn => ?_
              have := Int.mul_le_mul_of_nonneg_right (show f ≤ 0 by omega) (show 0 ≤ g2 by omega)
              omega
            rw [show (f.natAbs : Int) = f by omega, show (g2.natAbs : Int) = g2 by omega]
        have hsr : (((far * bt).natAbs : Int) : Rat) * (g2 : Rat) = ((far * bt : Int) : Rat) * ((g2.natAbs : Int) : Rat) := by
          have : ((((far * bt).natAbs : Int) * g2 : Int) : Rat) = ((far * bt * (g2.natAbs : Int) : Int) : Rat) := by rw [hsg]
          rw [Rat.intCast_mul, Rat.intCast_mul] at this
          exact this
        have nar : ((g2.natAbs : Int) : Rat) ≠ 0 := ratpos hna
        rw [tq]
        have e7 : ((far * bt * g2 : Int) : Rat) / ((g2 * g2 : Int) : Rat) = ((far * bt : Int) : Rat) / (g2 : Rat) := by
          rw [Rat.intCast_mul (far * bt) g2, Rat.intCast_mul g2 g2]
          grind
        rw [e7]
        generalize (((far * bt).natAbs : Int) : Rat) = A at hsr
        generalize ((far * bt : Int) : Rat) = F at hsr
        generalize ((g2.natAbs : Int) : Rat) = G at hsr nar
        grind
      · have hlt : far * bt * g2 < 0 := by omega
        rw [if_neg (fun q => hp (hpos.mp q)), if_pos (Or.inr hlt)]
        rfl
theorem ask_reach {N : MNet} (O : NOk N) {s i axis : Nat} {c : Int} : Agrees N (.reach s i axis c) (N, reachM N s i axis c) := by
  refine ⟨rfl, ?_⟩
  unfold PullSpec.step reachM
  dsimp only
  rw [nlen, far_is]
  by_cases h : (decide (axis > 2) || !partOk c) = true
  · have hc : 2 < axis ∨ (!partOk c) = true := by
      rw [Bool.or_eq_true, decide_eq_true_eq] at h
      exact h
    rw [if_pos hc, if_pos h]
    rfl
  · have hc : ¬ (2 < axis ∨ (!partOk c) = true) := by
      intro q
      apply h
      rw [Bool.or_eq_true, decide_eq_true_eq]
      exact q
    have hx : axis < 3 := by omega
    rw [if_neg hc, if_neg h]
    by_cases h2 : (isSpanM N.spans s && decide (i < N.nodes.length)) = false
    · have hc : ((absNet N).span s).isNone = true ∨ N.nodes.length ≤ i := by
        rw [span_none]
        rw [Bool.and_eq_false_iff, decide_eq_false_iff_not] at h2
        exact h2.imp id fun q => by omega
      rw [if_pos hc, if_pos h2]
      rfl
    · rw [Bool.not_eq_false, Bool.and_eq_true, decide_eq_true_eq] at h2
      obtain ⟨hs, hi⟩ := h2
      have hc : ¬ (((absNet N).span s).isNone = true ∨ N.nodes.length ≤ i) := by
        rw [span_none, hs]
        simp
        omega
      rw [if_neg hc, if_neg (by rw [hs, decide_eq_true hi]; decide)]
      unfold Net.reach
      rw [span_is, if_pos hs]
      dsimp only
      generalize N.spans.getD s default = p
      have B := bal_ok O
      have r0 := ratpos B.pos
      have h1 : (absNet N).place i = _ := placeBy_is O i
      have h2 : (absNet N).place (toSpan p).a = _ := placeBy_is O p.a
      have h3 : (absNet N).place (toSpan p).b = _ := placeBy_is O p.b
      rw [h1, h2, h3]
      by_cases gi : (balancedM N.nodes N.spans).hang i = true
      · by_cases ga : (balancedM N.nodes N.spans).hang p.a = true
        · by_cases gb : (balancedM N.nodes N.spans).hang p.b = true
          · rw [if_pos gi, if_pos ga, if_pos gb, if_neg (by rw [gi, ga, gb]; decide)]
            dsimp only
            show PullNeutral.told (match reachCore (along axis (placeV (balancedM N.nodes N.spans) i) - (c : Rat)) (((((absNet N).tried (toSpan p).a (toSpan p).b).placeBy ((absNet N).tried (toSpan p).a (toSpan p).b).laid i).getD zero).x * (along axis (placeV (balancedM N.nodes N.spans) p.a) - along axis (placeV (balancedM N.nodes N.spans) p.b)) - (along axis (placeV (balancedM N.nodes N.spans) i) - (c : Rat)) * (((((absNet N).tried (toSpan p).a (toSpan p).b).placeBy ((absNet N).tried (toSpan p).a (toSpan p).b).laid (toSpan p).a).getD zero).x - ((((absNet N).tried (toSpan p).a (toSpan p).b).placeBy ((absNet N).tried (toSpan p).a (toSpan p).b).laid (toSpan p).b).getD zero).x)) with
              | none => says (-7)
              | some e => tells 0 (fraction e)) = _
            have w1 : (((absNet N).tried (toSpan p).a (toSpan p).b).placeBy ((absNet N).tried (toSpan p).a (toSpan p).b).laid i |>.getD zero).x = _ := gives_is O p gi
            have w2 : (((absNet N).tried (toSpan p).a (toSpan p).b).placeBy ((absNet N).tried (toSpan p).a (toSpan p).b).laid (toSpan p).a |>.getD zero).x = _ := gives_is O p ga
            have w3 : (((absNet N).tried (toSpan p).a (toSpan p).b).placeBy ((absNet N).tried (toSpan p).a (toSpan p).b).laid (toSpan p).b |>.getD zero).x = _ := gives_is O p gb
            rw [w1, w2, w3, along_is hx, along_is hx, along_is hx]
            exact reach_core _ _ _ _ _ _ _ _ B.pos
          · rw [if_pos gi, if_pos ga, if_neg gb, if_pos (by rw [gi, ga, show (balancedM N.nodes N.spans).hang p.b = false by simpa using gb]; rfl)]
            rfl
        · rw [if_pos gi, if_neg ga, if_pos (show ((balancedM N.nodes N.spans).hang i && ((balancedM N.nodes N.spans).hang p.a && (balancedM N.nodes N.spans).hang p.b)) = false by rw [gi, show (balancedM N.nodes N.spans).hang p.a = false by simpa using ga]; rfl)]
          by_cases gb : (balancedM N.nodes N.spans).hang p.b = true
          · rw [if_pos gb]; rfl
          · rw [if_neg gb]; rfl
      · rw [if_neg gi, if_pos (show ((balancedM N.nodes N.spans).hang i && ((balancedM N.nodes N.spans).hang p.a && (balancedM N.nodes N.spans).hang p.b)) = false by rw [show (balancedM N.nodes N.spans).hang i = false by simpa using gi]; rfl)]
        by_cases ga : (balancedM N.nodes N.spans).hang p.a = true
        · by_cases gb : (balancedM N.nodes N.spans).hang p.b = true
          · rw [if_pos ga, if_pos gb]; rfl
          · rw [if_pos ga, if_neg gb]; rfl
        · by_cases gb : (balancedM N.nodes N.spans).hang p.b = true
          · rw [if_neg ga, if_pos gb]; rfl
          · rw [if_neg ga, if_neg gb]; rfl
end Wp

namespace Wp
open PySem PySem.Spec PyProof.Rows L2 Evl
open He (ga ma Fa DefD SaysD)

/-! ### the text by places -/
def top (i : Nat) : Stmt := PySem.Challenge.pw_wirepulls_s01_answers.main.body.getD i (.Pass ⟨0, 0, 0, 0⟩)
def gD (x : Str) (i : Nat) : DefD := ⟨(x, none), x, x, defArgs (top i), defBody (top i), defScope (top i), [], []⟩
def mD (c m q : Str) (i j : Nat) : DefD := ⟨(c, some m), m, q, defArgs (inClass (top i) j), defBody (inClass (top i) j), defScope (inClass (top i) j), [], []⟩
/-- what is told of the text's top -/
structure Txt (fa : List Fa) (fn : List DefD) (K : PySem.W.Frag) (mg : Str → Option Value) : Prop where
  s : SaysD fa fn K
  m : ∃ h : Heap, K.In h ∧ h.Ns mainGlobals mg
section
variable {fa : List Fa} {fn : List DefD} {K : PySem.W.Frag} {mg : Str → Option Value}
theorem Txt.glo (T : Txt fa fn K mg) (i : Nat) (x : Str) (h : fa[i]? = some (.glo x) := by rfl) : mg x = some (.ref (ga K x)) := by
  obtain ⟨hp, X, G⟩ := T.m
  exact He.glo_ok X G (T.s.fact i h)
theorem Txt.free (T : Txt fa fn K mg) (i : Nat) (x : Str) (h : fa[i]? = some (.free x) := by rfl) : mg x = none := by
  obtain ⟨hp, X, G⟩ := T.m
  exact He.free_ok X G (T.s.fact i h)
theorem Txt.int (T : Txt fa fn K mg) (i : Nat) (x : Str) (z : Int) (h : fa[i]? = some (.int x z) := by rfl) : ∃ t, mg x = some (.int z t) := by
  obtain ⟨hp, X, G⟩ := T.m
  exact He.int_ok X G (T.s.fact i h)
theorem Txt.cls (T : Txt fa fn K mg) (i : Nat) (x : Str) (h : fa[i]? = some (.cls x) := by rfl) : Cls K (ga K x) := He.cls_ok (T.s.fact i h)
theorem Txt.noat (T : Txt fa fn K mg) (i : Nat) (x f : Str) (h : fa[i]? = some (.noat x f) := by rfl) : NoAttr K (ga K x) f := He.noat_ok (T.s.fact i h)
theorem Txt.mkr (T : Txt fa fn K mg) (i : Nat) (x : Str) (h : fa[i]? = some (.mkr x) := by rfl) : Mk K (ga K x) (ma K (ga K x) "__init__") := He.mkr_ok (T.s.fact i h)
end

/-! ### defs by their promises -/
structure OkD (P : Program) (w : World) (K : PySem.W.Frag) (mg : Str → Option Value) (base : Heap) (k : Nat) (x : Str) (ps : List Str) (sp : Sp) : Prop where
  ex : ∃ fd, FnOk P w K mg base CX0 k (ga K x) fd ps sp ∧ Binds K fd ps []
  kp : PySem.W.keepIn K (.ref (ga K x)) = true
  gl : mg x = some (.ref (ga K x))
structure OkM (P : Program) (w : World) (K : PySem.W.Frag) (mg : Str → Option Value) (base : Heap) (k : Nat) (x : Str) (ps : List Str) (sp : Sp) : Prop where
  ex : ∃ fd, FnOk P w K mg base CX0 k (ma K (ga K x) "__init__") fd ps sp ∧ Binds K fd ps []
  makes : Mk K (ga K x) (ma K (ga K x) "__init__")
  gl : mg x = some (.ref (ga K x))
section
variable {X : Cx} {k : Nat} {x : Str} {ps : List Str} {sp : Sp} {p pos : Pos} {e : Expr} {es : List Expr} {t : TA}
theorem pe_callD (F : OkD X.prog X.w X.K X.mg X.base k x ps sp) (hr : Room k X.A) (ha : PA X (e :: es) t) (hg : Gl X x := by rfl) (hdb : (x == ("__debug__" : Str)) = false := by decide)
    (he : starEach (e :: es) X.env = (false, eval e X.env) :: starEach es X.env := by rfl) (hpl : (backTo pos (starEach es X.env)).any (·.1) = false := by rfl) : PE X (.Call (.Name x p) (e :: es) [] pos) (tCall sp [] E0 t) := by
  obtain ⟨fd, F1, hb⟩ := F.ex
  exact pe_call F1 hr hg F.gl F.kp hb .nil pass0 ha hdb he hpl
theorem pe_makeD (F : OkM X.prog X.w X.K X.mg X.base k x ps sp) (hr : Room (k + 1) X.A) (ha : PA X (e :: es) t) (hg : Gl X x := by rfl) (hdb : (x == ("__debug__" : Str)) = false := by decide)
    (he : starEach (e :: es) X.env = (false, eval e X.env) :: starEach es X.env := by rfl) (hpl : (backTo pos (starEach es X.env)).any (·.1) = false := by rfl) : PE X (.Call (.Name x p) (e :: es) [] pos) (tMake (ga X.K x) sp [] E0 t) := by
  obtain ⟨fd, F1, hb⟩ := F.ex
  exact pe_make F.makes F1 hr hg F.gl hb .nil pass0 ha hdb he hpl
end
section
variable {P : Program} {w : World} {K : PySem.W.Frag} {mg : Str → Option Value} {base : Heap} {fa : List Fa} {fn : List DefD}
theorem Txt.ok (T : Txt fa fn K mg) (i j : Nat) (x : Str) (n : Nat) {N ps : List Str} {k : Nat} {sp : Sp} (S : FnScope N ps (defScope (top n))) (len : ∀ vs H Q E, sp vs H Q E → vs.length = ps.length)
    (hbind : ∀ (kV doc pm : Value) (an : Option Addr) (cdv ct : Value) (us : List Value), us.length = ps.length → bindArgs (PySem.W.fnOf x x (defArgs (top n)) (defBody (top n)) (defScope (top n)) .none kV doc pm an cdv ct) ⟨us, []⟩ = pure (ps.zip us))
    (hbody : ∀ (cdv : Value) (A : Around) (outer : List Env) (s : Shared) (H : Hp) (vs : List V) (Q : VK) (E : XK), Room k (A.deeper (envOfC x (defScope (top n)) s.heap.objs.size (ga K x) cdv)) → sp vs H Q E →
      ∃ t, PSs (cxOf CX0 P w K mg base N x (defScope (top n)) (ga K x) cdv A outer s H E).nox (defBody (top n)) t ∧ t { nx := fun _ H' => Q .non H', rt := Q } (start N vs) H)
    (h1 : fa[i]? = some (.glo x) := by rfl) (h2 : fn[j]? = some (gD x n) := by rfl) : OkD P w K mg base (k + 1) x ps sp := by
  obtain ⟨fd, F⟩ := T.s.def_ j h2
  refine ⟨⟨fd, FunD.ok F S len fun cdv A outer s H vs Q E hr h => ?_, FunD.bindsN F hbind⟩, F.kp, T.glo i x h1⟩
  obtain ⟨t, a, b⟩ := hbody cdv A outer s H vs Q E hr h
  exact ⟨t, a.nox, b⟩
theorem Txt.okM (T : Txt fa fn K mg) (i i2 j : Nat) (c q : Str) (n n2 : Nat) {N ps : List Str} {k : Nat} {sp : Sp} (S : FnScope N ps (defScope (inClass (top n) n2))) (len : ∀ vs H Q E, sp vs H Q E → vs.length = ps.length)
    (hbind : ∀ (kV doc pm : Value) (an : Option Addr) (cdv ct : Value) (us : List Value), us.length = ps.length → bindArgs (PySem.W.fnOf "__init__" q (defArgs (inClass (top n) n2)) (defBody (inClass (top n) n2)) (defScope (inClass (top n) n2)) .none kV doc pm an cdv ct) ⟨us, []⟩ = pure (ps.zip us))
    (hbody : ∀ (cdv : Value) (A : Around) (outer : List Env) (s : Shared) (H : Hp) (vs : List V) (Q : VK) (E : XK), Room k (A.deeper (envOfC q (defScope (inClass (top n) n2)) s.heap.objs.size (ma K (ga K c) "__init__") cdv)) → sp vs H Q E →
      ∃ t, PSs (cxOf CX0 P w K mg base N q (defScope (inClass (top n) n2)) (ma K (ga K c) "__init__") cdv A outer s H E).nox (defBody (inClass (top n) n2)) t ∧ t { nx := fun _ H' => Q .non H', rt := Q } (start N vs) H)
    (h0 : fa[i2]? = some (.mkr c) := by rfl) (h1 : fa[i]? = some (.glo c) := by rfl) (h2 : fn[j]? = some (mD c "__init__" q n n2) := by rfl) : OkM P w K mg base (k + 1) c ps sp := by
  obtain ⟨fd, F⟩ := T.s.def_ j h2
  refine ⟨⟨fd, FunD.ok F S len fun cdv A outer s H vs Q E hr h => ?_, FunD.bindsN F hbind⟩, T.mkr i2 c h0, T.glo i c h1⟩
  obtain ⟨t, a, b⟩ := hbody cdv A outer s H vs Q E hr h
  exact ⟨t, a.nox, b⟩
end
/-! ### subscripts that are read and stored: xs[i] += e -/
theorem get_list {X : Cx} : PGet X (rIxL X.K) := by
  intro pins s σ H x y v u Q I rx ry h
  obtain ⟨p, xs, i, z, rfl, rfl, hq, he, q⟩ := h
  cases rx
  obtain ⟨t, rfl⟩ := ry
  obtain ⟨its, r, pl, hz⟩ := I.list hq
  obtain ⟨j, h1, h2, h3, h4, h5⟩ := atI_get he
  obtain ⟨w, ew, rw'⟩ := r.get h2
  have hl := r.length
  have hn := line63
  have fin : EP X pins σ Q w s := ⟨z, H, I, rw', q⟩
  by_cases h0 : 0 ≤ i
  · have hj : i.toNat = j := by
      rw [seqIndex_of h0 h5] at h1
      exact Option.some.inj h1
    exact PySem.wpAny_getItem_list pl.isList h0 (by omega) (by rw [hj]; simpa using ew) fin
  · have hj : (i + (its.toArray.size : Int)).toNat = j := by
      rw [seqIndex_neg (by omega) h4] at h1
      rw [List.size_toArray, ← hl]
      exact Option.some.inj h1
    exact PySem.wpAny_getItem_list_neg pl.isList (by omega) (by rw [List.size_toArray] <;> omega) (by omega) (by rw [hj]; simpa using ew) fin
end Wp

namespace Wp
open PySem PySem.Spec PyProof.Rows L2 Evl
open He (ga ma Fa DefD SaysD)
def faW : List Fa := [.glo "Node", .cls "Node", .mkr "Node", .noat "Node" "fixed", .noat "Node" "vector", .noat "Node" "bound", .glo "Span", .cls "Span", .mkr "Span", .noat "Span" "first", .noat "Span" "second", .noat "Span" "density", .noat "Span" "there", .glo "Net", .cls "Net", .mkr "Net", .noat "Net" "nodes", .noat "Net" "spans", .glo "Balance", .cls "Balance", .mkr "Balance", .noat "Balance" "hangs", .noat "Balance" "bottom", .noat "Balance" "places", .glo "is_node", .glo "is_span", .glo "draws", .glo "drawing_at", .glo "other_end", .glo "with_density", .glo "without", .glo "hanging", .glo "hanging_knots", .glo "add_draw", .glo "equations", .glo "solved", .glo "cleared", .glo "balanced", .glo "sways", .glo "force_bottom", .glo "pull_towards", .glo "summed", .glo "force_at", .glo "moment_square", .glo "bears_so", .glo "holds", .glo "failing", .glo "strain", .glo "part_may_be", .glo "vector_may_be", .glo "strength_may_be", .glo "greatest_divisor", .glo "told", .glo "told_vector", .glo "place", .glo "pull", .glo "bears", .glo "worst", .glo "lowest", .glo "all_forces", .glo "counts", .glo "begin", .glo "added_node", .glo "fix", .glo "free", .glo "lead", .glo "tune", .glo "cut", .glo "load", .glo "shift", .glo "would", .glo "reach", .glo "growth", .glo "judge", .glo "row_places", .glo "left_over", .glo "breaks", .glo "numbers_from", .glo "answers", .free "len", .free "range", .free "list", .free "all", .free "any", .free "sum", .free "abs", .free "zip", .free "enumerate", .int "THOUSAND" (1000), .int "NOT_SO" (-1), .int "NO_SUCH" (-4), .int "OTHER_KIND" (-5), .int "NO_ROOM" (-6), .int "AS_TOLD" (-7), .int "MOST_NODES" (24), .int "MOST_SPANS" (40), .int "GREATEST_PART" (99999), .int "GREATEST_STRENGTH" (999999), .int "JUDGE" (16), .glo "DEEDS", .glo "SIZES"]
def fnW : List DefD := [mD "Node" "__init__" "Node.__init__" 1 0, mD "Span" "__init__" "Span.__init__" 2 0, mD "Net" "__init__" "Net.__init__" 3 0, mD "Balance" "__init__" "Balance.__init__" 13 0, gD "is_node" 4, gD "is_span" 5, gD "draws" 6, gD "drawing_at" 7, gD "other_end" 8, gD "with_density" 9, gD "without" 10, gD "hanging" 14, gD "hanging_knots" 15, gD "add_draw" 16, gD "equations" 17, gD "solved" 18, gD "cleared" 19, gD "balanced" 20, gD "sways" 21, gD "force_bottom" 23, gD "pull_towards" 24, gD "summed" 25, gD "force_at" 26, gD "moment_square" 27, gD "bears_so" 28, gD "holds" 29, gD "failing" 30, gD "strain" 31, gD "part_may_be" 42, gD "vector_may_be" 43, gD "strength_may_be" 44, gD "greatest_divisor" 46, gD "told" 47, gD "told_vector" 48, gD "place" 50, gD "pull" 51, gD "bears" 52, gD "worst" 53, gD "lowest" 54, gD "all_forces" 55, gD "counts" 56, gD "begin" 58, gD "added_node" 59, gD "fix" 60, gD "free" 61, gD "lead" 62, gD "tune" 63, gD "cut" 64, gD "load" 65, gD "shift" 66, gD "would" 68, gD "reach" 69, gD "growth" 70, gD "judge" 71, gD "row_places" 72, gD "left_over" 73, gD "breaks" 74, gD "numbers_from" 79, gD "answers" 80]
abbrev Tx (K : PySem.W.Frag) (mg : Str → Option Value) : Prop := Txt faW fnW K mg
section
variable {K : PySem.W.Frag} {mg : Str → Option Value}
theorem T_Node (T : Tx K mg) : mg "Node" = some (.ref (ga K "Node")) := T.glo 0 "Node"
theorem C_Node (T : Tx K mg) : Cls K (ga K "Node") := T.cls 1 "Node"
theorem F_Node_fixed (T : Tx K mg) : NoAttr K (ga K "Node") "fixed" := T.noat 3 "Node" "fixed"
theorem F_Node_vector (T : Tx K mg) : NoAttr K (ga K "Node") "vector" := T.noat 4 "Node" "vector"
theorem F_Node_bound (T : Tx K mg) : NoAttr K (ga K "Node") "bound" := T.noat 5 "Node" "bound"
theorem T_Span (T : Tx K mg) : mg "Span" = some (.ref (ga K "Span")) := T.glo 6 "Span"
theorem C_Span (T : Tx K mg) : Cls K (ga K "Span") := T.cls 7 "Span"
theorem F_Span_first (T : Tx K mg) : NoAttr K (ga K "Span") "first" := T.noat 9 "Span" "first"
theorem F_Span_second (T : Tx K mg) : NoAttr K (ga K "Span") "second" := T.noat 10 "Span" "second"
theorem F_Span_density (T : Tx K mg) : NoAttr K (ga K "Span") "density" := T.noat 11 "Span" "density"
theorem F_Span_there (T : Tx K mg) : NoAttr K (ga K "Span") "there" := T.noat 12 "Span" "there"
theorem T_Net (T : Tx K mg) : mg "Net" = some (.ref (ga K "Net")) := T.glo 13 "Net"
theorem C_Net (T : Tx K mg) : Cls K (ga K "Net") := T.cls 14 "Net"
theorem F_Net_nodes (T : Tx K mg) : NoAttr K (ga K "Net") "nodes" := T.noat 16 "Net" "nodes"
theorem F_Net_spans (T : Tx K mg) : NoAttr K (ga K "Net") "spans" := T.noat 17 "Net" "spans"
theorem T_Balance (T : Tx K mg) : mg "Balance" = some (.ref (ga K "Balance")) := T.glo 18 "Balance"
theorem C_Balance (T : Tx K mg) : Cls K (ga K "Balance") := T.cls 19 "Balance"
theorem F_Balance_hangs (T : Tx K mg) : NoAttr K (ga K "Balance") "hangs" := T.noat 21 "Balance" "hangs"
theorem F_Balance_bottom (T : Tx K mg) : NoAttr K (ga K "Balance") "bottom" := T.noat 22 "Balance" "bottom"
theorem F_Balance_places (T : Tx K mg) : NoAttr K (ga K "Balance") "places" := T.noat 23 "Balance" "places"
theorem T_is_node (T : Tx K mg) : mg "is_node" = some (.ref (ga K "is_node")) := T.glo 24 "is_node"
theorem T_is_span (T : Tx K mg) : mg "is_span" = some (.ref (ga K "is_span")) := T.glo 25 "is_span"
theorem T_draws (T : Tx K mg) : mg "draws" = some (.ref (ga K "draws")) := T.glo 26 "draws"
theorem T_drawing_at (T : Tx K mg) : mg "drawing_at" = some (.ref (ga K "drawing_at")) := T.glo 27 "drawing_at"
theorem T_other_end (T : Tx K mg) : mg "other_end" = some (.ref (ga K "other_end")) := T.glo 28 "other_end"
theorem T_with_density (T : Tx K mg) : mg "with_density" = some (.ref (ga K "with_density")) := T.glo 29 "with_density"
theorem T_without (T : Tx K mg) : mg "without" = some (.ref (ga K "without")) := T.glo 30 "without"
theorem T_hanging (T : Tx K mg) : mg "hanging" = some (.ref (ga K "hanging")) := T.glo 31 "hanging"
theorem T_hanging_knots (T : Tx K mg) : mg "hanging_knots" = some (.ref (ga K "hanging_knots")) := T.glo 32 "hanging_knots"
theorem T_add_draw (T : Tx K mg) : mg "add_draw" = some (.ref (ga K "add_draw")) := T.glo 33 "add_draw"
theorem T_equations (T : Tx K mg) : mg "equations" = some (.ref (ga K "equations")) := T.glo 34 "equations"
theorem T_solved (T : Tx K mg) : mg "solved" = some (.ref (ga K "solved")) := T.glo 35 "solved"
theorem T_cleared (T : Tx K mg) : mg "cleared" = some (.ref (ga K "cleared")) := T.glo 36 "cleared"
theorem T_balanced (T : Tx K mg) : mg "balanced" = some (.ref (ga K "balanced")) := T.glo 37 "balanced"
theorem T_sways (T : Tx K mg) : mg "sways" = some (.ref (ga K "sways")) := T.glo 38 "sways"
theorem T_force_bottom (T : Tx K mg) : mg "force_bottom" = some (.ref (ga K "force_bottom")) := T.glo 39 "force_bottom"
theorem T_pull_towards (T : Tx K mg) : mg "pull_towards" = some (.ref (ga K "pull_towards")) := T.glo 40 "pull_towards"
theorem T_summed (T : Tx K mg) : mg "summed" = some (.ref (ga K "summed")) := T.glo 41 "summed"
theorem T_force_at (T : Tx K mg) : mg "force_at" = some (.ref (ga K "force_at")) := T.glo 42 "force_at"
theorem T_moment_square (T : Tx K mg) : mg "moment_square" = some (.ref (ga K "moment_square")) := T.glo 43 "moment_square"
theorem T_bears_so (T : Tx K mg) : mg "bears_so" = some (.ref (ga K "bears_so")) := T.glo 44 "bears_so"
theorem T_holds (T : Tx K mg) : mg "holds" = some (.ref (ga K "holds")) := T.glo 45 "holds"
theorem T_failing (T : Tx K mg) : mg "failing" = some (.ref (ga K "failing")) := T.glo 46 "failing"
theorem T_strain (T : Tx K mg) : mg "strain" = some (.ref (ga K "strain")) := T.glo 47 "strain"
theorem T_part_may_be (T : Tx K mg) : mg "part_may_be" = some (.ref (ga K "part_may_be")) := T.glo 48 "part_may_be"
theorem T_vector_may_be (T : Tx K mg) : mg "vector_may_be" = some (.ref (ga K "vector_may_be")) := T.glo 49 "vector_may_be"
theorem T_strength_may_be (T : Tx K mg) : mg "strength_may_be" = some (.ref (ga K "strength_may_be")) := T.glo 50 "strength_may_be"
theorem T_greatest_divisor (T : Tx K mg) : mg "greatest_divisor" = some (.ref (ga K "greatest_divisor")) := T.glo 51 "greatest_divisor"
theorem T_told (T : Tx K mg) : mg "told" = some (.ref (ga K "told")) := T.glo 52 "told"
theorem T_told_vector (T : Tx K mg) : mg "told_vector" = some (.ref (ga K "told_vector")) := T.glo 53 "told_vector"
theorem T_place (T : Tx K mg) : mg "place" = some (.ref (ga K "place")) := T.glo 54 "place"
theorem T_pull (T : Tx K mg) : mg "pull" = some (.ref (ga K "pull")) := T.glo 55 "pull"
theorem T_bears (T : Tx K mg) : mg "bears" = some (.ref (ga K "bears")) := T.glo 56 "bears"
theorem T_worst (T : Tx K mg) : mg "worst" = some (.ref (ga K "worst")) := T.glo 57 "worst"
theorem T_lowest (T : Tx K mg) : mg "lowest" = some (.ref (ga K "lowest")) := T.glo 58 "lowest"
theorem T_all_forces (T : Tx K mg) : mg "all_forces" = some (.ref (ga K "all_forces")) := T.glo 59 "all_forces"
theorem T_counts (T : Tx K mg) : mg "counts" = some (.ref (ga K "counts")) := T.glo 60 "counts"
theorem T_begin (T : Tx K mg) : mg "begin" = some (.ref (ga K "begin")) := T.glo 61 "begin"
theorem T_added_node (T : Tx K mg) : mg "added_node" = some (.ref (ga K "added_node")) := T.glo 62 "added_node"
theorem T_fix (T : Tx K mg) : mg "fix" = some (.ref (ga K "fix")) := T.glo 63 "fix"
theorem T_free (T : Tx K mg) : mg "free" = some (.ref (ga K "free")) := T.glo 64 "free"
theorem T_lead (T : Tx K mg) : mg "lead" = some (.ref (ga K "lead")) := T.glo 65 "lead"
theorem T_tune (T : Tx K mg) : mg "tune" = some (.ref (ga K "tune")) := T.glo 66 "tune"
theorem T_cut (T : Tx K mg) : mg "cut" = some (.ref (ga K "cut")) := T.glo 67 "cut"
theorem T_load (T : Tx K mg) : mg "load" = some (.ref (ga K "load")) := T.glo 68 "load"
theorem T_shift (T : Tx K mg) : mg "shift" = some (.ref (ga K "shift")) := T.glo 69 "shift"
theorem T_would (T : Tx K mg) : mg "would" = some (.ref (ga K "would")) := T.glo 70 "would"
theorem T_reach (T : Tx K mg) : mg "reach" = some (.ref (ga K "reach")) := T.glo 71 "reach"
theorem T_growth (T : Tx K mg) : mg "growth" = some (.ref (ga K "growth")) := T.glo 72 "growth"
theorem T_judge (T : Tx K mg) : mg "judge" = some (.ref (ga K "judge")) := T.glo 73 "judge"
theorem T_row_places (T : Tx K mg) : mg "row_places" = some (.ref (ga K "row_places")) := T.glo 74 "row_places"
theorem T_left_over (T : Tx K mg) : mg "left_over" = some (.ref (ga K "left_over")) := T.glo 75 "left_over"
theorem T_breaks (T : Tx K mg) : mg "breaks" = some (.ref (ga K "breaks")) := T.glo 76 "breaks"
theorem T_numbers_from (T : Tx K mg) : mg "numbers_from" = some (.ref (ga K "numbers_from")) := T.glo 77 "numbers_from"
theorem T_answers (T : Tx K mg) : mg "answers" = some (.ref (ga K "answers")) := T.glo 78 "answers"
theorem T_len (T : Tx K mg) : mg "len" = none := T.free 79 "len"
theorem T_range (T : Tx K mg) : mg "range" = none := T.free 80 "range"
theorem T_list (T : Tx K mg) : mg "list" = none := T.free 81 "list"
theorem T_all (T : Tx K mg) : mg "all" = none := T.free 82 "all"
theorem T_any (T : Tx K mg) : mg "any" = none := T.free 83 "any"
theorem T_sum (T : Tx K mg) : mg "sum" = none := T.free 84 "sum"
theorem T_abs (T : Tx K mg) : mg "abs" = none := T.free 85 "abs"
theorem T_zip (T : Tx K mg) : mg "zip" = none := T.free 86 "zip"
theorem T_enumerate (T : Tx K mg) : mg "enumerate" = none := T.free 87 "enumerate"
theorem T_THOUSAND (T : Tx K mg) : ∃ t, mg "THOUSAND" = some (.int (1000) t) := T.int 88 "THOUSAND" (1000)
theorem T_NOT_SO (T : Tx K mg) : ∃ t, mg "NOT_SO" = some (.int (-1) t) := T.int 89 "NOT_SO" (-1)
theorem T_NO_SUCH (T : Tx K mg) : ∃ t, mg "NO_SUCH" = some (.int (-4) t) := T.int 90 "NO_SUCH" (-4)
theorem T_OTHER_KIND (T : Tx K mg) : ∃ t, mg "OTHER_KIND" = some (.int (-5) t) := T.int 91 "OTHER_KIND" (-5)
theorem T_NO_ROOM (T : Tx K mg) : ∃ t, mg "NO_ROOM" = some (.int (-6) t) := T.int 92 "NO_ROOM" (-6)
theorem T_AS_TOLD (T : Tx K mg) : ∃ t, mg "AS_TOLD" = some (.int (-7) t) := T.int 93 "AS_TOLD" (-7)
theorem T_MOST_NODES (T : Tx K mg) : ∃ t, mg "MOST_NODES" = some (.int (24) t) := T.int 94 "MOST_NODES" (24)
theorem T_MOST_SPANS (T : Tx K mg) : ∃ t, mg "MOST_SPANS" = some (.int (40) t) := T.int 95 "MOST_SPANS" (40)
theorem T_GREATEST_PART (T : Tx K mg) : ∃ t, mg "GREATEST_PART" = some (.int (99999) t) := T.int 96 "GREATEST_PART" (99999)
theorem T_GREATEST_STRENGTH (T : Tx K mg) : ∃ t, mg "GREATEST_STRENGTH" = some (.int (999999) t) := T.int 97 "GREATEST_STRENGTH" (999999)
theorem T_JUDGE (T : Tx K mg) : ∃ t, mg "JUDGE" = some (.int (16) t) := T.int 98 "JUDGE" (16)
theorem T_DEEDS (T : Tx K mg) : mg "DEEDS" = some (.ref (ga K "DEEDS")) := T.glo 99 "DEEDS"
theorem T_SIZES (T : Tx K mg) : mg "SIZES" = some (.ref (ga K "SIZES")) := T.glo 100 "SIZES"
end
abbrev N_Node : List Str := ["self", "fixed", "vector", "bound"]
theorem sc_Node : FnScope N_Node ["self", "fixed", "vector", "bound"] (defScope (inClass (top 1) 0)) := ⟨rfl, rfl, rfl, by decide +kernel, rfl, by decide +kernel, by decide +kernel⟩
abbrev N_Span : List Str := ["self", "first", "second", "density", "there"]
theorem sc_Span : FnScope N_Span ["self", "first", "second", "density", "there"] (defScope (inClass (top 2) 0)) := ⟨rfl, rfl, rfl, by decide +kernel, rfl, by decide +kernel, by decide +kernel⟩
abbrev N_Net : List Str := ["self"]
theorem sc_Net : FnScope N_Net ["self"] (defScope (inClass (top 3) 0)) := ⟨rfl, rfl, rfl, by decide +kernel, rfl, by decide +kernel, by decide +kernel⟩
abbrev N_Balance : List Str := ["self", "hangs", "bottom", "places"]
theorem sc_Balance : FnScope N_Balance ["self", "hangs", "bottom", "places"] (defScope (inClass (top 13) 0)) := ⟨rfl, rfl, rfl, by decide +kernel, rfl, by decide +kernel, by decide +kernel⟩
abbrev N_is_node : List Str := ["net", "i"]
theorem sc_is_node : FnScope N_is_node ["net", "i"] (defScope (top 4)) := ⟨rfl, rfl, rfl, by decide +kernel, rfl, by decide +kernel, by decide +kernel⟩
abbrev N_is_span : List Str := ["net", "s"]
theorem sc_is_span : FnScope N_is_span ["net", "s"] (defScope (top 5)) := ⟨rfl, rfl, rfl, by decide +kernel, rfl, by decide +kernel, by decide +kernel⟩
abbrev N_draws : List Str := ["span"]
theorem sc_draws : FnScope N_draws ["span"] (defScope (top 6)) := ⟨rfl, rfl, rfl, by decide +kernel, rfl, by decide +kernel, by decide +kernel⟩
abbrev N_drawing_at : List Str := ["spans", "i", "span"]
theorem sc_drawing_at : FnScope N_drawing_at ["spans", "i"] (defScope (top 7)) := ⟨rfl, rfl, rfl, by decide +kernel, rfl, by decide +kernel, by decide +kernel⟩
abbrev N_other_end : List Str := ["span", "i"]
theorem sc_other_end : FnScope N_other_end ["span", "i"] (defScope (top 8)) := ⟨rfl, rfl, rfl, by decide +kernel, rfl, by decide +kernel, by decide +kernel⟩
abbrev N_with_density : List Str := ["spans", "s", "density", "changed"]
theorem sc_with_density : FnScope N_with_density ["spans", "s", "density"] (defScope (top 9)) := ⟨rfl, rfl, rfl, by decide +kernel, rfl, by decide +kernel, by decide +kernel⟩
abbrev N_without : List Str := ["spans", "s", "changed"]
theorem sc_without : FnScope N_without ["spans", "s"] (defScope (top 10)) := ⟨rfl, rfl, rfl, by decide +kernel, rfl, by decide +kernel, by decide +kernel⟩
abbrev N_hanging : List Str := ["nodes", "spans", "hangs", "drawing", "turn", "span", "node"]
theorem sc_hanging : FnScope N_hanging ["nodes", "spans"] (defScope (top 14)) := ⟨rfl, rfl, rfl, by decide +kernel, rfl, by decide +kernel, by decide +kernel⟩
abbrev N_hanging_knots : List Str := ["nodes", "hangs", "i"]
theorem sc_hanging_knots : FnScope N_hanging_knots ["nodes", "hangs"] (defScope (top 15)) := ⟨rfl, rfl, rfl, by decide +kernel, rfl, by decide +kernel, by decide +kernel⟩
abbrev N_add_draw : List Str := ["row", "nodes", "knots", "own", "other", "density", "axis"]
theorem sc_add_draw : FnScope N_add_draw ["row", "nodes", "knots", "own", "other", "density"] (defScope (top 16)) := ⟨rfl, rfl, rfl, by decide +kernel, rfl, by decide +kernel, by decide +kernel⟩
abbrev N_equations : List Str := ["nodes", "spans", "knots", "rows", "span", "knot", "part"]
theorem sc_equations : FnScope N_equations ["nodes", "spans", "knots"] (defScope (top 17)) := ⟨rfl, rfl, rfl, by decide +kernel, rfl, by decide +kernel, by decide +kernel⟩
abbrev N_solved : List Str := ["rows", "many", "now", "divisor", "at", "lead_row", "row", "other"]
theorem sc_solved : FnScope N_solved ["rows"] (defScope (top 18)) := ⟨rfl, rfl, rfl, by decide +kernel, rfl, by decide +kernel, by decide +kernel⟩
abbrev N_cleared : List Str := ["row", "lead_row", "at", "divisor", "lead", "own", "here", "there"]
theorem sc_cleared : FnScope N_cleared ["row", "lead_row", "at", "divisor"] (defScope (top 19)) := ⟨rfl, rfl, rfl, by decide +kernel, rfl, by decide +kernel, by decide +kernel⟩
abbrev N_balanced : List Str := ["nodes", "spans", "hangs", "knots", "bottom", "answers", "places", "i", "node", "knot", "answer", "part"]
theorem sc_balanced : FnScope N_balanced ["nodes", "spans"] (defScope (top 20)) := ⟨rfl, rfl, rfl, by decide +kernel, rfl, by decide +kernel, by decide +kernel⟩
abbrev N_sways : List Str := ["nodes", "spans", "hangs", "pushed", "knots", "rows", "pushes", "bottom", "answers", "ways", "knot", "answer", "row", "push"]
theorem sc_sways : FnScope N_sways ["nodes", "spans", "hangs", "pushed"] (defScope (top 21)) := ⟨rfl, rfl, rfl, by decide +kernel, rfl, by decide +kernel, by decide +kernel⟩
abbrev N_force_bottom : List Str := ["balance"]
theorem sc_force_bottom : FnScope N_force_bottom ["balance"] (defScope (top 23)) := ⟨rfl, rfl, rfl, by decide +kernel, rfl, by decide +kernel, by decide +kernel⟩
abbrev N_pull_towards : List Str := ["balance", "own", "other", "density", "here", "there", "axis"]
theorem sc_pull_towards : FnScope N_pull_towards ["balance", "own", "other", "density"] (defScope (top 24)) := ⟨rfl, rfl, rfl, by decide +kernel, rfl, by decide +kernel, by decide +kernel⟩
abbrev N_summed : List Str := ["vectors", "total", "vector", "axis"]
theorem sc_summed : FnScope N_summed ["vectors"] (defScope (top 25)) := ⟨rfl, rfl, rfl, by decide +kernel, rfl, by decide +kernel, by decide +kernel⟩
abbrev N_force_at : List Str := ["balance", "spans", "i", "span"]
theorem sc_force_at : FnScope N_force_at ["balance", "spans", "i"] (defScope (top 26)) := ⟨rfl, rfl, rfl, by decide +kernel, rfl, by decide +kernel, by decide +kernel⟩
abbrev N_moment_square : List Str := ["node", "force", "x", "y", "z", "height"]
theorem sc_moment_square : FnScope N_moment_square ["node", "force"] (defScope (top 27)) := ⟨rfl, rfl, rfl, by decide +kernel, rfl, by decide +kernel, by decide +kernel⟩
abbrev N_bears_so : List Str := ["balance", "node", "moment", "bottom"]
theorem sc_bears_so : FnScope N_bears_so ["balance", "node", "moment"] (defScope (top 28)) := ⟨rfl, rfl, rfl, by decide +kernel, rfl, by decide +kernel, by decide +kernel⟩
abbrev N_holds : List Str := ["balance", "nodes", "spans", "i"]
theorem sc_holds : FnScope N_holds ["balance", "nodes", "spans", "i"] (defScope (top 29)) := ⟨rfl, rfl, rfl, by decide +kernel, rfl, by decide +kernel, by decide +kernel⟩
abbrev N_failing : List Str := ["balance", "nodes", "spans", "i"]
theorem sc_failing : FnScope N_failing ["balance", "nodes", "spans"] (defScope (top 30)) := ⟨rfl, rfl, rfl, by decide +kernel, rfl, by decide +kernel, by decide +kernel⟩
abbrev N_strain : List Str := ["balance", "nodes", "spans", "i", "bottom"]
theorem sc_strain : FnScope N_strain ["balance", "nodes", "spans", "i"] (defScope (top 31)) := ⟨rfl, rfl, rfl, by decide +kernel, rfl, by decide +kernel, by decide +kernel⟩
abbrev N_part_may_be : List Str := ["part"]
theorem sc_part_may_be : FnScope N_part_may_be ["part"] (defScope (top 42)) := ⟨rfl, rfl, rfl, by decide +kernel, rfl, by decide +kernel, by decide +kernel⟩
abbrev N_vector_may_be : List Str := ["vector", "part"]
theorem sc_vector_may_be : FnScope N_vector_may_be ["vector"] (defScope (top 43)) := ⟨rfl, rfl, rfl, by decide +kernel, rfl, by decide +kernel, by decide +kernel⟩
abbrev N_strength_may_be : List Str := ["strength"]
theorem sc_strength_may_be : FnScope N_strength_may_be ["strength"] (defScope (top 44)) := ⟨rfl, rfl, rfl, by decide +kernel, rfl, by decide +kernel, by decide +kernel⟩
abbrev N_greatest_divisor : List Str := ["first", "second"]
theorem sc_greatest_divisor : FnScope N_greatest_divisor ["first", "second"] (defScope (top 46)) := ⟨rfl, rfl, rfl, by decide +kernel, rfl, by decide +kernel, by decide +kernel⟩
abbrev N_told : List Str := ["top", "bottom", "divisor"]
theorem sc_told : FnScope N_told ["top", "bottom"] (defScope (top 47)) := ⟨rfl, rfl, rfl, by decide +kernel, rfl, by decide +kernel, by decide +kernel⟩
abbrev N_told_vector : List Str := ["tops", "bottom", "numbers", "top"]
theorem sc_told_vector : FnScope N_told_vector ["tops", "bottom"] (defScope (top 48)) := ⟨rfl, rfl, rfl, by decide +kernel, rfl, by decide +kernel, by decide +kernel⟩
abbrev N_place : List Str := ["net", "numbers", "i", "balance"]
theorem sc_place : FnScope N_place ["net", "numbers"] (defScope (top 50)) := ⟨rfl, rfl, rfl, by decide +kernel, rfl, by decide +kernel, by decide +kernel⟩
abbrev N_pull : List Str := ["net", "numbers", "s", "balance", "span", "drawn", "square", "bottom", "part"]
theorem sc_pull : FnScope N_pull ["net", "numbers"] (defScope (top 51)) := ⟨rfl, rfl, rfl, by decide +kernel, rfl, by decide +kernel, by decide +kernel⟩
abbrev N_bears : List Str := ["net", "numbers", "i", "node", "balance", "force", "moment", "bottom", "answer"]
theorem sc_bears : FnScope N_bears ["net", "numbers"] (defScope (top 52)) := ⟨rfl, rfl, rfl, by decide +kernel, rfl, by decide +kernel, by decide +kernel⟩
abbrev N_worst : List Str := ["net", "numbers", "bounded", "balance", "chosen", "most_top", "most_bottom", "i", "top", "bottom"]
theorem sc_worst : FnScope N_worst ["net", "numbers"] (defScope (top 53)) := ⟨rfl, rfl, rfl, by decide +kernel, rfl, by decide +kernel, by decide +kernel⟩
abbrev N_lowest : List Str := ["net", "numbers", "balance", "knots", "chosen", "knot"]
theorem sc_lowest : FnScope N_lowest ["net", "numbers"] (defScope (top 54)) := ⟨rfl, rfl, rfl, by decide +kernel, rfl, by decide +kernel, by decide +kernel⟩
abbrev N_all_forces : List Str := ["net", "numbers", "balance", "fixed", "total", "i"]
theorem sc_all_forces : FnScope N_all_forces ["net", "numbers"] (defScope (top 55)) := ⟨rfl, rfl, rfl, by decide +kernel, rfl, by decide +kernel, by decide +kernel⟩
abbrev N_counts : List Str := ["net", "numbers", "balance", "there", "knots", "failed", "span", "fails"]
theorem sc_counts : FnScope N_counts ["net", "numbers"] (defScope (top 56)) := ⟨rfl, rfl, rfl, by decide +kernel, rfl, by decide +kernel, by decide +kernel⟩
abbrev N_begin : List Str := ["net", "numbers"]
theorem sc_begin : FnScope N_begin ["net", "numbers"] (defScope (top 58)) := ⟨rfl, rfl, rfl, by decide +kernel, rfl, by decide +kernel, by decide +kernel⟩
abbrev N_added_node : List Str := ["net", "node"]
theorem sc_added_node : FnScope N_added_node ["net", "node"] (defScope (top 59)) := ⟨rfl, rfl, rfl, by decide +kernel, rfl, by decide +kernel, by decide +kernel⟩
abbrev N_fix : List Str := ["net", "numbers", "x", "y", "z", "bound"]
theorem sc_fix : FnScope N_fix ["net", "numbers"] (defScope (top 60)) := ⟨rfl, rfl, rfl, by decide +kernel, rfl, by decide +kernel, by decide +kernel⟩
abbrev N_free : List Str := ["net", "numbers", "x", "y", "z"]
theorem sc_free : FnScope N_free ["net", "numbers"] (defScope (top 61)) := ⟨rfl, rfl, rfl, by decide +kernel, rfl, by decide +kernel, by decide +kernel⟩
abbrev N_lead : List Str := ["net", "numbers", "a", "b", "density"]
theorem sc_lead : FnScope N_lead ["net", "numbers"] (defScope (top 62)) := ⟨rfl, rfl, rfl, by decide +kernel, rfl, by decide +kernel, by decide +kernel⟩
abbrev N_tune : List Str := ["net", "numbers", "s", "density"]
theorem sc_tune : FnScope N_tune ["net", "numbers"] (defScope (top 63)) := ⟨rfl, rfl, rfl, by decide +kernel, rfl, by decide +kernel, by decide +kernel⟩
abbrev N_cut : List Str := ["net", "numbers", "s"]
theorem sc_cut : FnScope N_cut ["net", "numbers"] (defScope (top 64)) := ⟨rfl, rfl, rfl, by decide +kernel, rfl, by decide +kernel, by decide +kernel⟩
abbrev N_load : List Str := ["net", "numbers", "i", "x", "y", "z"]
theorem sc_load : FnScope N_load ["net", "numbers"] (defScope (top 65)) := ⟨rfl, rfl, rfl, by decide +kernel, rfl, by decide +kernel, by decide +kernel⟩
abbrev N_shift : List Str := ["net", "numbers", "i", "x", "y", "z"]
theorem sc_shift : FnScope N_shift ["net", "numbers"] (defScope (top 66)) := ⟨rfl, rfl, rfl, by decide +kernel, rfl, by decide +kernel, by decide +kernel⟩
abbrev N_would : List Str := ["net", "numbers", "s", "density", "i", "now", "then", "moves", "axis"]
theorem sc_would : FnScope N_would ["net", "numbers"] (defScope (top 68)) := ⟨rfl, rfl, rfl, by decide +kernel, rfl, by decide +kernel, by decide +kernel⟩
abbrev N_reach : List Str := ["net", "numbers", "s", "i", "axis", "c", "balance", "span", "top", "bottom"]
theorem sc_reach : FnScope N_reach ["net", "numbers"] (defScope (top 69)) := ⟨rfl, rfl, rfl, by decide +kernel, rfl, by decide +kernel, by decide +kernel⟩
abbrev N_growth : List Str := ["net", "balance", "span", "i", "axis", "c", "ways", "give", "gap", "too_far"]
theorem sc_growth : FnScope N_growth ["net", "balance", "span", "i", "axis", "c"] (defScope (top 70)) := ⟨rfl, rfl, rfl, by decide +kernel, rfl, by decide +kernel, by decide +kernel⟩
abbrev N_judge : List Str := ["net", "numbers", "knots", "places", "knot", "left", "answer", "top", "bottom", "axis"]
theorem sc_judge : FnScope N_judge ["net", "numbers"] (defScope (top 71)) := ⟨rfl, rfl, rfl, by decide +kernel, rfl, by decide +kernel, by decide +kernel⟩
abbrev N_row_places : List Str := ["nodes", "knots", "numbers", "places", "i", "node", "order", "knot", "part", "axis"]
theorem sc_row_places : FnScope N_row_places ["nodes", "knots", "numbers"] (defScope (top 72)) := ⟨rfl, rfl, rfl, by decide +kernel, rfl, by decide +kernel, by decide +kernel⟩
abbrev N_left_over : List Str := ["net", "places", "knot", "axis", "top", "bottom", "own_top", "own_bottom", "span", "other_top", "other_bottom", "pull_top", "pull_bottom"]
theorem sc_left_over : FnScope N_left_over ["net", "places", "knot", "axis"] (defScope (top 73)) := ⟨rfl, rfl, rfl, by decide +kernel, rfl, by decide +kernel, by decide +kernel⟩
abbrev N_breaks : List Str := ["net", "numbers", "s", "spans", "now", "then", "failing_now", "failing_then", "fallen", "broken", "i"]
theorem sc_breaks : FnScope N_breaks ["net", "numbers"] (defScope (top 74)) := ⟨rfl, rfl, rfl, by decide +kernel, rfl, by decide +kernel, by decide +kernel⟩
abbrev N_numbers_from : List Str := ["calls", "at"]
theorem sc_numbers_from : FnScope N_numbers_from ["calls", "at"] (defScope (top 79)) := ⟨rfl, rfl, rfl, by decide +kernel, rfl, by decide +kernel, by decide +kernel⟩
abbrev N_answers : List Str := ["calls", "net", "given", "at", "start", "end", "deed", "answer"]
theorem sc_answers : FnScope N_answers ["calls"] (defScope (top 80)) := ⟨rfl, rfl, rfl, by decide +kernel, rfl, by decide +kernel, by decide +kernel⟩
-- places: is_node:24,4 is_span:25,5 draws:26,6 drawing_at:27,7 other_end:28,8 with_density:29,9 without:30,10 hanging:31,11 hanging_knots:32,12 add_draw:33,13 equations:34,14 solved:35,15 cleared:36,16 balanced:37,17 sways:38,18 force_bottom:39,19 pull_towards:40,20 summed:41,21 force_at:42,22 moment_square:43,23 bears_so:44,24 holds:45,25 failing:46,26 strain:47,27 part_may_be:48,28 vector_may_be:49,29 strength_may_be:50,30 greatest_divisor:51,31 told:52,32 told_vector:53,33 place:54,34 pull:55,35 bears:56,36 worst:57,37 lowest:58,38 all_forces:59,39 counts:60,40 begin:61,41 added_node:62,42 fix:63,43 free:64,44 lead:65,45 tune:66,46 cut:67,47 load:68,48 shift:69,49 would:70,50 reach:71,51 growth:72,52 judge:73,53 row_places:74,54 left_over:75,55 breaks:76,56 numbers_from:77,57 answers:78,58
-- classes: Node:0,2,0 Span:6,8,1 Net:13,15,2 Balance:18,20,3
end Wp

namespace Wp
open PySem PySem.Spec PyProof.Rows L2 Evl
open He (ga ma Fa DefD SaysD)

/-! ### lists by items -/
theorem Paired.at {α β : Type} {R : α → β → Prop} : ∀ {xs : List α} {ys : List β} {i : Nat} {x : α}, Paired R xs ys → xs[i]? = some x → ∃ y, ys[i]? = some y ∧ R x y
  | _, _, _, _, .nil, e => by simp at e
  | _, _, 0, _, .cons r _, e => by simp at e; subst e; exact ⟨_, rfl, r⟩
  | _, _, i + 1, x, .cons _ t, e => by
    obtain ⟨u, h1, h2⟩ := Paired.at (i := i) (x := x) t (by simpa using e)
    exact ⟨u, by simpa using h1, h2⟩
theorem Paired.back {α β : Type} {R : α → β → Prop} : ∀ {xs : List α} {ys : List β} {i : Nat} {y : β}, Paired R xs ys → ys[i]? = some y → ∃ x, xs[i]? = some x ∧ R x y
  | _, _, _, _, .nil, e => by simp at e
  | _, _, 0, _, .cons r _, e => by simp at e; subst e; exact ⟨_, rfl, r⟩
  | _, _, i + 1, y, .cons _ t, e => by
    obtain ⟨u, h1, h2⟩ := Paired.back (i := i) (y := y) t (by simpa using e)
    exact ⟨u, by simpa using h1, h2⟩
theorem Paired.snoc {α β : Type} {R : α → β → Prop} {x : α} {y : β} : ∀ {xs : List α} {ys : List β}, Paired R xs ys → R x y → Paired R (xs ++ [x]) (ys ++ [y])
  | _, _, .nil, h => .cons h .nil
  | _, _, .cons r t, h => .cons r (Paired.snoc t h)
theorem Paired.setAt {α β : Type} {R : α → β → Prop} {x : α} {y : β} (h : R x y) : ∀ {xs : List α} {ys : List β} (i : Nat), Paired R xs ys → Paired R (xs.set i x) (ys.set i y)
  | _, _, _, .nil => .nil
  | _, _, 0, .cons _ t => .cons h t
  | _, _, i + 1, .cons q t => .cons q (Paired.setAt h i t)
theorem Paired.len {α β : Type} {R : α → β → Prop} : ∀ {xs : List α} {ys : List β}, Paired R xs ys → xs.length = ys.length
  | _, _, .nil => rfl
  | _, _, .cons _ t => by rw [List.length_cons, List.length_cons, Paired.len t]
theorem Paired.imp {α β : Type} {R S : α → β → Prop} (f : ∀ a b, R a b → S a b) : ∀ {xs : List α} {ys : List β}, Paired R xs ys → Paired S xs ys
  | _, _, .nil => .nil
  | _, _, .cons r t => .cons (f _ _ r) (Paired.imp f t)
theorem Paired.of_map {α β : Type} {R : α → β → Prop} {f : α → β} (h : ∀ a, R a (f a)) : ∀ xs : List α, Paired R xs (xs.map f)
  | [] => .nil
  | a :: r => .cons (h a) (Paired.of_map h r)
theorem Paired.eq_map {α β : Type} {R : α → β → Prop} {f : α → β} (h : ∀ a b, R a b → b = f a) : ∀ {xs : List α} {ys : List β}, Paired R xs ys → ys = xs.map f
  | _, _, .nil => rfl
  | _, _, .cons r t => by rw [List.map_cons, ← h _ _ r, ← Paired.eq_map h t]
theorem paired_map {α β γ : Type} {R : γ → β → Prop} {f : α → γ} : ∀ {xs : List α} {ys : List β}, Paired (fun a b => R (f a) b) xs ys → Paired R (xs.map f) ys
  | _, _, .nil => .nil
  | _, _, .cons r t => .cons r (paired_map t)
theorem paired_mem {α β : Type} {R R' : α → β → Prop} : ∀ {xs : List α} {ys : List β}, Paired R xs ys → (∀ a b, b ∈ ys → R a b → R' a b) → Paired R' xs ys
  | _, _, .nil, _ => .nil
  | _, _, .cons r t, h => .cons (h _ _ (by simp) r) (paired_mem t fun a b hb => h a b (List.mem_cons_of_mem _ hb))
theorem paired_ix {α β : Type} {R R' : α → β → Prop} : ∀ {xs : List α} {ys : List β}, Paired R xs ys → (∀ (j : Nat) a b, ys[j]? = some b → R a b → R' a b) → Paired R' xs ys
  | _, _, .nil, _ => .nil
  | _, _, .cons r t, h => .cons (h 0 _ _ rfl r) (paired_ix t fun j a b hb => h (j + 1) a b (by simpa using hb))
theorem paired_set {α β : Type} {R R' : α → β → Prop} {x : α} : ∀ {xs : List α} {ys : List β} {i : Nat} {y : β}, Paired R xs ys → ys[i]? = some y → R' x y → (∀ j a b, j ≠ i → ys[j]? = some b → R a b → R' a b) → Paired R' (xs.set i x) ys
  | _, _, _, _, .nil, h, _, _ => by simp at h
  | _, _, 0, _, .cons r t, h, hx, k => by
    have e := Option.some.inj h
    subst e
    exact .cons hx (paired_ix t fun j a b hb q => k (j + 1) a b (by omega) (by simpa using hb) q)
  | _, _, i + 1, _, .cons r t, h, hx, k => .cons (k 0 _ _ (by omega) rfl r) (paired_set (i := i) t (by simpa using h) hx fun j a b hj hb q => k (j + 1) a b (by omega) (by simpa using hb) q)
/-- what is so of an item is so in every heap that has more -/
def Mon {α : Type} (R : Hp → α → V → Prop) : Prop := ∀ H H' x v, Ex H H' → R H x v → R H' x v
def ListOf {α : Type} (R : Hp → α → V → Prop) (H : Hp) (a : Addr) (xs : List α) : Prop := ∃ ys, H a = some (.lst ys) ∧ Paired (R H) xs ys
theorem ListOf.mono {α : Type} {R : Hp → α → V → Prop} (m : Mon R) {H H' : Hp} {a : Addr} {xs : List α} (e : Ex H H') (h : ListOf R H a xs) : ListOf R H' a xs := by
  obtain ⟨ys, h1, h2⟩ := h
  exact ⟨ys, e a _ h1, Paired.imp (fun x v r => m H H' x v e r) h2⟩

/-! ### the program's objects in the heap -/
def natV (i : Nat) : V := .int (i : Int)
def IL (H : Hp) (a : Addr) (l : List Int) : Prop := H a = some (.lst (l.map V.int))
def BL (H : Hp) (a : Addr) (l : List Bool) : Prop := H a = some (.lst (l.map V.bl))
def KL (H : Hp) (a : Addr) (l : List Nat) : Prop := H a = some (.lst (l.map natV))
def RowR (H : Hp) (r : List Int) (v : V) : Prop := ∃ p, v = .ref p ∧ IL H p r
def nodeF (n : MNode) (t : Addr) : List (Str × V) := [("fixed", .bl n.fixed), ("vector", .ref t), ("bound", .int n.bound)]
def spanF (s : MSpan) : List (Str × V) := [("first", natV s.a), ("second", natV s.b), ("density", .int s.d), ("there", .bl s.there)]
def netF (l1 l2 : Addr) : List (Str × V) := [("nodes", .ref l1), ("spans", .ref l2)]
def balF (h : Addr) (b : Int) (p : Addr) : List (Str × V) := [("hangs", .ref h), ("bottom", .int b), ("places", .ref p)]
section
variable (K : PySem.W.Frag)
def NodeR (H : Hp) (n : MNode) (v : V) : Prop := ∃ p dx t, v = .ref p ∧ H p = some (.ins (ga K "Node") dx (nodeF n t)) ∧ H t = some (.tup (n.vec.map V.int))
def SpanR (H : Hp) (s : MSpan) (v : V) : Prop := ∃ p dx, v = .ref p ∧ H p = some (.ins (ga K "Span") dx (spanF s))
def PlaceR (H : Hp) (o : Option (List Int)) (v : V) : Prop := match o with
  | none => v = .non
  | some r => RowR H r v
def BalR (H : Hp) (b : MBal) (v : V) : Prop := ∃ p dx h l, v = .ref p ∧ H p = some (.ins (ga K "Balance") dx (balF h b.bottom l)) ∧ BL H h b.hangs ∧ ListOf PlaceR H l b.places
/-- a net at a, its lists at l1 and l2 -/
structure NetAt (H : Hp) (a : Addr) (l1 l2 : Addr) (N : MNet) : Prop where
  ins : ∃ dx, H a = some (.ins (ga K "Net") dx (netF l1 l2))
  ne : l1 ≠ l2
  nodes : ListOf (NodeR K) H l1 N.nodes
  spans : ListOf (SpanR K) H l2 N.spans
end
section
variable {K : PySem.W.Frag} {H H' : Hp}
theorem IL.mono {a : Addr} {l : List Int} (e : Ex H H') (h : IL H a l) : IL H' a l := e a _ h
theorem BL.mono {a : Addr} {l : List Bool} (e : Ex H H') (h : BL H a l) : BL H' a l := e a _ h
theorem KL.mono {a : Addr} {l : List Nat} (e : Ex H H') (h : KL H a l) : KL H' a l := e a _ h
theorem RowR.mon : Mon RowR := fun _ _ _ _ e ⟨p, h1, h2⟩ => ⟨p, h1, h2.mono e⟩
theorem NodeR.mon : Mon (NodeR K) := fun _ _ _ _ e ⟨p, dx, t, h1, h2, h3⟩ => ⟨p, dx, t, h1, e _ _ h2, e _ _ h3⟩
theorem SpanR.mon : Mon (SpanR K) := fun _ _ _ _ e ⟨p, dx, h1, h2⟩ => ⟨p, dx, h1, e _ _ h2⟩
theorem PlaceR.mon : Mon PlaceR := fun H H' o v e h => by
  cases o with
  | none => exact h
  | some r => exact RowR.mon _ _ _ _ e h
theorem BalR.mon : Mon (BalR K) := fun _ _ _ _ e ⟨p, dx, h, l, h1, h2, h3, h4⟩ => ⟨p, dx, h, l, h1, e _ _ h2, h3.mono e, h4.mono PlaceR.mon e⟩
theorem NetAt.mono {a l1 l2 : Addr} {N : MNet} (e : Ex H H') (h : NetAt K H a l1 l2 N) : NetAt K H' a l1 l2 N :=
  ⟨h.ins.imp fun dx q => e _ _ q, h.ne, h.nodes.mono NodeR.mon e, h.spans.mono SpanR.mon e⟩
theorem IL.sq {a : Addr} {l : List Int} (h : IL H a l) : SqL K H a (l.map V.int) := SqL.of h
theorem BL.sq {a : Addr} {l : List Bool} (h : BL H a l) : SqL K H a (l.map V.bl) := SqL.of h
theorem KL.sq {a : Addr} {l : List Nat} (h : KL H a l) : SqL K H a (l.map natV) := SqL.of h
end
/-! ### fields -/
theorem lk_here {k : Str} {v : V} {r : List (Str × V)} : List.lookup k ((k, v) :: r) = some v := by
  have e : (k == k) = true := beq_self_eq_true k
  simp only [List.lookup, e]
theorem lk_past {k g : Str} {v : V} {r : List (Str × V)} (h : (k == g) = false) : List.lookup k ((g, v) :: r) = List.lookup k r := by
  simp only [List.lookup, h]
theorem put_here {f : Str} {v x : V} {r : List (Str × V)} : putF f v ((f, x) :: r) = (f, v) :: r := if_pos rfl
theorem put_past {f g : Str} {v x : V} {r : List (Str × V)} (h : ¬ g = f) : putF f v ((g, x) :: r) = (g, x) :: putF f v r := if_neg h
theorem l_fixed (n : MNode) (t : Addr) : (nodeF n t).lookup ("fixed" : Str) = some (.bl n.fixed) := lk_here
theorem l_vector (n : MNode) (t : Addr) : (nodeF n t).lookup ("vector" : Str) = some (.ref t) := (lk_past (by decide +kernel)).trans lk_here
theorem l_bound (n : MNode) (t : Addr) : (nodeF n t).lookup ("bound" : Str) = some (.int n.bound) := (lk_past (by decide +kernel)).trans ((lk_past (by decide +kernel)).trans lk_here)
theorem l_first (s : MSpan) : (spanF s).lookup ("first" : Str) = some (natV s.a) := lk_here
theorem l_second (s : MSpan) : (spanF s).lookup ("second" : Str) = some (natV s.b) := (lk_past (by decide +kernel)).trans lk_here
theorem l_density (s : MSpan) : (spanF s).lookup ("density" : Str) = some (.int s.d) := (lk_past (by decide +kernel)).trans ((lk_past (by decide +kernel)).trans lk_here)
theorem l_there (s : MSpan) : (spanF s).lookup ("there" : Str) = some (.bl s.there) := (lk_past (by decide +kernel)).trans ((lk_past (by decide +kernel)).trans ((lk_past (by decide +kernel)).trans lk_here))
theorem l_nodes (a b : Addr) : (netF a b).lookup ("nodes" : Str) = some (.ref a) := lk_here
theorem l_spans (a b : Addr) : (netF a b).lookup ("spans" : Str) = some (.ref b) := (lk_past (by decide +kernel)).trans lk_here
theorem l_hangs (a : Addr) (b : Int) (c : Addr) : (balF a b c).lookup ("hangs" : Str) = some (.ref a) := lk_here
theorem l_bottom (a : Addr) (b : Int) (c : Addr) : (balF a b c).lookup ("bottom" : Str) = some (.int b) := (lk_past (by decide +kernel)).trans lk_here
theorem l_places (a : Addr) (b : Int) (c : Addr) : (balF a b c).lookup ("places" : Str) = some (.ref c) := (lk_past (by decide +kernel)).trans ((lk_past (by decide +kernel)).trans lk_here)

theorem paired_refs {H : Hp} : ∀ {rows : List (List Int)} {as : List Addr}, Paired (fun r q => IL H q r) rows as → Paired (RowR H) rows (as.map V.ref)
  | _, _, .nil => .nil
  | _, _, .cons r t => .cons ⟨_, rfl, r⟩ (paired_refs t)
theorem paired_rep {α : Type} {R : α → V → Prop} {x : α} {v : V} : ∀ (n : Nat), R x v → Paired R (List.replicate n x) (List.replicate n v)
  | 0, _ => .nil
  | n + 1, h => .cons h (paired_rep n h)
theorem fold_set_len {α : Type} (c : Nat → Bool) (f : Nat → α) (n : Nat) {d : α} : ∀ {k : Nat}, ((List.range k).foldl (fun p i => if c i = true then p.set i (f i) else p) (List.replicate n d)).length = n := by
  intro k
  induction k with
  | zero => simp
  | succ k ih =>
    rw [List.range_succ, List.foldl_append]
    show (if c k = true then _ else _ : List α).length = n
    split
    · rw [List.length_set, ih]
    · exact ih
theorem foldSet_len {α β : Type} (f : β → α) : ∀ (l : List (Nat × β)) (p : List α), (l.foldl (fun p x => p.set x.1 (f x.2)) p).length = p.length
  | [], _ => rfl
  | x :: l, p => by rw [List.foldl_cons, foldSet_len f l, List.length_set]
/-! ### what evaluates to something of a kind -/
def EvP (te : TE) (σ : L2.St) (H : Hp) (P : Hp → V → Prop) : Prop := ∀ H1, Ex H H1 → ∀ Q : VK, (∀ v H2, Ex H1 H2 → P H2 v → Q v H2) → te σ H1 Q
def EvAP (ta : TA) (σ : L2.St) (H : Hp) (P : Hp → List V → Prop) : Prop := ∀ H1, Ex H H1 → ∀ Q : List V → Hp → Prop, (∀ vs H2, Ex H1 H2 → P H2 vs → Q vs H2) → ta σ H1 Q
section
variable {K : PySem.W.Frag} {σ : L2.St} {H H' : Hp} {ta tb te tx : TE} {t u : TT} {x y z v : V} {r : R2} {P : Hp → V → Prop}
theorem ev_p (h : Ev te σ H v) : EvP te σ H fun _ x => x = v := fun H1 e _ q => h H1 e _ fun H2 e2 => q v H2 e2 rfl
theorem EvP.ev (h : EvP te σ H P) (k : ∀ H' x, Ex H H' → P H' x → x = v) : Ev te σ H v := fun H1 e _ q => h H1 e _ fun x H2 e2 p => by
  rw [k H2 x (e.trans e2) p]
  exact q H2 e2
theorem EvP.imp {P' : Hp → V → Prop} (h : EvP te σ H P) (k : ∀ H' x, Ex H H' → P H' x → P' H' x) : EvP te σ H P' := fun H1 e _ q => h H1 e _ fun x H2 e2 p => q x H2 e2 (k H2 x (e.trans e2) p)
theorem EvP.mono (e : Ex H H') (h : EvP te σ H P) : EvP te σ H' P := fun H1 a Q q => h H1 (e.trans a) Q q
theorem evl_p {xs : List V} (h : EvL te σ H xs) : EvP te σ H fun H' x => ∃ p, x = .ref p ∧ H' p = some (.lst xs) := fun H1 e _ q => h H1 e _ fun p H2 _ e2 h2 => q _ H2 e2 ⟨p, rfl, h2⟩
/-- a field -/
theorem ev_fld {a C dx : Addr} {fs : List (Str × V)} {f : Str} (h : Ev ta σ H (.ref a)) (ho : H a = some (.ins C dx fs)) (hc : Cls K C) (hn : NoAttr K C f) (hl : fs.lookup f = some v) : Ev (tFld K ta f) σ H v := fun H1 e _ q =>
  h H1 e _ fun H2 e2 => ⟨a, C, dx, fs, v, rfl, (e.trans e2) _ _ ho, hc, hn, hl, q H2 e2⟩
theorem ev_len2 {p : Addr} {xs : List V} {n : Int} (ha : Ev ta σ H (.ref p)) (h : H p = some (.lst xs)) (hn : (xs.length : Int) = n) : Ev (tCB (rLenS K) (tCons ta tNil)) σ H (.int n) := fun H1 e _ q =>
  ha H1 e _ fun H2 e2 => ⟨p, xs, rfl, Or.inl (SqL.of ((e.trans e2) _ _ h)), by rw [hn]; exact q H2 e2⟩
theorem eap_nil : EvAP tNil σ H fun _ vs => vs = [] := fun H1 _ _ q => q [] H1 (Ex.refl H1) rfl
theorem eap_cons {tr : TA} {P : Hp → V → Prop} {R : Hp → List V → Prop} (m : ∀ H H' v, Ex H H' → P H v → P H' v) (h : EvP ta σ H P) (hr : EvAP tr σ H R) : EvAP (tCons ta tr) σ H fun H' vs => ∃ x r, vs = x :: r ∧ P H' x ∧ R H' r := fun H1 e _ q =>
  h H1 e _ fun x H2 e2 p => hr H2 (e.trans e2) _ fun vs H3 e3 p3 => q _ H3 (e2.trans e3) ⟨x, vs, rfl, m _ _ _ e3 p, p3⟩
end
/-! ### comprehensions -/
theorem getD_at {α : Type} {l : List α} {i : Nat} {x d : α} (h : l[i]? = some x) : l.getD i d = x := by
  simp [List.getD, h]
theorem take_snoc {α : Type} {l : List α} {i : Nat} {x : α} (h : l[i]? = some x) : l.take (i + 1) = l.take i ++ [x] := by
  rw [List.take_add_one, h]
  rfl
/-- the heap without what stands at D -/
def hide (D : Addr) (H : Hp) : Hp := fun a => if a = D then none else H a
theorem hide_ne {D a : Addr} {H : Hp} (h : a ≠ D) : hide D H a = H a := if_neg h
theorem hide_ex (D : Addr) (H : Hp) : Ex (hide D H) H := fun a o e => by
  unfold hide at e
  split at e
  · cases e
  · exact e
theorem hide_upd (D : Addr) (H : Hp) (o : HO) : hide D (upd H D o) = hide D H := by
  funext a
  unfold hide upd
  split <;> rfl
theorem hide_mono {D : Addr} {H H' : Hp} (e : Ex H H') : Ex (hide D H) (hide D H') := fun a o h => by
  unfold hide at h ⊢
  split at h
  · cases h
  · rename_i n
    rw [if_neg n]
    exact e a o h
theorem hide_base {D : Addr} {H0 H : Hp} (e : Ex H0 H) (n : H0 D = none) : Ex H0 (hide D H) := fun a o h => by
  rw [hide_ne (ne_of_none h n)]
  exact e a o h
/-- te gives a v of which P holds, whatever stands at D -/
def EvD (D : Addr) (te : TE) (σ : L2.St) (H : Hp) (P : Hp → V → Prop) : Prop := ∀ H1, Ex H H1 → (∃ o, H1 D = some o) → ∀ Q : VK, (∀ v H2, Ex H1 H2 → P (hide D H2) v → Q v H2) → te σ H1 Q
section
variable {σ : L2.St} {H H0 : Hp} {te : TE} {v : V} {P : Hp → V → Prop} {D : Addr}
theorem evd_v (h : Ev te σ H v) (e : Ex H0 H) (n : H0 D = none) (hp : ∀ H', Ex H0 H' → P H' v) : EvD D te σ H P := fun H1 e1 _ Q q => h H1 e1 Q fun H2 e2 => q v H2 e2 (hp _ (hide_base ((e.trans e1).trans e2) n))
theorem evd_l {xs : List V} (h : EvL te σ H xs) (hp : ∀ p H', H' p = some (.lst xs) → P H' (.ref p)) : EvD D te σ H P := fun H1 e1 ⟨o, hD⟩ Q q => h H1 e1 Q fun p H2 hn e2 h2 => q _ H2 e2 (hp p _ (by
  rw [hide_ne (fun e => by rw [e, hD] at hn; cases hn)]
  exact h2))
theorem evd_u {xs : List V} (h : EvU te σ H xs) (hp : ∀ p H', H' p = some (.tup xs) → P H' (.ref p)) : EvD D te σ H P := fun H1 e1 ⟨o, hD⟩ Q q => h H1 e1 Q fun p H2 hn e2 h2 => q _ H2 e2 (hp p _ (by
  rw [hide_ne (fun e => by rw [e, hD] at hn; cases hn)]
  exact h2))
end
def GMono (g : TG) : Prop := ∀ (v : V) (σ : L2.St) (H : Hp) (Q Q' : L2.St → Hp → Prop), g v σ H Q → (∀ σ H, Q σ H → Q' σ H) → g v σ H Q'
theorem gName_mono (i : Nat) : GMono (gName i) := fun _ _ _ _ _ h k => k _ _ h
theorem lc_ok {α : Type} {J : It} {G : Hp → Prop} {Y : Nat → Hp → V → Hp → Prop} {H0 : Hp} {g : TG} {tt : TT} {te : TE} {vs : List Nat} {σ : L2.St} {Q : VK} (xs : List α) (keep : α → Bool) (R : Hp → α → V → Prop) (m : Mon R) (gm : GMono g)
    (w : Walk J xs.length G Y) (hz : xs.length ≤ 40000) (hG : ∀ H, Ex H0 H → G H)
    (turn : ∀ i x it H H' D, xs[i]? = some x → Ex H0 H → H0 D = none → Y i H it H' → g it (wipe σ vs) H' fun σ2 H2 => Ex H H2 ∧ wipe σ2 vs = wipe σ vs ∧ EvT tt σ2 H2 (keep x) ∧ (keep x = true → EvD D te σ2 H2 fun H' v => R H' x v))
    (done : ∀ D ys H, H0 D = none → Ex H0 H → H D = some (.lst ys) → Paired (R (hide D H)) (xs.filter keep) ys → Q (.ref D) H) :
    ∀ D, H0 D = none → ∃ W : Nat → Nat → Hp → Prop, (∃ m, W 0 m (upd H0 D (.lst []))) ∧ ∀ i m H, W i m H →
      (J.stop i H ∧ Q (.ref D) H) ∨ (J.go i H ∧ ∃ Nx : Hp → Prop, (∀ H', Nx H' → ∃ m', m' < m ∧ W (i + 1) m' H') ∧ ∀ x H', J.yld i H x H' → g x (wipe σ vs) H' fun σ2 H2 => wipe σ2 vs = wipe σ vs ∧ tt σ2 H2 fun b H3 =>
        if b = true then te σ2 H3 fun y H4 => ∃ acc, H4 D = some (.lst acc) ∧ acc.length < sizeLine ∧ Nx (upd H4 D (.lst (acc ++ [y]))) else Nx H3) := by
  intro D hD
  refine lc_it w (fun i H => ∃ ys, H D = some (.lst ys) ∧ Ex H0 H ∧ Paired (R (hide D H)) ((xs.take i).filter keep) ys) ⟨[], upd_same, Ex.new hD, by rw [List.take_zero]; exact .nil⟩ (fun i H _ ⟨_, _, e, _⟩ => hG H e) ?_ ?_
  · rintro i it H H' hi ⟨ys, h1, e1, hp⟩ y
    have hx : xs[i]? = some xs[i] := List.getElem?_eq_getElem hi
    refine gm _ _ _ _ _ (turn i xs[i] it H H' D hx e1 hD y) ?_
    rintro σ2 H2 ⟨e2, ew, ht, he⟩
    refine ⟨ew, ht H2 (Ex.refl H2) _ fun H3 e3 => ?_⟩
    have hl : ys.length < sizeLine := by
      have := Paired.len hp
      have h2 : ((xs.take i).filter keep).length ≤ (xs.take i).length := List.length_filter_le _ _
      rw [List.length_take] at h2
      exact Nat.lt_of_le_of_lt (show ys.length ≤ 40000 by omega) (by decide)
    cases hk : keep xs[i] with
    | true =>
      rw [if_pos rfl]
      refine he hk H3 e3 ⟨_, e3 D _ (e2 D _ h1)⟩ _ fun v H4 e4 r => ⟨ys, e4 D _ (e3 D _ (e2 D _ h1)), hl, ys ++ [v], upd_same, Ex.mut (((e1.trans e2).trans e3).trans e4) hD, ?_⟩
      rw [hide_upd, take_snoc hx, List.filter_append, List.filter_cons, if_pos hk, List.filter_nil]
      exact Paired.snoc (Paired.imp (fun a b r => m _ _ _ _ (hide_mono ((e2.trans e3).trans e4)) r) hp) r
    | false =>
      rw [if_neg (by decide)]
      refine ⟨ys, e3 D _ (e2 D _ h1), (e1.trans e2).trans e3, ?_⟩
      rw [take_snoc hx, List.filter_append, List.filter_cons, if_neg (by rw [hk]; decide), List.filter_nil, List.append_nil]
      exact Paired.imp (fun a b r => m _ _ _ _ (hide_mono (e2.trans e3)) r) hp
  · rintro H ⟨ys, h1, e1, hp⟩
    rw [List.take_length] at hp
    exact done D ys H hD e1 h1 hp
end Wp

namespace Wp
open PySem PySem.Spec PyProof.Rows L2 Evl
open He (ga ma Fa DefD SaysD)
/-! ### the rules with the written part named: their readings then hang on no context, so they serve within a comprehension's block -/
section
variable {X : Cx} {K : PySem.W.Frag} {a b e o : Expr} {es : List Expr} {ta tb te to ti : TE} {t : TA} {pos p p2 : Pos} {x : Str}
theorem pe_const {z : Int} (h : ∃ t, X.mg x = some (.int z t)) (hg : Gl X x := by rfl) (hdb : (x == ("__debug__" : Str)) = false := by decide) : PE X (.Name x pos) (tC (.int z)) := by
  obtain ⟨t, h⟩ := h
  exact pe_glob hg h ⟨t, rfl⟩ hdb
theorem pe_globr {x : Str} {q : Addr} (h : X.mg x = some (.ref q)) (hg : Gl X x := by rfl) (hdb : (x == ("__debug__" : Str)) = false := by decide) : PE X (.Name x pos) (tC (.ref q)) := pe_glob hg h rfl hdb
theorem pe_fldK (K : PySem.W.Frag) {f : Str} (he : PE X e te) (hK : X.K = K := by rfl) (hb : attributeBase e f X.env (eval e X.env) = eval e X.env := by rfl) : PE X (.Attribute e f pos) (tFld K te f) := by
  subst hK
  exact pe_fld he hb
theorem pe_ixL (K : PySem.W.Frag) (ha : PE X a ta) (hb : PE X b tb) (hK : X.K = K := by rfl) (hs : PlainIx b := by exact fun _ _ => rfl) : PE X (.Subscript a b pos) (tOp (rIxL K) ta tb) := by
  subst hK
  exact pe_ix ix_list ha hb hs
theorem pe_ixT (K : PySem.W.Frag) (ha : PE X a ta) (hb : PE X b tb) (hK : X.K = K := by rfl) (hs : PlainIx b := by exact fun _ _ => rfl) : PE X (.Subscript a b pos) (tOp (rIxT K) ta tb) := by
  subst hK
  exact pe_ix ix_tup ha hb hs
theorem call_lenK {K : PySem.W.Frag} (hK : X.K = K) : CallR X (.builtin "len") (rLenS K) := by
  subst hK
  exact call_len_seq
theorem call_listK {K : PySem.W.Frag} (hK : X.K = K) : CallR X (.type "list") (rListS K) := by
  subst hK
  exact call_list_of
theorem call_sumK {K : PySem.W.Frag} (hK : X.K = K) (hc : X.calm = true) : CallR X (.builtin "sum") (rSum K) := by
  subst hK
  exact cr_sum hc
theorem call_anyK {K : PySem.W.Frag} (hK : X.K = K) (hc : X.calm = true) : CallR X (.builtin "any") (rAny K) := by
  subst hK
  exact cr_any hc
theorem call_allK {K : PySem.W.Frag} (hK : X.K = K) (hc : X.calm = true) : CallR X (.builtin "all") (rAll K) := by
  subst hK
  exact cr_all hc
theorem pe_len (K : PySem.W.Frag) (hm : X.mg "len" = none) (ha : PA X (e :: es) t) (hK : X.K = K := by rfl) (hg : Gl X "len" := by rfl) (he : starEach (e :: es) X.env = (false, eval e X.env) :: starEach es X.env := by rfl) (hpl : (backTo pos (starEach es X.env)).any (·.1) = false := by rfl) : PE X (.Call (.Name "len" p) (e :: es) [] pos) (tCB (rLenS K) t) :=
  pe_callB (call_lenK hK) hg hm (by decide +kernel) ha (by decide) (by decide) he hpl
theorem pe_sum (K : PySem.W.Frag) (hm : X.mg "sum" = none) (ha : PA X (e :: es) t) (hK : X.K = K := by rfl) (hc : X.calm = true := by rfl) (hg : Gl X "sum" := by rfl) (he : starEach (e :: es) X.env = (false, eval e X.env) :: starEach es X.env := by rfl) (hpl : (backTo pos (starEach es X.env)).any (·.1) = false := by rfl) : PE X (.Call (.Name "sum" p) (e :: es) [] pos) (tCB (rSum K) t) :=
  pe_callB (call_sumK hK hc) hg hm (by decide +kernel) ha (by decide) (by decide) he hpl
theorem pe_any (K : PySem.W.Frag) (hm : X.mg "any" = none) (ha : PA X (e :: es) t) (hK : X.K = K := by rfl) (hc : X.calm = true := by rfl) (hg : Gl X "any" := by rfl) (he : starEach (e :: es) X.env = (false, eval e X.env) :: starEach es X.env := by rfl) (hpl : (backTo pos (starEach es X.env)).any (·.1) = false := by rfl) : PE X (.Call (.Name "any" p) (e :: es) [] pos) (tCB (rAny K) t) :=
  pe_callB (call_anyK hK hc) hg hm (by decide +kernel) ha (by decide) (by decide) he hpl
theorem pe_all (K : PySem.W.Frag) (hm : X.mg "all" = none) (ha : PA X (e :: es) t) (hK : X.K = K := by rfl) (hc : X.calm = true := by rfl) (hg : Gl X "all" := by rfl) (he : starEach (e :: es) X.env = (false, eval e X.env) :: starEach es X.env := by rfl) (hpl : (backTo pos (starEach es X.env)).any (·.1) = false := by rfl) : PE X (.Call (.Name "all" p) (e :: es) [] pos) (tCB (rAll K) t) :=
  pe_callB (call_allK hK hc) hg hm (by decide +kernel) ha (by decide) (by decide) he hpl
def rAbs : List V → Hp → VK → Prop := fun xs H Q => ∃ i, xs = [.int i] ∧ Q (.int (if i < 0 then -i else i)) H
theorem pe_abs (hm : X.mg "abs" = none) (ha : PA X (e :: es) t) (hg : Gl X "abs" := by rfl) (he : starEach (e :: es) X.env = (false, eval e X.env) :: starEach es X.env := by rfl) (hpl : (backTo pos (starEach es X.env)).any (·.1) = false := by rfl) : PE X (.Call (.Name "abs" p) (e :: es) [] pos) (tCB rAbs t) :=
  pe_callB (r := rAbs) call_abs hg hm (by decide +kernel) ha (by decide) (by decide) he hpl
theorem pe_list (K : PySem.W.Frag) (hm : X.mg "list" = none) (ha : PA X (e :: es) t) (hK : X.K = K := by rfl) (hg : Gl X "list" := by rfl) (he : starEach (e :: es) X.env = (false, eval e X.env) :: starEach es X.env := by rfl) (hpl : (backTo pos (starEach es X.env)).any (·.1) = false := by rfl) : PE X (.Call (.Name "list" p) (e :: es) [] pos) (tCB (rListS K) t) :=
  pe_callTy (call_listK hK) hg hm (by decide +kernel) ha (by decide) (by decide) he hpl
theorem pe_sl (K : PySem.W.Frag) {lo hi : Option Expr} {tl th : TO} (he : PE X e te) (hl : PO X lo tl) (hu : PO X hi th) (hK : X.K = K := by rfl) : PE X (.Subscript e (.Slice lo hi none p2) pos) (tSl (rSlL K) te tl th) := by
  subst hK
  exact pe_slice sl_list he hl hu
theorem op_inK (K : PySem.W.Frag) (hK : X.K = K := by rfl) : OpR X (compareOp .In) (rIn K false) := by
  subst hK
  exact op_in_seq
theorem get_listK (K : PySem.W.Frag) (hK : X.K = K := by rfl) : PGet X (rIxL K) := by
  subst hK
  exact get_list
theorem pi_listK (K : PySem.W.Frag) {tg l : Expr} {tl : TE} (hl : PE X l tl) (hK : X.K = K := by rfl) : PI X tg l (iList K tl) := by
  subst hK
  exact pi_list hl
theorem pi_tupK (K : PySem.W.Frag) {tg l : Expr} {tl : TE} (hl : PE X l tl) (hK : X.K = K := by rfl) : PI X tg l (iTup K tl) := by
  subst hK
  exact pi_tup hl
theorem pi_enumK (K : PySem.W.Frag) {tpos : Pos} {elts : List Expr} {kk : Nat} (hm : X.mg "enumerate" = none) (ha : PA X [e] t) (hK : X.K = K := by rfl) (hg : Gl X "enumerate" := by rfl) (hs : starEach [e] X.env = [(false, eval e X.env)] := by rfl) :
    PI X (.Tuple elts kk tpos) (.Call (.Name "enumerate" p) [e] [] pos) (iEnum K t) := by
  subst hK
  exact pi_enum hg hm ha hs
theorem pi_zipK (K : PySem.W.Frag) {e2 : Expr} {tpos : Pos} {elts : List Expr} {kk : Nat} (hm : X.mg "zip" = none) (ha : PA X [e, e2] t) (hK : X.K = K := by rfl) (hg : Gl X "zip" := by rfl)
    (hs : starEach [e, e2] X.env = (false, eval e X.env) :: starEach [e2] X.env := by rfl) (hpl : (backTo pos (starEach [e2] X.env)).any (·.1) = false := by rfl) :
    PI X (.Tuple elts kk tpos) (.Call (.Name "zip" p) [e, e2] [] pos) (iZip K t) := by
  subst hK
  exact pi_zip hg hm ha hs hpl
theorem pi_rangeK {tg : Expr} (hm : X.mg "range" = none) (ha : PA X [a] t) (hg : Gl X "range" := by rfl) (hs : starEach [a] X.env = [(false, eval a X.env)] := by rfl) : PI X tg (.Call (.Name "range" p) [a] [] pos) (iRng1 t) := pi_range1 hg hm ha hs
theorem pg_tupK (K : PySem.W.Frag) {k n : Nat} {tt : TGs} (h : PGs X es tt) (hK : X.K = K := by rfl) (hc : X.calm = true := by rfl)
    (hn : (assignEach es X.env).length = n := by rfl) (hst : (assignEach es X.env).findIdx? (·.1) = none := by rfl) : PG X (.Tuple es k pos) (gTup K n tt) := by
  subst hK
  exact pg_tup hc h hn hst
theorem pg_unlK (K : PySem.W.Frag) {k n : Nat} {tt : TGs} (h : PGs X es tt) (hK : X.K = K := by rfl) (hc : X.calm = true := by rfl)
    (hn : (assignEach es X.env).length = n := by rfl) (hst : (assignEach es X.env).findIdx? (·.1) = none := by rfl) : PG X (.Tuple es k pos) (gUnl K n tt) := by
  subst hK
  exact pg_unl hc h hn hst
theorem pe_makeK (K : PySem.W.Frag) {k : Nat} {ps : List Str} {sp : Sp} (F : OkM X.prog X.w X.K X.mg X.base k x ps sp) (hr : Room (k + 1) X.A) (ha : PA X (e :: es) t) (hK : X.K = K := by rfl) (hg : Gl X x := by rfl) (hdb : (x == ("__debug__" : Str)) = false := by decide)
    (he : starEach (e :: es) X.env = (false, eval e X.env) :: starEach es X.env := by rfl) (hpl : (backTo pos (starEach es X.env)).any (·.1) = false := by rfl) : PE X (.Call (.Name x p) (e :: es) [] pos) (tMake (ga K x) sp [] E0 t) := by
  subst hK
  exact pe_makeD F hr ha hg hdb he hpl
theorem pe_make0K (K : PySem.W.Frag) {k : Nat} {ps : List Str} {sp : Sp} (F : OkM X.prog X.w X.K X.mg X.base k x ps sp) (hr : Room (k + 1) X.A) (hK : X.K = K := by rfl) (hg : Gl X x := by rfl) (hdb : (x == ("__debug__" : Str)) = false := by decide) : PE X (.Call (.Name x p) [] [] pos) (tMake (ga K x) sp [] E0 tNil) := by
  subst hK
  obtain ⟨fd, F1, hb⟩ := F.ex
  exact pe_make0 F.makes F1 hr hg F.gl hb .nil pass0 hdb
theorem ps_fldK (K : PySem.W.Frag) {value : Expr} {f : Str} {pos' : Pos} {tv : TE} (ha : PE X o ta) (hv : PE X value tv) (hK : X.K = K := by rfl) (hs : swapsWith value (some (.Attribute o f pos')) pos.line X.env = pure false := by rfl) : PS X (.Assign [.Attribute o f pos'] value pos) (sFld K ta tv f) := by
  subst hK
  exact ps_fld ha hv hs
/-- a statement's reading, opened -/
theorem u_asg {te : TE} {g : TG} {tz : TS} {D : Ends} {σ : L2.St} {H : Hp} (h : te σ H fun x H1 => g x σ H1 fun σ' H' => tz D σ' H') : tSeq (tAsg te g) tz D σ H := h
theorem u_asg1 {te : TE} {g : TG} {D : Ends} {σ : L2.St} {H : Hp} (h : te σ H fun x H1 => g x σ H1 D.nx) : tAsg te g D σ H := h
theorem u_ret {te : TE} {D : Ends} {σ : L2.St} {H : Hp} (h : te σ H D.rt) : tRet te D σ H := h
theorem u_drop {te : TE} {tz : TS} {D : Ends} {σ : L2.St} {H : Hp} (h : te σ H fun _ H1 => tz D σ H1) : tSeq (tDrop te) tz D σ H := h
/-- methods of lists -/
theorem pe_lm (K : PySem.W.Frag) {m : Str} {id : String} {r : V → List V → Hp → VK → Prop} {apos cpos : Pos} (slot : Slot "list" m id) (hty : typeOf (.builtin id) = pure (.type "method_descriptor")) (hm : MtR X id r) (ho : PE X o to) (ha : PA X (e :: es) t) (hK : X.K = K := by rfl)
    (hbase : attributeBase o m X.env (eval o X.env) = eval o X.env := by rfl)
    (hfew : ((backTo cpos (starEach (e :: es) X.env)).all (fun x => !x.1) && (backToKw cpos (keywordEach [] X.env)).all (fun x => x.1.isSome)
      && decide ((e :: es).length + ([] : List Keyword).length + (if ([] : List Keyword).isEmpty then 0 else 1) < 30)) = true := by rfl)
    (hline : (apos.endLine == cpos.line) = true := by rfl) (hs : starEach (e :: es) X.env = (false, eval e X.env) :: starEach es X.env := by rfl) (hplain : (backTo cpos (starEach es X.env)).any (·.1) = false := by rfl) :
    PE X (.Call (.Attribute o m apos) (e :: es) [] cpos) (tBM K "list" r to t) := by
  subst hK
  exact pe_bm PySem.F.plainAttrs_list slot hty hm ho ha hbase hfew hline hs hplain
theorem mt_indexK {K : PySem.W.Frag} (hK : X.K = K) : MtR X "list.index" (rIndex K) := by
  subst hK
  exact mt_index
end

/-- the scope of the comprehension that the i-th statement of a def assigns -/
def lcSc (st : Stmt) (i : Nat) : Scope := match (defBody st)[i]? with
  | some (.Assign _ (.ListComp _ _ sc _) _) => sc
  | _ => { kind := .function, names := [], isGenerator := false, isCoroutine := false }
/-! ### where a comprehension's items come from -/
def Src (wi : TI) (σ : L2.St) (H : Hp) {α : Type} (xs : List α) (Z : Hp → Hp → α → V → Hp → Prop) : Prop := ∀ H1, Ex H H1 → ∀ R : It → Hp → Prop,
  (∀ J H2 G Y, Ex H1 H2 → Walk J xs.length G Y → (∀ H3, Ex H2 H3 → G H3) → (∀ i x H3 it H4, xs[i]? = some x → Ex H2 H3 → Y i H3 it H4 → Z H2 H3 x it H4) → R J H2) → wi σ H1 R
/-- te gives a new list of which P holds -/
def EvLP (te : TE) (σ : L2.St) (H : Hp) (P : Hp → List V → Prop) : Prop := ∀ H1, Ex H H1 → ∀ Q : VK, (∀ p zs H2, H1 p = none → Ex H1 H2 → H2 p = some (.lst zs) → P (hide p H2) zs → Q (.ref p) H2) → te σ H1 Q
section
variable {K : PySem.W.Frag} {σ : L2.St} {H : Hp} {te tl : TE} {ta : TA}
theorem src_list {α : Type} {a : Addr} {ys : List V} {xs : List α} {R : Hp → α → V → Prop} (m : Mon R) (h : Ev tl σ H (.ref a)) (hs : SqL K H a ys) (hp : Paired (R H) xs ys) : Src (iList K tl) σ H xs fun H2 H3 x it H4 => H4 = H3 ∧ R H2 x it := fun H1 e R' q =>
  h H1 e _ fun H2 e2 => ⟨a, rfl, ⟨ys, ex_l (e.trans e2) hs⟩, q _ H2 _ _ e2 (by rw [Paired.len hp]; exact walk_list (xs := ys)) (fun H3 e3 => ex_l ((e.trans e2).trans e3) hs) fun i x H3 it H4 hx e3 y => by
    obtain ⟨v, hv, r⟩ := Paired.at hp hx
    obtain ⟨rfl, hit⟩ := y
    obtain rfl : v = it := Option.some.inj (hv.symm.trans hit)
    exact ⟨rfl, m _ _ _ _ (e.trans e2) r⟩⟩
/-- over a new list -/
theorem src_new {α : Type} {xs : List α} {R : Hp → α → V → Prop} (m : Mon R) (h : EvLP tl σ H fun H' zs => Paired (R H') xs zs) : Src (iList K tl) σ H xs fun H2 H3 x it H4 => H4 = H3 ∧ R H2 x it := fun H1 e R' q =>
  h H1 e _ fun a ys H2 ha e2 h2 hp => ⟨a, rfl, ⟨ys, SqL.of h2⟩, q _ H2 _ _ e2 (by rw [Paired.len hp]; exact walk_list (xs := ys)) (fun H3 e3 => SqL.of (e3 _ _ h2)) fun i x H3 it H4 hx e3 y => by
    obtain ⟨v, hv, r⟩ := Paired.at hp hx
    obtain ⟨rfl, hit⟩ := y
    obtain rfl : v = it := Option.some.inj (hv.symm.trans hit)
    exact ⟨rfl, m _ _ _ _ (hide_ex a H2) r⟩⟩
theorem src_tup {α : Type} {a : Addr} {ys : List V} {xs : List α} {R : Hp → α → V → Prop} (m : Mon R) (h : Ev tl σ H (.ref a)) (hs : SqT K H a ys) (hp : Paired (R H) xs ys) : Src (iTup K tl) σ H xs fun H2 H3 x it H4 => H4 = H3 ∧ R H2 x it := fun H1 e R' q =>
  h H1 e _ fun H2 e2 => ⟨a, rfl, ⟨ys, ex_t (e.trans e2) hs⟩, q _ H2 _ _ e2 (by rw [Paired.len hp]; exact walk_tup (xs := ys)) (fun H3 e3 => ex_t ((e.trans e2).trans e3) hs) fun i x H3 it H4 hx e3 y => by
    obtain ⟨v, hv, r⟩ := Paired.at hp hx
    obtain ⟨rfl, hit⟩ := y
    obtain rfl : v = it := Option.some.inj (hv.symm.trans hit)
    exact ⟨rfl, m _ _ _ _ (e.trans e2) r⟩⟩
theorem src_range {n : Nat} (h : EvA ta σ H [.int (n : Int)]) (hn : n ≤ 100000) : Src (iRng1 ta) σ H (List.range n) fun _ H3 i it H4 => H4 = H3 ∧ it = natV i := fun H1 e R' q =>
  h H1 e _ fun H2 e2 => ⟨(n : Int), rfl, by omega, by omega, q _ H2 _ _ e2 (by rw [List.length_range, Int.toNat_natCast]; exact walk_range) (fun _ _ => trivial) fun i x H3 it H4 hx e3 y => by
    obtain ⟨rfl, rfl⟩ := y
    rw [List.getElem?_range (by have := (List.getElem?_eq_some_iff.mp hx).1; simpa using this)] at hx
    obtain rfl := Option.some.inj hx
    exact ⟨rfl, by show V.int (0 + (i : Int)) = V.int (i : Int); rw [Int.zero_add]⟩⟩
theorem src_enum {α : Type} {a : Addr} {ys : List V} {xs : List α} {R : Hp → α → V → Prop} (m : Mon R) (h : EvA ta σ H [.ref a]) (hs : SqL K H a ys) (hp : Paired (R H) xs ys) :
    Src (iEnum K ta) σ H xs.zipIdx fun H2 H3 x it H4 => ∃ T v, it = .ref T ∧ H3 T = none ∧ H4 = upd H3 T (.tup [natV x.2, v]) ∧ R H2 x.1 v := fun H1 e R' q =>
  h H1 e _ fun H2 e2 => ⟨a, ys, rfl, ex_l (e.trans e2) hs, q _ H2 _ _ e2 (by rw [List.length_zipIdx, Paired.len hp]; exact walk_enum (xs := ys)) (fun H3 e3 => ex_l ((e.trans e2).trans e3) hs) fun i x H3 it H4 hx e3 y => by
    rw [List.getElem?_zipIdx] at hx
    obtain ⟨T, x1, x2, rfl, hT, rfl, h1, h2⟩ := y
    cases hq : xs[i]? with
    | none => rw [hq] at hx; cases hx
    | some z =>
      rw [hq] at hx
      obtain rfl := Option.some.inj hx
      obtain ⟨v, hv, r⟩ := Paired.at hp hq
      obtain rfl : v = x2 := Option.some.inj (hv.symm.trans h2)
      have e1 : x1 = natV i := (Option.some.inj h1).symm
      subst e1
      exact ⟨T, v, rfl, hT, by simp, m _ _ _ _ (e.trans e2) r⟩⟩
theorem src_zip {α β : Type} {a b : Addr} {ys zs : List V} {xs : List α} {us : List β} {R : Hp → α → V → Prop} {S : Hp → β → V → Prop} (m : Mon R) (m2 : Mon S) (h : EvA ta σ H [.ref a, .ref b]) (hs : SqL K H a ys) (hs2 : SqL K H b zs) (hp : Paired (R H) xs ys) (hp2 : Paired (S H) us zs) :
    Src (iZip K ta) σ H (xs.zip us) fun H2 H3 x it H4 => ∃ T v v2, it = .ref T ∧ H3 T = none ∧ H4 = upd H3 T (.tup [v, v2]) ∧ R H2 x.1 v ∧ S H2 x.2 v2 := fun H1 e R' q =>
  h H1 e _ fun H2 e2 => ⟨a, b, ys, zs, rfl, ex_l (e.trans e2) hs, ex_l (e.trans e2) hs2, q _ H2 _ _ e2 (walk_zip (by rw [List.length_zip, Paired.len hp, Paired.len hp2])) (fun H3 e3 => ⟨ex_l ((e.trans e2).trans e3) hs, ex_l ((e.trans e2).trans e3) hs2⟩) fun i x H3 it H4 hx e3 y => by
    obtain ⟨T, x1, x2, rfl, hT, rfl, h1, h2⟩ := y
    rw [List.getElem?_zip_eq_some] at hx
    obtain ⟨v, hv, r⟩ := Paired.at hp hx.1
    obtain ⟨v2, hv2, r2⟩ := Paired.at hp2 hx.2
    obtain rfl : v = x1 := Option.some.inj (hv.symm.trans h1)
    obtain rfl : v2 = x2 := Option.some.inj (hv2.symm.trans h2)
    exact ⟨T, v, v2, rfl, hT, rfl, m _ _ _ _ (e.trans e2) r, m2 _ _ _ _ (e.trans e2) r2⟩⟩
/-- a comprehension -/
theorem elp_lc {α : Type} {wi : TI} {g : TG} {tt : TT} {vs : List Nat} {xs : List α} {Z : Hp → Hp → α → V → Hp → Prop} (S : Src wi σ H xs Z) (keep : α → Bool) (R : Hp → α → V → Prop) (m : Mon R) (gm : GMono g) (hz : xs.length ≤ 40000)
    (turn : ∀ (i : Nat) x it H2 H3 H4 D, xs[i]? = some x → Ex H H2 → Ex H2 H3 → H2 D = none → Z H2 H3 x it H4 → g it (wipe σ vs) H4 fun σ2 H5 => Ex H3 H5 ∧ wipe σ2 vs = wipe σ vs ∧ EvT tt σ2 H5 (keep x) ∧ (keep x = true → EvD D te σ2 H5 fun H' v => R H' x v)) :
    EvLP (tLc wi g tt te vs) σ H fun H' zs => Paired (R H') (xs.filter keep) zs := fun H1 e Q q =>
  S H1 e _ fun J H2 G Y e2 w hG hY => lc_ok (H0 := H2) (G := G) (Y := Y) xs keep R m gm w hz hG (fun i x it H3 H4 D hx e3 hD y => turn i x it H2 H3 H4 D hx (e.trans e2) e3 hD (hY i x H3 it H4 hx e3 y))
    fun D zs H3 hD e3 h3 hp => q D zs H3 (fresh_back e2 hD) (e2.trans e3) h3 hp
/-- .. of values that are reckoned -/
theorem el_lc {α : Type} {wi : TI} {g : TG} {tt : TT} {vs : List Nat} {xs : List α} {Z : Hp → Hp → α → V → Hp → Prop} (S : Src wi σ H xs Z) (keep : α → Bool) (f : α → V) (gm : GMono g) (hz : xs.length ≤ 40000)
    (turn : ∀ (i : Nat) x it H2 H3 H4, xs[i]? = some x → Ex H H2 → Ex H2 H3 → Z H2 H3 x it H4 → g it (wipe σ vs) H4 fun σ2 H5 => Ex H3 H5 ∧ wipe σ2 vs = wipe σ vs ∧ EvT tt σ2 H5 (keep x) ∧ (keep x = true → Ev te σ2 H5 (f x))) :
    EvL (tLc wi g tt te vs) σ H ((xs.filter keep).map f) := fun H1 e Q q =>
  elp_lc (te := te) S keep (fun _ x v => v = f x) (fun _ _ _ _ _ h => h) gm hz (fun i x it H2 H3 H4 D hx e2 e3 hD z => gm _ _ _ _ _ (turn i x it H2 H3 H4 hx e2 e3 z) fun σ2 H5 ⟨a1, a2, a3, a4⟩ => ⟨a1, a2, a3, fun hk H6 e6 _ Q q => a4 hk H6 e6 Q fun H7 e7 => q _ H7 e7 rfl⟩) H1 e Q fun p zs H2 hp e2 h2 h3 => by
    have e3 := Paired.eq_map (fun _ _ h => h) h3
    subst e3
    exact q p H2 hp e2 h2
theorem et_yes : EvT tYes σ H true := fun H1 _ _ q => q H1 (Ex.refl H1)
theorem EvL.lp {xs : List V} {P : Hp → List V → Prop} (h : EvL te σ H xs) (k : ∀ H', P H' xs) : EvLP te σ H P := fun H1 e Q q => h H1 e Q fun p H2 hp e2 h2 => q p xs H2 hp e2 h2 (k _)
theorem EvLP.imp {P P' : Hp → List V → Prop} (h : EvLP te σ H P) (k : ∀ H' zs, P H' zs → P' H' zs) : EvLP te σ H P' := fun H1 e Q q => h H1 e Q fun p zs H2 hp e2 h2 h3 => q p zs H2 hp e2 h2 (k _ _ h3)
end
section
variable {K : PySem.W.Frag} {σ : L2.St} {H : Hp} {te : TE}
theorem el_is {xs ys : List V} (h : EvL te σ H xs) (e : xs = ys) : EvL te σ H ys := by
  rw [← e]
  exact h
theorem ev_allL {bs : List Bool} (h : EvL te σ H (bs.map V.bl)) : Ev (tCB (rAll K) (tCons te tNil)) σ H (.bl (bs.all id)) := fun H1 e _ q => h H1 e _ fun p H2 _ e2 h2 => ⟨p, bs, rfl, SqL.of h2, q H2 e2⟩
theorem ev_anyL {bs : List Bool} (h : EvL te σ H (bs.map V.bl)) : Ev (tCB (rAny K) (tCons te tNil)) σ H (.bl (bs.any id)) := fun H1 e _ q => h H1 e _ fun p H2 _ e2 h2 => ⟨p, bs, rfl, SqL.of h2, q H2 e2⟩
theorem ev_sumL {bs : List Int} (h : EvL te σ H (bs.map V.int)) : Ev (tCB (rSum K) (tCons te tNil)) σ H (.int bs.sum) := fun H1 e _ q => h H1 e _ fun p H2 _ e2 h2 => ⟨p, bs, rfl, SqL.of h2, q H2 e2⟩
end
/-- a promise: a new list of which P holds -/
def RetLP (H : Hp) (Q : VK) (P : Hp → List V → Prop) : Prop := ∀ p zs H', H p = none → Ex H H' → H' p = some (.lst zs) → P (hide p H') zs → Q (.ref p) H'
section
variable {K : PySem.W.Frag} {σ : L2.St} {H : Hp} {te : TE} {ta : TA}
theorem elp_call {sp : Sp} {vs : List V} {P : Hp → List V → Prop} (h : EvA ta σ H vs) (hs : ∀ H1, Ex H H1 → ∀ Q E, RetLP H1 Q P → sp vs H1 Q E) : EvLP (tCall sp [] E0 ta) σ H P := fun H1 e Q q =>
  h H1 e _ fun H2 e2 => by
    show sp (vs ++ []) H2 Q E0
    rw [List.append_nil]
    exact hs H2 (e.trans e2) Q E0 fun p zs H3 hp e3 h3 hP => q p zs H3 (fresh_back e2 hp) (e2.trans e3) h3 hP
theorem RetLP.go {H H' : Hp} {Q : VK} {P : Hp → List V → Prop} (k : RetLP H Q P) (e : Ex H H') : RetLP H' Q P := fun p zs H2 hp e2 h2 h3 => k p zs H2 (fresh_back e hp) (e.trans e2) h2 h3
end
section
variable {K : PySem.W.Frag} {σ : L2.St} {H : Hp} {ta tb te : TE}
/-- a comprehension that makes a new list of ints a turn: all apart -/
theorem elp_rows {α : Type} {wi : TI} {g : TG} {vs : List Nat} {xs : List α} {Z : Hp → Hp → α → V → Hp → Prop} (S : Src wi σ H xs Z) (f : α → List Int) (gm : GMono g) (hz : xs.length ≤ 40000)
    (turn : ∀ (i : Nat) x it H2 H3 H4, xs[i]? = some x → Ex H H2 → Ex H2 H3 → Z H2 H3 x it H4 → g it (wipe σ vs) H4 fun σ2 H5 => Ex H3 H5 ∧ wipe σ2 vs = wipe σ vs ∧ EvL te σ2 H5 ((f x).map V.int)) :
    ∀ H1, Ex H H1 → ∀ Q : VK, (∀ p as H2, H1 p = none → Ex H1 H2 → H2 p = some (.lst (as.map V.ref)) → as.Nodup → (∀ q ∈ as, H1 q = none ∧ q ≠ p) → Paired (fun r q => IL H2 q r) (xs.map f) as → Q (.ref p) H2) → tLc wi g tYes te vs σ H1 Q := fun H1 e Q q =>
  S H1 e _ fun J H2 G Y e2 w hG hY D hD => lc_it w (fun i H' => ∃ as, H' D = some (.lst (as.map V.ref)) ∧ Ex H2 H' ∧ as.Nodup ∧ (∀ q ∈ as, H2 q = none ∧ q ≠ D) ∧ Paired (fun r q => IL H' q r) ((xs.take i).map f) as) ⟨[], upd_same, Ex.new hD, List.nodup_nil, fun _ h => by simp at h, by rw [List.take_zero]; exact .nil⟩ (fun i H' _ ⟨_, _, e, _⟩ => hG H' e) (by
    rintro i it H3 H4 hi ⟨as, h1, e1, nd, fr, hp⟩ y
    have hx : xs[i]? = some xs[i] := List.getElem?_eq_getElem hi
    refine gm _ _ _ _ _ (turn i xs[i] it H2 H3 H4 hx (e.trans e2) e1 (hY i _ H3 it H4 hx e1 y)) ?_
    rintro σ2 H5 ⟨e5, ew, ht⟩
    refine ⟨ew, ?_⟩
    refine ht H5 (Ex.refl _) _ fun p H6 hp6 e6 h6 => ?_
    have hpD : p ≠ D := fun z => by
      rw [z, e5 _ _ h1] at hp6
      cases hp6
    have hl : (as.map V.ref).length < sizeLine := by
      have := Paired.len hp
      rw [List.length_map, List.length_take] at this
      rw [List.length_map]
      exact Nat.lt_of_le_of_lt (show as.length ≤ 40000 by omega) (by decide)
    refine ⟨as.map V.ref, (e5.trans e6) _ _ h1, hl, as ++ [p], by rw [upd_same, List.map_append]; rfl, Ex.mut ((e1.trans e5).trans e6) hD, ?_, ?_, ?_⟩
    · rw [List.nodup_append]
      refine ⟨nd, by simp, fun a ha b hb => ?_⟩
      have eb : b = p := by simpa using hb
      subst eb
      intro z
      subst z
      obtain ⟨r, _, hr⟩ := Paired.back hp (List.getElem?_eq_getElem (List.idxOf_lt_length_of_mem ha))
      rw [List.getElem_idxOf] at hr
      have h7 := e5 _ _ hr
      rw [h7] at hp6
      cases hp6
    · intro q hq
      rcases List.mem_append.mp hq with hq | hq
      · exact fr q hq
      · have eb : q = p := by simpa using hq
        subst eb
        exact ⟨fresh_back (e1.trans e5) hp6, hpD⟩
    · rw [take_snoc hx, List.map_append]
      refine Paired.snoc (paired_mem hp fun r q hq hr => ?_) (show upd H6 D _ p = _ by rw [upd_ne hpD]; exact h6)
      show upd H6 D _ q = _
      rw [upd_ne (fr q hq).2]
      exact (e5.trans e6) _ _ hr) (fun H3 ⟨as, h1, e1, nd, fr, hp⟩ => q D as H3 (fresh_back e2 hD) (e2.trans e1) h1 nd (fun a ha => ⟨fresh_back e2 (fr a ha).1, (fr a ha).2⟩) (by rw [List.take_length] at hp; exact hp))
theorem el_cat {xs ys : List V} (ha : EvL ta σ H xs) (hb : EvL tb σ H ys) (hz : xs.length + ys.length ≤ 100000) : EvL (tOp rCat ta tb) σ H (xs ++ ys) := fun H1 e Q q =>
  ha H1 e _ fun l H2 hl e2 h2 => hb H2 (e.trans e2) _ fun l2 H3 hl2 e3 h3 => ⟨l, l2, xs, ys, rfl, rfl, e3 _ _ h2, h3, sz_of hz, fun p hp => q p _ (fresh_back (e2.trans e3) hp) ((e2.trans e3).trans (Ex.new hp)) upd_same⟩
theorem el_rep {xs : List V} {n : Nat} (ha : EvL ta σ H xs) (hb : Ev tb σ H (.int (n : Int))) (hn : n ≤ 1000) (hz : xs.length * n ≤ 100000) : EvL (tOp rRep ta tb) σ H ((List.replicate n xs).flatten) := fun H1 e Q q =>
  ha H1 e _ fun l H2 hl e2 h2 => hb H2 (e.trans e2) _ fun H3 e3 => ⟨l, (n : Int), xs, rfl, rfl, e3 _ _ h2, by omega, by omega, by rw [Int.toNat_natCast]; exact sz_of hz, fun p hp => by
    rw [Int.toNat_natCast]
    exact q p _ (fresh_back (e2.trans e3) hp) ((e2.trans e3).trans (Ex.new hp)) upd_same⟩
end
theorem filter_true {α : Type} (l : List α) : l.filter (fun _ => true) = l := List.filter_eq_self.mpr fun _ _ => rfl
end Wp

namespace Wp
open PySem PySem.Spec PyProof.Rows L2 Evl
open He (ga ma Fa DefD SaysD)
section
variable {P : Program} {w : World} {K : PySem.W.Frag} {mg : Str → Option Value} {base : Heap}
theorem natV_eq {a b : Nat} : decide (natV a = natV b) = decide (a = b) := by
  unfold natV
  by_cases h : a = b
  · subst h
    simp
  · have : ¬ V.int (a : Int) = V.int (b : Int) := fun e => h (by injection e with e; omega)
    rw [decide_eq_false h, decide_eq_false this]
/-! ### the classes' __init__ -/
theorem put2 {f g : Str} {v x : V} (h : ¬ g = f) : putF f v (putF g x []) = [(g, x), (f, v)] := put_past h
theorem put3 {f a b : Str} {v x y : V} (h0 : ¬ a = b) (h1 : ¬ a = f) (h2 : ¬ b = f) : putF f v (putF b y (putF a x [])) = [(a, x), (b, y), (f, v)] := by
  rw [put2 h0, put_past h1, put_past h2]
  rfl
theorem put4 {f a b c : Str} {v x y z : V} (h0 : ¬ a = b) (h1 : ¬ a = c) (h2 : ¬ b = c) (h3 : ¬ a = f) (h4 : ¬ b = f) (h5 : ¬ c = f) : putF f v (putF c z (putF b y (putF a x []))) = [(a, x), (b, y), (c, z), (f, v)] := by
  rw [put3 h0 h1 h2, put_past h3, put_past h4, put_past h5]
  rfl
def spNode (K : PySem.W.Frag) : Sp := fun vs H Q _ => ∃ (p dx t : Addr) (f : Bool) (b : Int), vs = [.ref p, .bl f, .ref t, .int b] ∧ H p = some (.ins (ga K "Node") dx []) ∧
  ∀ H', H' p = some (.ins (ga K "Node") dx [("fixed", .bl f), ("vector", .ref t), ("bound", .int b)]) → (∀ a o, H a = some o → a ≠ p → H' a = some o) → Q .non H'
theorem okM_Node (T : Tx K mg) : OkM P w K mg base 1 "Node" ["self", "fixed", "vector", "bound"] (spNode K) := by
  refine T.okM 0 2 0 "Node" "Node.__init__" 1 0 sc_Node (fun vs H Q E h => ?_) (fun _ _ _ _ _ _ us hl => match us, hl with | [_, _, _, _], _ => rfl) (fun cdv A outer s H vs Q E hr h => ?_)
  · obtain ⟨_, _, _, _, _, rfl, _⟩ := h
    rfl
  · obtain ⟨p, dx, t, f, b, rfl, hp, k⟩ := h
    refine ⟨_, (pss_cons (ps_fldK K (pv 0) (pv 1))
        (pss_cons (ps_fldK K (pv 0) (pv 2))
        (pss_one (ps_fldK K (pv 0) (pv 3))))), ?_⟩
    refine ⟨_, rfl, _, rfl, p, _, dx, [], rfl, hp, C_Node T, F_Node_fixed T, (by show 0 < 1000; decide), ?_⟩
    refine ⟨_, rfl, _, rfl, p, _, dx, _, rfl, upd_same, C_Node T, F_Node_vector T, (by show 1 < 1000; decide), ?_⟩
    refine ⟨_, rfl, _, rfl, p, _, dx, _, rfl, upd_same, C_Node T, F_Node_bound T, (by show 2 < 1000; decide), ?_⟩
    refine k _ ?_ fun a o e n => by
      rw [upd_ne n, upd_ne n, upd_ne n]
      exact e
    rw [upd_same, put3 (a := "fixed") (b := "vector") (f := "bound") (by decide +kernel) (by decide +kernel) (by decide +kernel)]
def spSpan (K : PySem.W.Frag) : Sp := fun vs H Q _ => ∃ (p dx : Addr) (s : MSpan), vs = [.ref p, natV s.a, natV s.b, .int s.d, .bl s.there] ∧ H p = some (.ins (ga K "Span") dx []) ∧
  ∀ H', H' p = some (.ins (ga K "Span") dx (spanF s)) → (∀ a o, H a = some o → a ≠ p → H' a = some o) → Q .non H'
theorem okM_Span (T : Tx K mg) : OkM P w K mg base 1 "Span" ["self", "first", "second", "density", "there"] (spSpan K) := by
  refine T.okM 6 8 1 "Span" "Span.__init__" 2 0 sc_Span (fun vs H Q E h => ?_) (fun _ _ _ _ _ _ us hl => match us, hl with | [_, _, _, _, _], _ => rfl) (fun cdv A outer s H vs Q E hr h => ?_)
  · obtain ⟨_, _, _, rfl, _⟩ := h
    rfl
  · obtain ⟨p, dx, s, rfl, hp, k⟩ := h
    refine ⟨_, (pss_cons (ps_fldK K (pv 0) (pv 1))
        (pss_cons (ps_fldK K (pv 0) (pv 2))
        (pss_cons (ps_fldK K (pv 0) (pv 3))
        (pss_one (ps_fldK K (pv 0) (pv 4)))))), ?_⟩
    refine ⟨_, rfl, _, rfl, p, _, dx, [], rfl, hp, C_Span T, F_Span_first T, (by show 0 < 1000; decide), ?_⟩
    refine ⟨_, rfl, _, rfl, p, _, dx, _, rfl, upd_same, C_Span T, F_Span_second T, (by show 1 < 1000; decide), ?_⟩
    refine ⟨_, rfl, _, rfl, p, _, dx, _, rfl, upd_same, C_Span T, F_Span_density T, (by show 2 < 1000; decide), ?_⟩
    refine ⟨_, rfl, _, rfl, p, _, dx, _, rfl, upd_same, C_Span T, F_Span_there T, (by show 3 < 1000; decide), ?_⟩
    refine k _ ?_ fun a o e n => by
      rw [upd_ne n, upd_ne n, upd_ne n, upd_ne n]
      exact e
    rw [upd_same, put4 (a := "first") (b := "second") (c := "density") (f := "there") (by decide +kernel) (by decide +kernel) (by decide +kernel) (by decide +kernel) (by decide +kernel) (by decide +kernel)]
    all_goals rfl
def spBal (K : PySem.W.Frag) : Sp := fun vs H Q _ => ∃ (p dx h l : Addr) (b : Int), vs = [.ref p, .ref h, .int b, .ref l] ∧ H p = some (.ins (ga K "Balance") dx []) ∧
  ∀ H', H' p = some (.ins (ga K "Balance") dx (balF h b l)) → (∀ a o, H a = some o → a ≠ p → H' a = some o) → Q .non H'
theorem okM_Balance (T : Tx K mg) : OkM P w K mg base 1 "Balance" ["self", "hangs", "bottom", "places"] (spBal K) := by
  refine T.okM 18 20 3 "Balance" "Balance.__init__" 13 0 sc_Balance (fun vs H Q E h => ?_) (fun _ _ _ _ _ _ us hl => match us, hl with | [_, _, _, _], _ => rfl) (fun cdv A outer s H vs Q E hr h => ?_)
  · obtain ⟨_, _, _, _, _, rfl, _⟩ := h
    rfl
  · obtain ⟨p, dx, h, l, b, rfl, hp, k⟩ := h
    refine ⟨_, (pss_cons (ps_fldK K (pv 0) (pv 1))
        (pss_cons (ps_fldK K (pv 0) (pv 2))
        (pss_one (ps_fldK K (pv 0) (pv 3))))), ?_⟩
    refine ⟨_, rfl, _, rfl, p, _, dx, [], rfl, hp, C_Balance T, F_Balance_hangs T, (by show 0 < 1000; decide), ?_⟩
    refine ⟨_, rfl, _, rfl, p, _, dx, _, rfl, upd_same, C_Balance T, F_Balance_bottom T, (by show 1 < 1000; decide), ?_⟩
    refine ⟨_, rfl, _, rfl, p, _, dx, _, rfl, upd_same, C_Balance T, F_Balance_places T, (by show 2 < 1000; decide), ?_⟩
    refine k _ ?_ fun a o e n => by
      rw [upd_ne n, upd_ne n, upd_ne n]
      exact e
    rw [upd_same, put3 (a := "hangs") (b := "bottom") (f := "places") (by decide +kernel) (by decide +kernel) (by decide +kernel)]
    all_goals rfl
/-! ### net.py -/
def spIsNode (K : PySem.W.Frag) : Sp := fun vs H Q _ => ∃ (a l1 l2 : Addr) (N : MNet) (i : Nat), vs = [.ref a, natV i] ∧ NetAt K H a l1 l2 N ∧ ∀ H', Ex H H' → Q (.bl (decide (i < N.nodes.length))) H'
theorem ok_is_node (T : Tx K mg) : OkD P w K mg base 1 "is_node" ["net", "i"] (spIsNode K) := by
  refine T.ok 24 4 "is_node" 4 sc_is_node (fun vs H Q E h => ?_) (fun _ _ _ _ _ _ us hl => match us, hl with | [_, _], _ => rfl) (fun cdv A outer s H vs Q E hr h => ?_)
  · obtain ⟨_, _, _, _, _, rfl, _⟩ := h
    rfl
  · obtain ⟨a, l1, l2, N, i, rfl, hN, k⟩ := h
    refine ⟨_, (pss_one (ps_ret (pe_cmpR op_lt (pv 1) (pe_len K (T_len T) (pa_cons (pe_fldK K (pv 0)) pa_nil)) (nomark _)))), ?_⟩
    obtain ⟨dx, hi⟩ := hN.ins
    obtain ⟨ys, hy, hp⟩ := hN.nodes
    refine s_ret (ev_is (ev_op (ev_var rfl) (ev_len2 (ev_fld (ev_var rfl) hi (C_Net T) (F_Net_nodes T) (l_nodes _ _)) hy rfl) rv_I0) ?_) k
    rw [← Paired.len hp]
    simp
def spIsSpan (K : PySem.W.Frag) : Sp := fun vs H Q _ => ∃ (a l1 l2 : Addr) (N : MNet) (i : Nat), vs = [.ref a, natV i] ∧ NetAt K H a l1 l2 N ∧ ∀ H', Ex H H' → Q (.bl (isSpanM N.spans i)) H'
theorem ok_is_span (T : Tx K mg) : OkD P w K mg base 1 "is_span" ["net", "s"] (spIsSpan K) := by
  refine T.ok 25 5 "is_span" 5 sc_is_span (fun vs H Q E h => ?_) (fun _ _ _ _ _ _ us hl => match us, hl with | [_, _], _ => rfl) (fun cdv A outer s H vs Q E hr h => ?_)
  · obtain ⟨_, _, _, _, _, rfl, _⟩ := h
    rfl
  · obtain ⟨a, l1, l2, N, i, rfl, hN, k⟩ := h
    refine ⟨_, (pss_one (ps_ret (pe_and (pe_cmpR op_lt (pv 1) (pe_len K (T_len T) (pa_cons (pe_fldK K (pv 0)) pa_nil)) (nomark _)) (pe_one (pe_fldK K (pe_ixL K (pe_fldK K (pv 0)) (pv 1))))))), ?_⟩
    obtain ⟨dx, hi⟩ := hN.ins
    obtain ⟨ys, hy, hp⟩ := hN.spans
    refine s_ret (ev_is (ev_andV (a := decide (i < N.spans.length)) (b := (N.spans.getD i default).there) (ev_is (ev_op (ev_var rfl) (ev_len2 (ev_fld (ev_var rfl) hi (C_Net T) (F_Net_spans T) (l_spans _ _)) hy rfl) rv_I0) ?_) fun hlt => ?_) rfl) k
    · rw [← Paired.len hp]
      simp
    · have hlt' : i < N.spans.length := of_decide_eq_true hlt
      obtain ⟨y, hy2, p, dx2, rfl, hs⟩ := Paired.at hp (List.getElem?_eq_getElem hlt')
      refine ev_is (ev_fld (ev_op (ev_fld (ev_var rfl) hi (C_Net T) (F_Net_spans T) (l_spans _ _)) (ev_var rfl) (rv_ixL (SqL.of hy) (atI_nat hy2))) hs (C_Span T) (F_Span_there T) (l_there _)) ?_
      rw [getD_at (List.getElem?_eq_getElem hlt')]
def spDraws (K : PySem.W.Frag) : Sp := fun vs H Q _ => ∃ (v : V) (s : MSpan), vs = [v] ∧ SpanR K H s v ∧ ∀ H', Ex H H' → Q (.bl (drawsM s)) H'
theorem ok_draws (T : Tx K mg) : OkD P w K mg base 1 "draws" ["span"] (spDraws K) := by
  refine T.ok 26 6 "draws" 6 sc_draws (fun vs H Q E h => ?_) (fun _ _ _ _ _ _ us hl => match us, hl with | [_], _ => rfl) (fun cdv A outer s H vs Q E hr h => ?_)
  · obtain ⟨_, _, rfl, _⟩ := h
    rfl
  · obtain ⟨v, s, rfl, hS, k⟩ := h
    refine ⟨_, (pss_one (ps_ret (pe_and (pe_fldK K (pv 0)) (pe_one (pe_cmpR op_ne (pe_fldK K (pv 0)) pe_int (nomark _)))))), ?_⟩
    obtain ⟨p, dx, rfl, hs⟩ := hS
    refine s_ret (ev_is (ev_andV (a := s.there) (b := decide (s.d ≠ 0)) (ev_fld (ev_var rfl) hs (C_Span T) (F_Span_there T) (l_there _)) fun _ => ev_is (ev_op (ev_fld (ev_var rfl) hs (C_Span T) (F_Span_density T) (l_density _)) ev_c (rv_ne rfl)) ?_) rfl) k
    simp
def spOther (K : PySem.W.Frag) : Sp := fun vs H Q _ => ∃ (v : V) (s : MSpan) (i : Nat), vs = [v, natV i] ∧ SpanR K H s v ∧ ∀ H', Ex H H' → Q (natV (otherEndM s i)) H'
theorem ok_other_end (T : Tx K mg) : OkD P w K mg base 1 "other_end" ["span", "i"] (spOther K) := by
  refine T.ok 28 8 "other_end" 8 sc_other_end (fun vs H Q E h => ?_) (fun _ _ _ _ _ _ us hl => match us, hl with | [_, _], _ => rfl) (fun cdv A outer s H vs Q E hr h => ?_)
  · obtain ⟨_, _, _, rfl, _⟩ := h
    rfl
  · obtain ⟨v, s, i, rfl, hS, k⟩ := h
    refine ⟨_, (pss_cons (ps_if (pt_cmpR op_eq (pe_fldK K (pv 0)) (pv 1) (nomark _)) (pss_one (ps_ret (pe_fldK K (pv 0)))) pss_nil)
        (pss_one (ps_ret (pe_fldK K (pv 0))))), ?_⟩
    obtain ⟨p, dx, rfl, hs⟩ := hS
    refine q_when (b := decide (s.a = i)) (et_is (et_test (ev_op (ev_fld (ev_var rfl) hs (C_Span T) (F_Span_first T) (l_first _)) (ev_var rfl) (rv_eq rfl))) ?_) (fun hb H1 e1 => ?_) (fun hb H1 e1 => ?_)
    · exact natV_eq
    · refine s_ret (ev_is (ev_fld (ev_var rfl) (e1 _ _ hs) (C_Span T) (F_Span_second T) (l_second _)) ?_) fun H2 e2 => k H2 (e1.trans e2)
      unfold otherEndM
      rw [if_pos (of_decide_eq_true hb)]
    · refine s_ret (ev_is (ev_fld (ev_var rfl) (e1 _ _ hs) (C_Span T) (F_Span_first T) (l_first _)) ?_) fun H2 e2 => k H2 (e1.trans e2)
      unfold otherEndM
      rw [if_neg (of_decide_eq_false hb)]
/-! ### new objects -/
section
variable {σ : L2.St} {H : Hp} {ta : TA}
theorem evm_span {s : MSpan} (h : EvA ta σ H [natV s.a, natV s.b, .int s.d, .bl s.there]) : ∀ H1, Ex H H1 → ∀ Q : VK, (∀ p dx H2, H1 p = none → Ex H1 H2 → H2 p = some (.ins (ga K "Span") dx (spanF s)) → Q (.ref p) H2) → tMake (ga K "Span") (spSpan K) [] E0 ta σ H1 Q := fun H1 e Q q =>
  h H1 e _ fun H2 e2 x dx nx nd ne => ⟨x, dx, s, rfl, upd_same, fun H3 h3 kp => ⟨rfl, q x dx H3 (fresh_back e2 nx) (e2.trans fun b o hb => kp b o (by rw [upd_ne (ne_of_none hb nx), upd_ne (ne_of_none hb nd)]; exact hb) (ne_of_none hb nx)) h3⟩⟩
theorem evm_bal {h l : Addr} {b : Int} (hh : EvA ta σ H [.ref h, .int b, .ref l]) : ∀ H1, Ex H H1 → ∀ Q : VK, (∀ p dx H2, H1 p = none → Ex H1 H2 → H2 p = some (.ins (ga K "Balance") dx (balF h b l)) → Q (.ref p) H2) → tMake (ga K "Balance") (spBal K) [] E0 ta σ H1 Q := fun H1 e Q q =>
  hh H1 e _ fun H2 e2 x dx nx nd ne => ⟨x, dx, h, l, b, rfl, upd_same, fun H3 h3 kp => ⟨rfl, q x dx H3 (fresh_back e2 nx) (e2.trans fun b o hb => kp b o (by rw [upd_ne (ne_of_none hb nx), upd_ne (ne_of_none hb nd)]; exact hb) (ne_of_none hb nx)) h3⟩⟩
end
theorem v_draws {H : Hp} {s : MSpan} {v : V} (h : SpanR K H s v) : SpV (spDraws K) [v] H (.bl (drawsM s)) := fun H1 e Q q E => ⟨v, s, rfl, SpanR.mon _ _ _ _ e h, q⟩
theorem v_other {H : Hp} {s : MSpan} {v : V} {i : Nat} (h : SpanR K H s v) : SpV (spOther K) [v, natV i] H (natV (otherEndM s i)) := fun H1 e Q q E => ⟨v, s, i, rfl, SpanR.mon _ _ _ _ e h, q⟩
def spDrawingAt (K : PySem.W.Frag) : Sp := fun vs H Q _ => ∃ (a : Addr) (l : List MSpan) (i : Nat), vs = [.ref a, natV i] ∧ ListOf (SpanR K) H a l ∧ l.length ≤ 40 ∧ RetLP H Q fun H' zs => Paired (SpanR K H') (drawingAtM l i) zs
theorem ok_drawing_at (T : Tx K mg) : OkD P w K mg base 2 "drawing_at" ["spans", "i"] (spDrawingAt K) := by
  refine T.ok 27 7 "drawing_at" 7 sc_drawing_at (fun vs H Q E h => ?_) (fun _ _ _ _ _ _ us hl => match us, hl with | [_, _], _ => rfl) (fun cdv A outer s H vs Q E hr h => ?_)
  · obtain ⟨_, _, _, rfl, _⟩ := h
    rfl
  · obtain ⟨a, l, i, rfl, hL, hn, k⟩ := h
    refine ⟨_, (pss_one (ps_ret (pe_lc (own := [("span", 2)]) (g := gName 2) rfl sc_drawing_at.nd (pi_listK K (pv 0)) (blkOk_by (own := [("span", 2)]) (N := N_drawing_at) (sc := defScope (top 7)) (by decide +kernel)) (fun _ _ _ _ _ => (pg_name (i := 2) sc_drawing_at.nd rfl (Or.inl rfl))) (fun _ _ _ _ _ => (pts_one (PW.pt (pw_and (pt_val (pe_callD (ok_draws (K := K) T) (hr.mono (by decide)) (pa_cons (pv 2) pa_nil))) (pw_and1 (PW.pt (pw_or (pt_cmpR op_eq (pe_fldK K (pv 2)) (pv 1) (nomark _)) (pw_or1 (pt_cmpR op_eq (pe_fldK K (pv 2)) (pv 1) (nomark _)))))))))) (fun _ _ _ _ _ => (pv 2))))), ?_⟩
    obtain ⟨ys, hy, hp⟩ := hL
    refine u_ret (elp_lc (src_list SpanR.mon (ev_var rfl) (SqL.of hy) hp) (fun s => drawsM s && (decide (s.a = i) || decide (s.b = i))) (SpanR K) SpanR.mon (gName_mono 2) (by omega) ?_ H (Ex.refl H) _ k)
    rintro j s it H2 H3 H4 D hs e2 e3 hD ⟨rfl, r⟩
    have r0 := SpanR.mon _ _ _ _ e3 r
    obtain ⟨q, dx, rfl, hq⟩ := id r0
    exact ⟨Ex.refl _, rfl, et_and (et_B (ev_call (ea_cons (ev_var rfl) ea_nil) (v_draws r0))) fun _ => et_or (et_is (et_test (ev_op (ev_fld (ev_var rfl) hq (C_Span T) (F_Span_first T) (l_first _)) (ev_var rfl) (rv_eq rfl))) natV_eq) fun _ => et_is (et_test (ev_op (ev_fld (ev_var rfl) hq (C_Span T) (F_Span_second T) (l_second _)) (ev_var rfl) (rv_eq rfl))) natV_eq,
      fun _ => evd_v (ev_var rfl) e3 hD fun H' e => SpanR.mon _ _ _ _ e r⟩
/-- a list of spans, new, with one span changed -/
def spWith (K : PySem.W.Frag) : Sp := fun vs H Q _ => ∃ (a : Addr) (l : List MSpan) (i : Nat) (d : Int), vs = [.ref a, natV i, .int d] ∧ ListOf (SpanR K) H a l ∧ l.length ≤ 40 ∧ i < l.length ∧ ∀ p H', H p = none → Ex H H' → ListOf (SpanR K) H' p (withDensityM l i d) → Q (.ref p) H'
theorem ok_with_density (T : Tx K mg) : OkD P w K mg base 3 "with_density" ["spans", "s", "density"] (spWith K) := by
  refine T.ok 29 9 "with_density" 9 sc_with_density (fun vs H Q E h => ?_) (fun _ _ _ _ _ _ us hl => match us, hl with | [_, _, _], _ => rfl) (fun cdv A outer s H vs Q E hr h => ?_)
  · obtain ⟨_, _, _, _, rfl, _⟩ := h
    rfl
  · obtain ⟨a, l, i, d, rfl, hL, hn, hi, k⟩ := h
    refine ⟨_, (pss_cons (ps_set (i := 3) sc_with_density.nd rfl (Or.inl rfl) (pe_list K (T_list T) (pa_cons (pv 0) pa_nil)))
        (pss_cons (ps_asg (pe_makeK K (okM_Span (K := K) T) (hr.mono (by decide)) (pa_cons (pe_fldK K (pe_ixL K (pv 0) (pv 1))) (pa_cons (pe_fldK K (pe_ixL K (pv 0) (pv 1))) (pa_cons (pv 2) (pa_cons pe_bl pa_nil))))) (pg_sub (pv 3) (pv 1) set_list))
        (pss_one (ps_ret (pv 3))))), ?_⟩
    obtain ⟨ys, hy, hp⟩ := hL
    obtain ⟨y, hy2, r⟩ := Paired.at hp (List.getElem?_eq_getElem hi)
    obtain ⟨q, dx, rfl, hq⟩ := r
    refine q_asgL (el_list (ev_var rfl) (SqL.of hy)) fun c H1 hc e1 h1 => ?_
    have eS : withDensityM l i d = l.set i ⟨(l[i]).a, (l[i]).b, d, true⟩ := by
      unfold withDensityM
      rw [getD_at (List.getElem?_eq_getElem hi)]
    refine u_asg (evm_span (s := ⟨(l[i]).a, (l[i]).b, d, true⟩) ?ha H1 (Ex.refl _) _ fun p dx2 H2 hp2 e2 h2 => ?_)
    · exact ea_cons (ev_fld (ev_op (ev_var rfl) (ev_var rfl) (rv_ixL (SqL.of (e1 _ _ hy)) (atI_nat hy2))) (e1 _ _ hq) (C_Span T) (F_Span_first T) (l_first _))
          (ea_cons (ev_fld (ev_op (ev_var rfl) (ev_var rfl) (rv_ixL (SqL.of (e1 _ _ hy)) (atI_nat hy2))) (e1 _ _ hq) (C_Span T) (F_Span_second T) (l_second _)) (ea_cons (ev_var rfl) (ea_cons ev_c ea_nil)))
    have hpc : p ≠ c := fun e => by
      rw [e, h1] at hp2
      cases hp2
    refine ⟨_, rfl, _, rfl, c, ys, i, i, rfl, rfl, e2 _ _ h1, ixN_nat (by rw [← Paired.len hp]; exact hi), ?_⟩
    refine ⟨_, rfl, k c _ hc (Ex.mut (e1.trans e2) hc) ⟨_, upd_same, ?_⟩⟩
    rw [eS]
    refine Paired.setAt ?_ i (Paired.imp (fun s v r => ?_) hp)
    · exact ⟨p, dx2, rfl, by rw [upd_ne hpc]; exact h2⟩
    · exact SpanR.mon _ _ _ _ (Ex.mut (e1.trans e2) hc) r
def spWithout (K : PySem.W.Frag) : Sp := fun vs H Q _ => ∃ (a : Addr) (l : List MSpan) (i : Nat), vs = [.ref a, natV i] ∧ ListOf (SpanR K) H a l ∧ l.length ≤ 40 ∧ i < l.length ∧ ∀ p H', H p = none → Ex H H' → ListOf (SpanR K) H' p (withoutM l i) → Q (.ref p) H'
theorem ok_without (T : Tx K mg) : OkD P w K mg base 3 "without" ["spans", "s"] (spWithout K) := by
  refine T.ok 30 10 "without" 10 sc_without (fun vs H Q E h => ?_) (fun _ _ _ _ _ _ us hl => match us, hl with | [_, _], _ => rfl) (fun cdv A outer s H vs Q E hr h => ?_)
  · obtain ⟨_, _, _, rfl, _⟩ := h
    rfl
  · obtain ⟨a, l, i, rfl, hL, hn, hi, k⟩ := h
    refine ⟨_, (pss_cons (ps_set (i := 2) sc_without.nd rfl (Or.inl rfl) (pe_list K (T_list T) (pa_cons (pv 0) pa_nil)))
        (pss_cons (ps_asg (pe_makeK K (okM_Span (K := K) T) (hr.mono (by decide)) (pa_cons (pe_fldK K (pe_ixL K (pv 0) (pv 1))) (pa_cons (pe_fldK K (pe_ixL K (pv 0) (pv 1))) (pa_cons pe_int (pa_cons pe_bl pa_nil))))) (pg_sub (pv 2) (pv 1) set_list))
        (pss_one (ps_ret (pv 2))))), ?_⟩
    obtain ⟨ys, hy, hp⟩ := hL
    obtain ⟨y, hy2, r⟩ := Paired.at hp (List.getElem?_eq_getElem hi)
    obtain ⟨q, dx, rfl, hq⟩ := r
    refine q_asgL (el_list (ev_var rfl) (SqL.of hy)) fun c H1 hc e1 h1 => ?_
    have eS : withoutM l i = l.set i ⟨(l[i]).a, (l[i]).b, 0, false⟩ := by
      unfold withoutM
      rw [getD_at (List.getElem?_eq_getElem hi)]
    refine u_asg (evm_span (s := ⟨(l[i]).a, (l[i]).b, 0, false⟩) ?ha H1 (Ex.refl _) _ fun p dx2 H2 hp2 e2 h2 => ?_)
    · exact ea_cons (ev_fld (ev_op (ev_var rfl) (ev_var rfl) (rv_ixL (SqL.of (e1 _ _ hy)) (atI_nat hy2))) (e1 _ _ hq) (C_Span T) (F_Span_first T) (l_first _))
          (ea_cons (ev_fld (ev_op (ev_var rfl) (ev_var rfl) (rv_ixL (SqL.of (e1 _ _ hy)) (atI_nat hy2))) (e1 _ _ hq) (C_Span T) (F_Span_second T) (l_second _)) (ea_cons ev_c (ea_cons ev_c ea_nil)))
    have hpc : p ≠ c := fun e => by
      rw [e, h1] at hp2
      cases hp2
    refine ⟨_, rfl, _, rfl, c, ys, i, i, rfl, rfl, e2 _ _ h1, ixN_nat (by rw [← Paired.len hp]; exact hi), ?_⟩
    refine ⟨_, rfl, k c _ hc (Ex.mut (e1.trans e2) hc) ⟨_, upd_same, ?_⟩⟩
    rw [eS]
    refine Paired.setAt ?_ i (Paired.imp (fun s v r => ?_) hp)
    · exact ⟨p, dx2, rfl, by rw [upd_ne hpc]; exact h2⟩
    · exact SpanR.mon _ _ _ _ (Ex.mut (e1.trans e2) hc) r
end
end Wp


namespace Wp
open PySem PySem.Spec PyProof.Rows L2 Evl
open He (ga ma Fa DefD SaysD)
section
variable {P : Program} {w : World} {K : PySem.W.Frag} {mg : Str → Option Value} {base : Heap}
/-! ### limits.py -/
section
variable {σ : L2.St} {H : Hp} {ta tb tc : TE}
theorem ev_chain {i j k : Int} {f g : Int → Int → Bool} (ha : Ev ta σ H (.int i)) (hb : Ev tb σ H (.int j)) (hc : Ev tc σ H (.int k)) : Ev (tChain (rI0 fun i j => .bl (f i j)) (rI0 fun i j => .bl (g i j)) ta tb tc) σ H (.bl (f i j && g j k)) := fun H1 e Q q =>
  ha H1 e _ fun H2 e2 => hb H2 (e.trans e2) _ fun H3 e3 => ⟨i, j, rfl, rfl, f i j, rfl, by
    cases hf : f i j with
    | true =>
      rw [if_pos rfl]
      exact hc H3 ((e.trans e2).trans e3) _ fun H4 e4 => ⟨j, k, rfl, rfl, by rw [hf] at q; exact q H4 ((e2.trans e3).trans e4)⟩
    | false =>
      rw [if_neg (by decide)]
      rw [hf] at q
      exact q H3 (e2.trans e3)⟩
end
def spPart (K : PySem.W.Frag) : Sp := fun vs H Q _ => ∃ (z : Int), vs = [.int z] ∧ ∀ H', Ex H H' → Q (.bl (partOk z)) H'
theorem ok_part_may_be (T : Tx K mg) : OkD P w K mg base 1 "part_may_be" ["part"] (spPart K) := by
  refine T.ok 48 28 "part_may_be" 42 sc_part_may_be (fun vs H Q E h => ?_) (fun _ _ _ _ _ _ us hl => match us, hl with | [_], _ => rfl) (fun cdv A outer s H vs Q E hr h => ?_)
  · obtain ⟨_, rfl, _⟩ := h
    rfl
  · obtain ⟨z, rfl, k⟩ := h
    refine ⟨_, (pss_one (ps_ret (pe_chain op_le op_le (pe_un un_neg (pe_const (T_GREATEST_PART T))) (pv 0) (pe_const (T_GREATEST_PART T))))), ?_⟩
    exact s_ret (ev_chain (ev_un ev_c ru_neg) (ev_var rfl) ev_c) k
def spStrength (K : PySem.W.Frag) : Sp := fun vs H Q _ => ∃ (z : Int), vs = [.int z] ∧ ∀ H', Ex H H' → Q (.bl (strOk z)) H'
theorem ok_strength_may_be (T : Tx K mg) : OkD P w K mg base 1 "strength_may_be" ["strength"] (spStrength K) := by
  refine T.ok 50 30 "strength_may_be" 44 sc_strength_may_be (fun vs H Q E h => ?_) (fun _ _ _ _ _ _ us hl => match us, hl with | [_], _ => rfl) (fun cdv A outer s H vs Q E hr h => ?_)
  · obtain ⟨_, rfl, _⟩ := h
    rfl
  · obtain ⟨z, rfl, k⟩ := h
    refine ⟨_, (pss_one (ps_ret (pe_chain op_le op_le pe_int (pv 0) (pe_const (T_GREATEST_STRENGTH T))))), ?_⟩
    exact s_ret (ev_chain ev_c (ev_var rfl) ev_c) k
theorem v_part {H : Hp} {z : Int} : SpV (spPart K) [.int z] H (.bl (partOk z)) := fun H1 e Q q E => ⟨z, rfl, q⟩
theorem v_strength {H : Hp} {z : Int} : SpV (spStrength K) [.int z] H (.bl (strOk z)) := fun H1 e Q q E => ⟨z, rfl, q⟩
def spVecOk (K : PySem.W.Frag) : Sp := fun vs H Q _ => ∃ (t : Addr) (x y z : Int), vs = [.ref t] ∧ H t = some (.tup [.int x, .int y, .int z]) ∧ ∀ H', Ex H H' → Q (.bl (vecOk x y z)) H'
theorem ok_vector_may_be (T : Tx K mg) : OkD P w K mg base 2 "vector_may_be" ["vector"] (spVecOk K) := by
  refine T.ok 49 29 "vector_may_be" 43 sc_vector_may_be (fun vs H Q E h => ?_) (fun _ _ _ _ _ _ us hl => match us, hl with | [_], _ => rfl) (fun cdv A outer s H vs Q E hr h => ?_)
  · obtain ⟨_, _, _, _, rfl, _⟩ := h
    rfl
  · obtain ⟨t, x, y, z, rfl, ht, k⟩ := h
    refine ⟨_, (pss_one (ps_ret (pe_all K (T_all T) (pa_cons (pe_lc (own := [("part", 1)]) (g := gName 1) (tt := tYes) rfl sc_vector_may_be.nd (pi_tupK K (pv 0)) (blkOk_by (own := [("part", 1)]) (N := N_vector_may_be) (sc := defScope (top 43)) (by decide +kernel)) (fun _ _ _ _ _ => (pg_name (i := 1) sc_vector_may_be.nd rfl (Or.inl rfl))) (fun _ _ _ _ _ => pts_nil) (fun _ _ _ _ _ => (pe_callD (ok_part_may_be (K := K) T) (hr.mono (by decide)) (pa_cons (pv 1) pa_nil)))) pa_nil)))), ?_⟩
    refine s_ret (ev_is (ev_allL (bs := [partOk x, partOk y, partOk z]) (el_is (el_lc (src_tup (xs := [x, y, z]) (R := fun _ i v => v = .int i) (fun _ _ _ _ _ h => h) (ev_var rfl) (SqT.of ht) (.cons rfl (.cons rfl (.cons rfl .nil)))) (fun _ => true) (fun i => V.bl (partOk i)) (gName_mono 1) (by show 3 ≤ 40000; decide) ?_) rfl)) ?_) k
    · rintro i u it H2 H3 H4 hx e2 e3 ⟨e4, r⟩
      subst e4 r
      exact ⟨Ex.refl _, rfl, et_yes, fun _ => ev_call (ea_cons (ev_var rfl) ea_nil) v_part⟩
    · unfold vecOk
      simp
theorem v_vecOk {H : Hp} {t : Addr} {x y z : Int} (h : H t = some (.tup [.int x, .int y, .int z])) : SpV (spVecOk K) [.ref t] H (.bl (vecOk x y z)) := fun H1 e Q q E => ⟨t, x, y, z, rfl, e _ _ h, q⟩
/-! ### ratio.py -/
def spGcd (K : PySem.W.Frag) : Sp := fun vs H Q _ => ∃ (a b : Int), vs = [.int a, .int b] ∧ 0 ≤ a ∧ 0 ≤ b ∧ ∀ H', Ex H H' → Q (.int (gcdM a b)) H'
theorem gcdM_step {a b : Int} (ha : 0 ≤ a) (hb : 0 < b) : gcdM b (a.fmod b) = gcdM a b := by
  obtain ⟨n, rfl⟩ := Int.eq_ofNat_of_zero_le ha
  obtain ⟨m, rfl⟩ := Int.eq_ofNat_of_zero_le (show 0 ≤ b by omega)
  unfold gcdM
  rw [Int.fmod_eq_emod_of_nonneg _ (by omega)]
  congr 1
  show Nat.gcd m ((n : Int) % (m : Int)).natAbs = Nat.gcd n m
  rw [← Int.natCast_emod, Int.natAbs_natCast, Nat.gcd_comm n m, Nat.gcd_rec m n, Nat.gcd_comm]
theorem ok_greatest_divisor (T : Tx K mg) : OkD P w K mg base 1 "greatest_divisor" ["first", "second"] (spGcd K) := by
  refine T.ok 51 31 "greatest_divisor" 46 sc_greatest_divisor (fun vs H Q E h => ?_) (fun _ _ _ _ _ _ us hl => match us, hl with | [_, _], _ => rfl) (fun cdv A outer s H vs Q E hr h => ?_)
  · obtain ⟨_, _, rfl, _⟩ := h
    rfl
  · obtain ⟨a, b, rfl, ha, hb, k⟩ := h
    refine ⟨_, (pss_cons (ps_while PassesOwn.never (pt_cmpR op_ne (pv 1) pe_int (nomark _)) (pss_one (ps_par (i := 0) (j := 1) (by rfl) sc_greatest_divisor.nd rfl rfl (by decide) rfl rfl (pa_cons (pv 1) (pa_cons (pe_op op_modN (pv 0) (pv 1)) pa_nil)) (by rfl))))
        (pss_one (ps_ret (pv 0)))), ?_⟩
    refine q_while (fun m σ H' => ∃ a' b' : Int, σ = [some (.int a'), some (.int b')] ∧ 0 ≤ a' ∧ 0 ≤ b' ∧ gcdM a' b' = gcdM a b ∧ Ex H H' ∧ m = b'.natAbs) b.natAbs ⟨a, b, rfl, ha, hb, rfl, Ex.refl _, rfl⟩ ?_
    rintro m σ' H' ⟨a', b', rfl, ha', hb', eg, e1, rfl⟩
    refine ⟨!decide (b' = 0), et_is (et_test (ev_op (ev_var rfl) ev_c (rv_ne rfl))) ?_, fun hne H1 e2 => ?_, fun he H1 e2 => ?_⟩
    · simp
    · have hb0 : b' ≠ 0 := by simpa using hne
      refine ⟨fun σ2 H2 => ∃ m', m' < b'.natAbs ∧ ∃ a' b' : Int, σ2 = [some (.int a'), some (.int b')] ∧ 0 ≤ a' ∧ 0 ≤ b' ∧ gcdM a' b' = gcdM a b ∧ Ex H H2 ∧ m' = b'.natAbs, fun σ2 H2 h => h, ?_⟩
      refine ⟨_, rfl, _, rfl, _, rfl, a', b', rfl, rfl, hb0, .int b', .int (a'.fmod b'), rfl, (a'.fmod b').natAbs, ?_, b', a'.fmod b', rfl, hb', ?_, ?_, e1.trans e2, rfl⟩
      · rw [Int.fmod_eq_emod_of_nonneg a' (by omega)]
        have h1 := Int.emod_nonneg a' hb0
        have h2 := Int.emod_lt_of_pos a' (show 0 < b' by omega)
        omega
      · rw [Int.fmod_eq_emod_of_nonneg a' (by omega)]
        exact Int.emod_nonneg a' hb0
      · rw [gcdM_step ha' (by omega)]
        exact eg
    · have hb0 : b' = 0 := by simpa using he
      subst hb0
      refine s_ret (ev_is (ev_var rfl) ?_) fun H2 e3 => k H2 ((e1.trans e2).trans e3)
      rw [← eg]
      unfold gcdM
      rw [Int.gcd_zero_right]
      congr 1
      omega
theorem gcdM_pos {a b : Int} (ha : 0 < a) : 0 < gcdM a b := by
  unfold gcdM
  have : 0 < Int.gcd a b := Int.gcd_pos_of_ne_zero_left b (by omega)
  omega
theorem gcdM_le {a b : Int} (ha : 0 < a) : gcdM a b ≤ a := by
  unfold gcdM
  have : Int.gcd a b ∣ a.natAbs := Int.gcd_dvd_natAbs_left a b
  have := Nat.le_of_dvd (by omega) this
  omega
theorem gcdM_abs (a b : Int) : gcdM a (if b < 0 then -b else b) = gcdM a b := by
  unfold gcdM
  split
  · rw [Int.gcd_neg]
  · rfl
theorem ev_abs {σ : L2.St} {H : Hp} {ta : TE} {i : Int} (ha : Ev ta σ H (.int i)) : Ev (tCB rAbs (tCons ta tNil)) σ H (.int (if i < 0 then -i else i)) := fun H1 e _ q => ha H1 e _ fun H2 e2 => ⟨i, rfl, q H2 e2⟩
def spTold (K : PySem.W.Frag) : Sp := fun vs H Q _ => ∃ (t b : Int), vs = [.int t, .int b] ∧ 0 < b ∧ b.natAbs < 2 ^ 8999 ∧ ∀ p H', H p = none → Ex H H' → IL H' p (toldM t b) → Q (.ref p) H'
theorem ok_told (T : Tx K mg) : OkD P w K mg base 2 "told" ["top", "bottom"] (spTold K) := by
  refine T.ok 52 32 "told" 47 sc_told (fun vs H Q E h => ?_) (fun _ _ _ _ _ _ us hl => match us, hl with | [_, _], _ => rfl) (fun cdv A outer s H vs Q E hr h => ?_)
  · obtain ⟨_, _, rfl, _⟩ := h
    rfl
  · obtain ⟨t, b, rfl, hb, hz, k⟩ := h
    refine ⟨_, (pss_cons (ps_set (i := 2) sc_told.nd rfl (Or.inl rfl) (pe_callD (ok_greatest_divisor (K := K) T) (hr.mono (by decide)) (pa_cons (pv 1) (pa_cons (pe_abs (T_abs T) (pa_cons (pv 0) pa_nil)) pa_nil))))
        (pss_one (ps_ret (pe_lst (pa_cons (pe_op op_fdivW (pv 0) (pv 2)) (pa_cons (pe_op op_fdivW (pv 1) (pv 2)) pa_nil)))))), ?_⟩
    have hg := gcdM_pos (b := t) hb
    have hl := gcdM_le (b := t) hb
    have hw : ∀ i : Int, CDivW i (gcdM b t) := fun i => wide_div (b := 8999) hg (by omega) (by decide) (by decide)
    refine q_asg (ev_is (ev_call (ea_cons (ev_var rfl) (ea_cons (ev_abs (ev_var rfl)) ea_nil)) fun H1 e1 Q q E => ⟨b, if t < 0 then -t else t, rfl, by omega, by split <;> omega, q⟩) (congrArg V.int (gcdM_abs b t))) fun H1 e1 => ?_
    exact s_retL (el_lst (ea_cons (ev_op (ev_var rfl) (ev_var rfl) (rv_I (hw _))) (ea_cons (ev_op (ev_var rfl) (ev_var rfl) (rv_I (hw _))) ea_nil)) (by show 2 ≤ 100000; decide)) fun p H2 hp e2 h2 => k p H2 (fresh_back e1 hp) (e1.trans e2) h2
theorem l_told {H : Hp} {t b : Int} (hb : 0 < b) (hz : b.natAbs < 2 ^ 8999) : SpL (spTold K) [.int t, .int b] H ((toldM t b).map V.int) := fun H1 e Q q E => ⟨t, b, rfl, hb, hz, fun p H' h1 h2 h3 => q p H' h1 h2 h3⟩
/-- xs.extend(ys), ys a new list -/
theorem q_extL {σ : L2.St} {H : Hp} {ta te : TE} {D : Ends} {tz : TS} {l : Addr} {xs ys : List V} (hl : H l = some (.lst xs)) (ha : Ev ta σ H (.ref l)) (h : EvL te σ H ys) (hz : xs.length + ys.length ≤ 100000) (k : ∀ p H1, H p = none → Ex H H1 → H1 p = some (.lst ys) → tz D σ (upd H1 l (.lst (xs ++ ys)))) :
    tSeq (tDrop (tBM K "list" rExtend ta (tCons te tNil))) tz D σ H := ha H (Ex.refl H) _ fun H1 e1 =>
  ⟨Or.inl ⟨rfl, xs, SqL.of (e1 l _ hl)⟩, h H1 e1 _ fun p H2 hp e2 h2 => ⟨l, p, xs, ys, rfl, rfl, e2 l _ (e1 l _ hl), h2, sz_of hz, k p H2 (fresh_back e1 hp) (e1.trans e2) h2⟩⟩
theorem s_extL {σ : L2.St} {H : Hp} {ta te : TE} {D : Ends} {l : Addr} {xs ys : List V} (hl : H l = some (.lst xs)) (ha : Ev ta σ H (.ref l)) (h : EvL te σ H ys) (hz : xs.length + ys.length ≤ 100000) (k : ∀ p H1, H p = none → Ex H H1 → H1 p = some (.lst ys) → D.nx σ (upd H1 l (.lst (xs ++ ys)))) :
    tDrop (tBM K "list" rExtend ta (tCons te tNil)) D σ H := ha H (Ex.refl H) _ fun H1 e1 =>
  ⟨Or.inl ⟨rfl, xs, SqL.of (e1 l _ hl)⟩, h H1 e1 _ fun p H2 hp e2 h2 => ⟨l, p, xs, ys, rfl, rfl, e2 l _ (e1 l _ hl), h2, sz_of hz, k p H2 (fresh_back e1 hp) (e1.trans e2) h2⟩⟩
theorem toldVec_len (b : Int) : ∀ ts : List Int, (toldVecM ts b).length = 2 * ts.length
  | [] => rfl
  | t :: r => by
    have := toldVec_len b r
    unfold toldVecM at this ⊢
    rw [List.flatMap_cons, List.length_append, this]
    show 2 + 2 * r.length = 2 * (r.length + 1)
    omega
theorem toldVec_snoc (b t : Int) (ts : List Int) : toldVecM (ts ++ [t]) b = toldVecM ts b ++ toldM t b := by
  unfold toldVecM
  rw [List.flatMap_append]
  simp
def spToldVec (K : PySem.W.Frag) : Sp := fun vs H Q _ => ∃ (a : Addr) (ts : List Int) (b : Int), vs = [.ref a, .int b] ∧ IL H a ts ∧ ts.length ≤ 100 ∧ 0 < b ∧ b.natAbs < 2 ^ 8999 ∧ ∀ p H', H p = none → Ex H H' → IL H' p (toldVecM ts b) → Q (.ref p) H'
theorem ok_told_vector (T : Tx K mg) : OkD P w K mg base 3 "told_vector" ["tops", "bottom"] (spToldVec K) := by
  refine T.ok 53 33 "told_vector" 48 sc_told_vector (fun vs H Q E h => ?_) (fun _ _ _ _ _ _ us hl => match us, hl with | [_, _], _ => rfl) (fun cdv A outer s H vs Q E hr h => ?_)
  · obtain ⟨_, _, _, rfl, _⟩ := h
    rfl
  · obtain ⟨a, ts, b, rfl, ha, hn, hb, hz, k⟩ := h
    refine ⟨_, (pss_cons (ps_set (i := 2) sc_told_vector.nd rfl (Or.inl rfl) (pe_lst pa_nil))
        (pss_cons (ps_for PassesOwn.never rfl (pi_listK K (pv 0)) (pg_name (i := 3) sc_told_vector.nd rfl (Or.inl rfl)) (pss_one (ps_expr (pe_lm K PySem.F.slot_list_extend PySem.F.type_list_extend mt_extend (pv 2) (pa_cons (pe_callD (ok_told (K := K) T) (hr.mono (by decide)) (pa_cons (pv 3) (pa_cons (pv 1) pa_nil))) pa_nil)))))
        (pss_one (ps_ret (pv 2))))), ?_⟩
    refine q_asgL (el_lst ea_nil (by decide)) fun n H1 hn1 e1 h1 => ?_
    have hxs : H a = some (.lst (ts.map V.int)) := ha
    refine q_forLn (xs := ts.map V.int) (ev_var rfl) (SqL.of (e1 _ _ hxs)) (fun i σ' H' => ∃ v : Option V, σ' = [some (.ref a), some (.int b), some (.ref n), v] ∧ Ex H H' ∧ H' n = some (.lst ((toldVecM (ts.take i) b).map V.int))) (fun H2 e2 => ⟨none, rfl, e1.trans e2, e2 _ _ h1⟩) (fun i σ' H' _ ⟨v, _, e, _⟩ => SqL.of (e _ _ hxs)) ?_ ?_
    · rintro i x σ' H' hi ⟨v, rfl, e, h2⟩
      rw [List.getElem?_map] at hi
      cases ht : ts[i]? with
      | none => rw [ht] at hi; cases hi
      | some t =>
        rw [ht] at hi
        cases hi
        refine s_extL h2 (ev_var rfl) (el_call (ea_cons (ev_var rfl) (ea_cons (ev_var rfl) ea_nil)) (l_told hb hz)) ?_ fun p H2 hp e2 h3 => ⟨some (.int t), rfl, Ex.mut (e.trans e2) hn1, ?_⟩
        · rw [List.length_map, List.length_map, toldVec_len, List.length_take]
          show _ + 2 ≤ _
          omega
        · rw [upd_same, take_snoc ht, toldVec_snoc, List.map_append]
    · rintro σ' H' ⟨v, rfl, e, h2⟩
      rw [List.length_map, List.take_length] at h2
      exact s_ret (ev_var rfl) fun H2 e2 => k n H2 hn1 (e.trans e2) (e2 _ _ h2)
theorem l_toldVec {H : Hp} {a : Addr} {ts : List Int} {b : Int} (h : IL H a ts) (hn : ts.length ≤ 100) (hb : 0 < b) (hz : b.natAbs < 2 ^ 8999) : SpL (spToldVec K) [.ref a, .int b] H ((toldVecM ts b).map V.int) := fun H1 e Q q E => ⟨a, ts, b, rfl, h.mono e, hn, hb, hz, fun p H' h1 h2 h3 => q p H' h1 h2 h3⟩
end
end Wp


namespace Wp
open PySem PySem.Spec PyProof.Rows L2 Evl
open He (ga ma Fa DefD SaysD)
section
variable {P : Program} {w : World} {K : PySem.W.Frag} {mg : Str → Option Value} {base : Heap}
theorem mulW {k l : Nat} {x y : Int} (h : Bits k x) (h2 : Bits l y) (h0 : 0 < k) (h1 : 0 < l) (hs : k + l ≤ 1000000) : CMulW x y := wide_mul h h2 h0 h1 hs
/-! ### forces.py -/
def spFB (K : PySem.W.Frag) : Sp := fun vs H Q _ => ∃ (v : V) (b : MBal), vs = [v] ∧ BalR K H b v ∧ Bits 2000 b.bottom ∧ ∀ H', Ex H H' → Q (.int b.fb) H'
theorem ok_force_bottom (T : Tx K mg) : OkD P w K mg base 1 "force_bottom" ["balance"] (spFB K) := by
  refine T.ok 39 19 "force_bottom" 23 sc_force_bottom (fun vs H Q E h => ?_) (fun _ _ _ _ _ _ us hl => match us, hl with | [_], _ => rfl) (fun cdv A outer s H vs Q E hr h => ?_)
  · obtain ⟨_, _, rfl, _⟩ := h
    rfl
  · obtain ⟨v, b, rfl, hB, hb, k⟩ := h
    refine ⟨_, (pss_one (ps_ret (pe_op op_mulW (pe_const (T_THOUSAND T)) (pe_fldK K (pv 0))))), ?_⟩
    obtain ⟨p, dx, h, l, rfl, hp, hh, hl⟩ := hB
    exact s_ret (ev_op ev_c (ev_fld (ev_var rfl) hp (C_Balance T) (F_Balance_bottom T) (l_bottom _ _ _)) (rv_I (mulW (k := 10) (by unfold Bits; decide) hb (by decide) (by decide) (by decide)))) k
theorem v_fb {H : Hp} {v : V} {b : MBal} (h : BalR K H b v) (hb : Bits 2000 b.bottom) : SpV (spFB K) [v] H (.int b.fb) := fun H1 e Q q E => ⟨v, b, rfl, BalR.mon _ _ _ _ e h, hb, q⟩
/-- a place of a balance, read -/
theorem place_at {H : Hp} {l : Addr} {b : MBal} (hl : ListOf PlaceR H l b.places) {i : Nat} {v : List Int} (h : b.places[i]? = some (some v)) : ∃ ys q, H l = some (.lst ys) ∧ ys[i]? = some (.ref q) ∧ IL H q v := by
  obtain ⟨ys, hy, hp⟩ := hl
  obtain ⟨y, hy2, q, rfl, hq⟩ := Paired.at hp h
  exact ⟨ys, q, hy, hy2, hq⟩
theorem il_at {l : List Int} {i : Nat} {z : Int} (h : l[i]? = some z) : (l.map V.int)[i]? = some (.int z) := by rw [List.getElem?_map, h]; rfl
def spPull (K : PySem.W.Frag) : Sp := fun vs H Q _ => ∃ (v : V) (b : MBal) (own other : Nat) (d : Int), vs = [v, natV own, natV other, .int d] ∧ BalR K H b v ∧ (b.places[own]? = some (some (b.at_ own)) ∧ V3 2000 (b.at_ own)) ∧ (b.places[other]? = some (some (b.at_ other)) ∧ V3 2000 (b.at_ other)) ∧ Bits 20 d ∧ RetL ((pullM b own other d).map V.int) H Q
theorem ok_pull_towards (T : Tx K mg) : OkD P w K mg base 1 "pull_towards" ["balance", "own", "other", "density"] (spPull K) := by
  refine T.ok 40 20 "pull_towards" 24 sc_pull_towards (fun vs H Q E h => ?_) (fun _ _ _ _ _ _ us hl => match us, hl with | [_, _, _, _], _ => rfl) (fun cdv A outer s H vs Q E hr h => ?_)
  · obtain ⟨_, _, _, _, _, rfl, _⟩ := h
    rfl
  · obtain ⟨v, b, own, other, d, rfl, hB, h1, h2, hd, k⟩ := h
    refine ⟨_, (pss_cons (ps_set (i := 4) sc_pull_towards.nd rfl (Or.inr rfl) (pe_ixL K (pe_fldK K (pv 0)) (pv 1)))
        (pss_cons (ps_set (i := 5) sc_pull_towards.nd rfl (Or.inr rfl) (pe_ixL K (pe_fldK K (pv 0)) (pv 2)))
        (pss_one (ps_ret (pe_lc (own := [("axis", 6)]) (g := gName 6) (tt := tYes) rfl sc_pull_towards.nd (pi_rangeK (T_range T) (pa_cons pe_int pa_nil)) (blkOk_by (own := [("axis", 6)]) (N := N_pull_towards) (sc := defScope (top 24)) (by decide +kernel)) (fun _ _ _ _ _ => (pg_name (i := 6) sc_pull_towards.nd rfl (Or.inl rfl))) (fun _ _ _ _ _ => pts_nil) (fun _ _ _ _ _ => (pe_op op_mulW (pv 3) (pe_op op_sub (pe_ixL K (pv 5) (pv 6)) (pe_ixL K (pv 4) (pv 6)))))))))), ?_⟩
    obtain ⟨p, dx, h, l, rfl, hp, hh, hl⟩ := hB
    obtain ⟨ys, q1, hy, y1, i1⟩ := place_at hl h1.1
    obtain ⟨ys', q2, hy', y2, i2⟩ := place_at hl h2.1
    obtain rfl : ys = ys' := by
      rw [hy] at hy'
      injection hy' with e
      injection e
    refine q_asg (ev_op (ev_fld (ev_var rfl) hp (C_Balance T) (F_Balance_places T) (l_places _ _ _)) (ev_var rfl) (rv_ixL (SqL.of hy) (atI_nat y1))) fun H1 e1 => ?_
    refine q_asg (ev_op (ev_fld (ev_var rfl) (e1 _ _ hp) (C_Balance T) (F_Balance_places T) (l_places _ _ _)) (ev_var rfl) (rv_ixL (SqL.of (e1 _ _ hy)) (atI_nat y2))) fun H2 e2 => ?_
    have e12 := e1.trans e2
    refine s_retL (el_is (el_lc (src_range (n := 3) (ea_cons ev_c ea_nil) (by decide)) (fun _ => true) (fun i => V.int (d * ((b.at_ other).getD i 0 - (b.at_ own).getD i 0))) (gName_mono 6) (by decide) ?_) ?_) fun p2 H3 hp2 e3 h3 => k p2 H3 (fresh_back e12 hp2) (e12.trans e3) h3
    · rintro i k' it H3 H4 H5 hx e3 e4 ⟨rfl, rfl⟩
      have hk : k' < 3 := by have := List.mem_of_getElem? hx; simpa using this
      have g1 := h1.2.get k' hk
      have g2 := h2.2.get k' hk
      refine ⟨Ex.refl _, rfl, et_yes, fun _ => ev_op (ev_var rfl) (ev_op (ev_op (ev_var rfl) (ev_var rfl) (rv_ixL (SqL.of ((e12.trans (e3.trans e4)) _ _ i2)) (atI_nat (il_at g2.1)))) (ev_op (ev_var rfl) (ev_var rfl) (rv_ixL (SqL.of ((e12.trans (e3.trans e4)) _ _ i1)) (atI_nat (il_at g1.1)))) rv_I0) (rv_I (mulW hd (g2.2.sub g1.2) (by decide) (by decide) (by decide)))⟩
    · rw [filter_true]
      unfold pullM
      rw [List.map_map]
      rfl
theorem l_pull {H : Hp} {v : V} {b : MBal} {nodes : List MNode} {spans : List MSpan} {own other : Nat} {d : Int} (h : BalR K H b v) (B : BalOk b nodes spans) (h1 : b.hang own = true) (h2 : b.hang other = true) (hd : Bits 20 d) : SpL (spPull K) [v, natV own, natV other, .int d] H ((pullM b own other d).map V.int) := fun H1 e Q q E => ⟨v, b, own, other, d, rfl, BalR.mon _ _ _ _ e h, B.at_ h1, B.at_ h2, hd, fun p H' a b c => q p H' a b c⟩
def spSummed (K : PySem.W.Frag) : Sp := fun vs H Q _ => ∃ (a : Addr) (l : List (List Int)), vs = [.ref a] ∧ ListOf RowR H a l ∧ (∀ v ∈ l, v.length = 3) ∧ l.length ≤ 100 ∧ RetL ((summedM l).map V.int) H Q
theorem addV_len (u v : List Int) : (addV u v).length = 3 := by simp [addV]
theorem fold_len : ∀ (l : List (List Int)) {a : List Int}, a.length = 3 → (l.foldl addV a).length = 3
  | [], _, h => h
  | v :: l, a, h => fold_len l (addV_len a v)
theorem get3 {l : List Int} (h : l.length = 3) {i : Nat} (hi : i < 3) : l[i]? = some (l.getD i 0) := by
  have : i < l.length := by omega
  simp [List.getD, List.getElem?_eq_getElem this]
theorem ok_summed (T : Tx K mg) : OkD P w K mg base 1 "summed" ["vectors"] (spSummed K) := by
  refine T.ok 41 21 "summed" 25 sc_summed (fun vs H Q E h => ?_) (fun _ _ _ _ _ _ us hl => match us, hl with | [_], _ => rfl) (fun cdv A outer s H vs Q E hr h => ?_)
  · obtain ⟨_, _, rfl, _⟩ := h
    rfl
  · obtain ⟨a, l, rfl, hL, h3, hn, k⟩ := h
    refine ⟨_, (pss_cons (ps_set (i := 1) sc_summed.nd rfl (Or.inr rfl) (pe_lst (pa_cons pe_int (pa_cons pe_int (pa_cons pe_int pa_nil)))))
        (pss_cons (ps_for PassesOwn.never rfl (pi_listK K (pv 0)) (pg_name (i := 2) sc_summed.nd rfl (Or.inr rfl)) (pss_one (ps_set (i := 1) sc_summed.nd rfl (Or.inr rfl) (pe_lc (own := [("axis", 3)]) (g := gName 3) (tt := tYes) rfl sc_summed.nd (pi_rangeK (T_range T) (pa_cons pe_int pa_nil)) (blkOk_by (own := [("axis", 3)]) (N := N_summed) (sc := defScope (top 25)) (by decide +kernel)) (fun _ _ _ _ _ => (pg_name (i := 3) sc_summed.nd rfl (Or.inl rfl))) (fun _ _ _ _ _ => pts_nil) (fun _ _ _ _ _ => (pe_op op_add (pe_ixL K (pv 1) (pv 3)) (pe_ixL K (pv 2) (pv 3))))))))
        (pss_one (ps_ret (pv 1))))), ?_⟩
    obtain ⟨ys, hy, hp⟩ := hL
    refine q_asgL (el_lst (ea_cons ev_c (ea_cons ev_c (ea_cons ev_c ea_nil))) (by show 3 ≤ 100000; decide)) fun t H1 ht e1 h1 => ?_
    refine q_forLn (xs := ys) (ev_var rfl) (SqL.of (e1 _ _ hy)) (fun i σ' H' => ∃ (v : Option V) (t : Addr), σ' = [some (.ref a), some (.ref t), v, none] ∧ H t = none ∧ Ex H H' ∧ IL H' t (summedM (l.take i))) (fun H2 e2 => ⟨none, t, rfl, ht, e1.trans e2, by show H2 t = _; exact e2 _ _ h1⟩) (fun i σ' H' _ ⟨_, _, _, _, e, _⟩ => SqL.of (e _ _ hy)) ?_ ?_
    · rintro i x σ' H' hi ⟨v, t', rfl, ht', e, hI⟩
      obtain ⟨r, hr, q, rfl, hq⟩ := Paired.back hp hi
      have lr : r.length = 3 := h3 r (List.mem_of_getElem? hr)
      have ls : (summedM (l.take i)).length = 3 := fold_len _ rfl
      have hq' : IL H' q r := hq.mono e
      refine s_asgL (el_is (el_lc (src_range (n := 3) (ea_cons ev_c ea_nil) (by decide)) (fun _ => true) (fun j => V.int ((summedM (l.take i)).getD j 0 + r.getD j 0)) (gName_mono 3) (by decide) ?_) ?_) fun t2 H2 ht2 e2 h2 => ⟨some (.ref q), t2, rfl, fresh_back e ht2, e.trans e2, h2⟩
      · rintro j k' it H3 H4 H5 hx e3 e4 ⟨rfl, rfl⟩
        have hk : k' < 3 := by have := List.mem_of_getElem? hx; simpa using this
        exact ⟨Ex.refl _, rfl, et_yes, fun _ => ev_op (ev_op (ev_var rfl) (ev_var rfl) (rv_ixL (SqL.of ((e3.trans e4) _ _ hI)) (atI_nat (il_at (get3 ls hk))))) (ev_op (ev_var rfl) (ev_var rfl) (rv_ixL (SqL.of ((e3.trans e4) _ _ hq')) (atI_nat (il_at (get3 lr hk))))) rv_I0⟩
      · rw [filter_true, take_snoc hr]
        unfold summedM
        rw [List.foldl_append]
        rfl
    · rintro σ' H' ⟨v, t', rfl, ht', e, hI⟩
      rw [← Paired.len hp, List.take_length] at hI
      exact s_ret (ev_var rfl) fun H2 e2 => k t' H2 ht' (e.trans e2) (e2 _ _ hI)
theorem l_summed {H : Hp} {a : Addr} {l : List (List Int)} (h : ListOf RowR H a l) (h3 : ∀ v ∈ l, v.length = 3) (hn : l.length ≤ 100) : SpL (spSummed K) [.ref a] H ((summedM l).map V.int) := fun H1 e Q q E => ⟨a, l, rfl, h.mono RowR.mon e, h3, hn, fun p H' a b c => q p H' a b c⟩
/-- f of a new list -/
theorem el_callN {σ : L2.St} {H : Hp} {te : TE} {sp : Sp} {P : Hp → List V → Prop} {xs : List V} (h : EvLP te σ H P) (hs : ∀ p zs H1, Ex H H1 → H1 p = some (.lst zs) → P (hide p H1) zs → SpL sp [.ref p] H1 xs) : EvL (tCall sp [] E0 (tCons te tNil)) σ H xs := fun H1 e Q q =>
  h H1 e _ fun p zs H2 hp e2 h2 hP => hs p zs H2 (e.trans e2) h2 hP H2 (Ex.refl H2) Q (fun p2 H3 hp2 e3 h3 => q p2 H3 (fresh_back e2 hp2) (e2.trans e3) h3) E0
def spForce (K : PySem.W.Frag) : Sp := fun vs H Q _ => ∃ (v : V) (b : MBal) (nodes : List MNode) (l : List MSpan) (a : Addr) (i : Nat), vs = [v, .ref a, natV i] ∧ BalR K H b v ∧ ListOf (SpanR K) H a l ∧ NetOk nodes l ∧ BalOk b nodes l ∧ b.hang i = true ∧ RetL ((forceM b l i).map V.int) H Q
theorem ok_force_at (T : Tx K mg) : OkD P w K mg base 3 "force_at" ["balance", "spans", "i"] (spForce K) := by
  refine T.ok 42 22 "force_at" 26 sc_force_at (fun vs H Q E h => ?_) (fun _ _ _ _ _ _ us hl => match us, hl with | [_, _, _], _ => rfl) (fun cdv A outer s H vs Q E hr h => ?_)
  · obtain ⟨_, _, _, _, _, _, rfl, _⟩ := h
    rfl
  · obtain ⟨v, b, nodes, l, a, i, rfl, hB, hL, hN, hO, hi, k⟩ := h
    refine ⟨_, (pss_one (ps_ret (pe_callD (ok_summed (K := K) T) (hr.mono (by decide)) (pa_cons (pe_lc (own := [("span", 3)]) (g := gName 3) (tt := tYes) rfl sc_force_at.nd (pi_listK K (pe_callD (ok_drawing_at (K := K) T) (hr.mono (by decide)) (pa_cons (pv 1) (pa_cons (pv 2) pa_nil)))) (blkOk_by (own := [("span", 3)]) (N := N_force_at) (sc := defScope (top 26)) (by decide +kernel)) (fun _ _ _ _ _ => (pg_name (i := 3) sc_force_at.nd rfl (Or.inl rfl))) (fun _ _ _ _ _ => pts_nil) (fun _ _ _ _ _ => (pe_callD (ok_pull_towards (K := K) T) (hr.mono (by decide)) (pa_cons (pv 0) (pa_cons (pv 2) (pa_cons (pe_callD (ok_other_end (K := K) T) (hr.mono (by decide)) (pa_cons (pv 3) (pa_cons (pv 2) pa_nil))) (pa_cons (pe_fldK K (pv 3)) pa_nil))))))) pa_nil)))), ?_⟩
    refine s_retL (el_callN (elp_lc (src_new SpanR.mon (elp_call (P := fun H' zs => Paired (SpanR K H') (drawingAtM l i) zs) (ea_cons (ev_var rfl) (ea_cons (ev_var rfl) ea_nil)) fun H1 e Q' E' k' => ⟨a, l, i, rfl, hL.mono SpanR.mon e, hN.sl, k'⟩)) (fun _ => true) (fun H' s v => RowR H' (pullM b i (otherEndM s i) s.d) v) (fun _ _ _ _ e r => RowR.mon _ _ _ _ e r) (gName_mono 3) ?_ ?_) fun p zs H1 e1 h1 hP => ?_) k
    · have := drawingAt_len (spans := l) i
      have := hN.sl
      omega
    · rintro j s it H2 H3 H4 D hs e2 e3 hD ⟨rfl, r⟩
      have r0 := SpanR.mon _ _ _ _ e3 r
      obtain ⟨q, dx, rfl, hq⟩ := id r0
      obtain ⟨o1, o2, o3⟩ := drawn_other hN hO hi (List.mem_of_getElem? hs)
      exact ⟨Ex.refl _, rfl, et_yes, fun _ => evd_l (el_call (ea_cons (ev_var rfl) (ea_cons (ev_var rfl) (ea_cons (ev_call (ea_cons (ev_var rfl) (ea_cons (ev_var rfl) ea_nil)) (v_other r0)) (ea_cons (ev_fld (ev_var rfl) hq (C_Span T) (F_Span_density T) (l_density _)) ea_nil)))) (l_pull (BalR.mon _ _ _ _ (e2.trans e3) hB) hO hi o1 o2)) fun p H' hp => ⟨p, rfl, hp⟩⟩
    · rw [filter_true] at hP
      refine l_summed (l := (drawingAtM l i).map fun s => pullM b i (otherEndM s i) s.d) ⟨zs, h1, ?_⟩ ?_ ?_
      · exact paired_map (Paired.imp (fun _ _ r => RowR.mon _ _ _ _ (hide_ex p H1) r) hP)
      · intro v hv
        obtain ⟨s, hs, rfl⟩ := List.mem_map.mp hv
        simp [pullM]
      · rw [List.length_map]
        have := drawingAt_len (spans := l) i
        have := hN.sl
        omega
theorem l_force {H : Hp} {v : V} {b : MBal} {nodes : List MNode} {l : List MSpan} {a : Addr} {i : Nat} (h : BalR K H b v) (hL : ListOf (SpanR K) H a l) (hN : NetOk nodes l) (B : BalOk b nodes l) (hi : b.hang i = true) : SpL (spForce K) [v, .ref a, natV i] H ((forceM b l i).map V.int) := fun H1 e Q q E => ⟨v, b, nodes, l, a, i, rfl, BalR.mon _ _ _ _ e h, hL.mono SpanR.mon e, hN, B, hi, fun p H' a b c => q p H' a b c⟩
def spMoment (K : PySem.W.Frag) : Sp := fun vs H Q _ => ∃ (v : V) (n : MNode) (a : Addr) (f : List Int), vs = [v, .ref a] ∧ NodeR K H n v ∧ IL H a f ∧ V3 17 n.vec ∧ V3 2200 f ∧ ∀ H', Ex H H' → Q (.int (momentM n f)) H'
theorem ok_moment_square (T : Tx K mg) : OkD P w K mg base 1 "moment_square" ["node", "force"] (spMoment K) := by
  refine T.ok 43 23 "moment_square" 27 sc_moment_square (fun vs H Q E h => ?_) (fun _ _ _ _ _ _ us hl => match us, hl with | [_, _], _ => rfl) (fun cdv A outer s H vs Q E hr h => ?_)
  · obtain ⟨_, _, _, _, rfl, _⟩ := h
    rfl
  · obtain ⟨v, n, a, f, rfl, hB, hf, hn, hv, k⟩ := h
    refine ⟨_, (pss_cons (ps_asg (pv 1) (pg_unlK K (pgs_cons (pg_name (i := 2) sc_moment_square.nd rfl (Or.inl rfl)) (pgs_cons (pg_name (i := 3) sc_moment_square.nd rfl (Or.inl rfl)) (pgs_cons (pg_name (i := 4) sc_moment_square.nd rfl (Or.inl rfl)) pgs_nil)))))
        (pss_cons (ps_set (i := 5) sc_moment_square.nd rfl (Or.inl rfl) (pe_ixT K (pe_fldK K (pv 0)) pe_int))
        (pss_one (ps_ret (pe_op op_mulW (pe_op op_mulW (pe_op op_add (pe_op op_mulW (pv 2) (pv 2)) (pe_op op_mulW (pv 3) (pv 3))) (pv 5)) (pv 5)))))), ?_⟩
    obtain ⟨p, dx, t, rfl, hp, ht⟩ := hB
    obtain ⟨x, y, z, rfl, bx, by_, bz⟩ := hv
    have b2 : Bits 17 n.z := (hn.get 2 (by decide)).2
    refine ⟨_, rfl, a, _, rfl, SqL.of hf, rfl, ?_⟩
    refine ⟨_, _, rfl, _, _, rfl, _, _, rfl, rfl, ?_⟩
    refine q_asg (ev_op (ev_fld (ev_var rfl) hp (C_Node T) (F_Node_vector T) (l_vector _ _)) ev_c (rv_ixT (SqT.of ht) (atI_nat (j := 2) (v := .int n.z) rfl))) fun H1 e1 => ?_
    exact s_ret (ev_op (ev_op (ev_op (ev_op (ev_var rfl) (ev_var rfl) (rv_I (mulW bx bx (by decide) (by decide) (by decide)))) (ev_op (ev_var rfl) (ev_var rfl) (rv_I (mulW by_ by_ (by decide) (by decide) (by decide)))) rv_I0) (ev_var rfl) (rv_I (mulW ((bx.mul bx).add (by_.mul by_)) b2 (by decide) (by decide) (by decide)))) (ev_var rfl) (rv_I (mulW (((bx.mul bx).add (by_.mul by_)).mul b2) b2 (by decide) (by decide) (by decide)))) fun H2 e2 => k H2 (e1.trans e2)
theorem v_moment {H : Hp} {v : V} {n : MNode} {a : Addr} {f : List Int} (h : NodeR K H n v) (hf : IL H a f) (hn : V3 17 n.vec) (hv : V3 2200 f) : SpV (spMoment K) [v, .ref a] H (.int (momentM n f)) := fun H1 e Q q E => ⟨v, n, a, f, rfl, NodeR.mon _ _ _ _ e h, hf.mono e, hn, hv, q⟩
def spBearsSo (K : PySem.W.Frag) : Sp := fun vs H Q _ => ∃ (v u : V) (b : MBal) (n : MNode) (m : Int), vs = [v, u, .int m] ∧ BalR K H b v ∧ NodeR K H n u ∧ Bits 2000 b.bottom ∧ Bits 20 n.bound ∧ ∀ H', Ex H H' → Q (.bl (bearsSoM b n m)) H'
theorem intV_eq {a b : Int} : decide (V.int a = V.int b) = decide (a = b) := by
  by_cases h : a = b
  · subst h
    simp
  · have : ¬ V.int a = V.int b := fun e => h (by injection e)
    rw [decide_eq_false h, decide_eq_false this]
theorem fb_bits {b : MBal} (h : Bits 2000 b.bottom) : Bits 2010 b.fb := Bits.mul (k := 10) (show Bits 10 1000 by unfold Bits; decide) h
theorem ok_bears_so (T : Tx K mg) : OkD P w K mg base 2 "bears_so" ["balance", "node", "moment"] (spBearsSo K) := by
  refine T.ok 44 24 "bears_so" 28 sc_bears_so (fun vs H Q E h => ?_) (fun _ _ _ _ _ _ us hl => match us, hl with | [_, _, _], _ => rfl) (fun cdv A outer s H vs Q E hr h => ?_)
  · obtain ⟨_, _, _, _, _, rfl, _⟩ := h
    rfl
  · obtain ⟨v, u, b, n, m, rfl, hB, hn, hb, hd, k⟩ := h
    refine ⟨_, (pss_cons (ps_set (i := 3) sc_bears_so.nd rfl (Or.inl rfl) (pe_callD (ok_force_bottom (K := K) T) (hr.mono (by decide)) (pa_cons (pv 0) pa_nil)))
        (pss_one (ps_ret (pe_or (pe_cmpR op_eq (pe_fldK K (pv 1)) pe_int (nomark _)) (pe_one (pe_cmpR op_le (pv 2) (pe_op op_mulW (pe_op op_mulW (pe_op op_mulW (pe_fldK K (pv 1)) (pe_fldK K (pv 1))) (pv 3)) (pv 3)) (nomark _))))))), ?_⟩
    obtain ⟨p, dx, t, rfl, hp, ht⟩ := hn
    have hf := fb_bits hb
    refine q_asg (ev_call (ea_cons (ev_var rfl) ea_nil) (v_fb hB hb)) fun H1 e1 => ?_
    refine s_ret (ev_orV (a := decide (n.bound = 0)) (b := decide (m ≤ n.bound * n.bound * b.fb * b.fb)) (ev_is (ev_op (ev_fld (ev_var rfl) (e1 _ _ hp) (C_Node T) (F_Node_bound T) (l_bound _ _)) ev_c (rv_eq rfl)) (congrArg V.bl intV_eq)) fun _ => ?_) fun H2 e2 => k H2 (e1.trans e2)
    exact ev_op (ev_var rfl) (ev_op (ev_op (ev_op (ev_fld (ev_var rfl) (e1 _ _ hp) (C_Node T) (F_Node_bound T) (l_bound _ _)) (ev_fld (ev_var rfl) (e1 _ _ hp) (C_Node T) (F_Node_bound T) (l_bound _ _)) (rv_I (mulW hd hd (by decide) (by decide) (by decide)))) (ev_var rfl) (rv_I (mulW (hd.mul hd) hf (by decide) (by decide) (by decide)))) (ev_var rfl) (rv_I (mulW ((hd.mul hd).mul hf) hf (by decide) (by decide) (by decide)))) rv_I0
theorem v_bearsSo {H : Hp} {v u : V} {b : MBal} {n : MNode} {m : Int} (h : BalR K H b v) (h2 : NodeR K H n u) (hb : Bits 2000 b.bottom) (hd : Bits 20 n.bound) : SpV (spBearsSo K) [v, u, .int m] H (.bl (bearsSoM b n m)) := fun H1 e Q q E => ⟨v, u, b, n, m, rfl, BalR.mon _ _ _ _ e h, NodeR.mon _ _ _ _ e h2, hb, hd, q⟩
/-- what nearly all that asks is handed: a balance, the nodes, the spans -/
structure Bundle (K : PySem.W.Frag) (H : Hp) (v : V) (b : MBal) (an a : Addr) (nodes : List MNode) (l : List MSpan) : Prop where
  bal : BalR K H b v
  nds : ListOf (NodeR K) H an nodes
  sps : ListOf (SpanR K) H a l
  net : NetOk nodes l
  ok : BalOk b nodes l
theorem Bundle.mono {H H' : Hp} {v : V} {b : MBal} {an a : Addr} {nodes : List MNode} {l : List MSpan} (e : Ex H H') (h : Bundle K H v b an a nodes l) : Bundle K H' v b an a nodes l := ⟨BalR.mon _ _ _ _ e h.bal, h.nds.mono NodeR.mon e, h.sps.mono SpanR.mon e, h.net, h.ok⟩
theorem nodeOk {nodes : List MNode} {l : List MSpan} (N : NetOk nodes l) {i : Nat} {n : MNode} (h : nodes[i]? = some n) : nodes.getD i default = n ∧ V3 17 n.vec ∧ 0 ≤ n.bound ∧ Bits 20 n.bound := ⟨getD_at h, N.node n (List.mem_of_getElem? h)⟩
def spHolds (K : PySem.W.Frag) : Sp := fun vs H Q _ => ∃ (v : V) (b : MBal) (an a : Addr) (nodes : List MNode) (l : List MSpan) (i : Nat) (n : MNode), vs = [v, .ref an, .ref a, natV i] ∧ Bundle K H v b an a nodes l ∧ nodes[i]? = some n ∧ n.fixed = true ∧ ∀ H', Ex H H' → Q (.bl (holdsM b nodes l i)) H'
/-- f of a value, then of a new list -/
theorem ev_callVL {σ : L2.St} {H : Hp} {te tf : TE} {sp : Sp} {x z : V} {xs : List V} (h1 : Ev te σ H x) (h : EvL tf σ H xs) (hs : ∀ p H1, Ex H H1 → H1 p = some (.lst xs) → SpV sp [x, .ref p] H1 z) : Ev (tCall sp [] E0 (tCons te (tCons tf tNil))) σ H z := fun H1 e Q q =>
  h1 H1 e _ fun H2 e2 => h H2 (e.trans e2) _ fun p H3 hp e3 h3 => hs p H3 ((e.trans e2).trans e3) h3 H3 (Ex.refl H3) Q (fun H4 e4 => q H4 ((e2.trans e3).trans e4)) E0
theorem ok_holds (T : Tx K mg) : OkD P w K mg base 4 "holds" ["balance", "nodes", "spans", "i"] (spHolds K) := by
  refine T.ok 45 25 "holds" 29 sc_holds (fun vs H Q E h => ?_) (fun _ _ _ _ _ _ us hl => match us, hl with | [_, _, _, _], _ => rfl) (fun cdv A outer s H vs Q E hr h => ?_)
  · obtain ⟨_, _, _, _, _, _, _, _, rfl, _⟩ := h
    rfl
  · obtain ⟨v, b, an, a, nodes, l, i, n, rfl, hB, hi, hf, k⟩ := h
    refine ⟨_, (pss_one (ps_ret (pe_callD (ok_bears_so (K := K) T) (hr.mono (by decide)) (pa_cons (pv 0) (pa_cons (pe_ixL K (pv 1) (pv 3)) (pa_cons (pe_callD (ok_moment_square (K := K) T) (hr.mono (by decide)) (pa_cons (pe_ixL K (pv 1) (pv 3)) (pa_cons (pe_callD (ok_force_at (K := K) T) (hr.mono (by decide)) (pa_cons (pv 0) (pa_cons (pv 2) (pa_cons (pv 3) pa_nil)))) pa_nil))) pa_nil)))))), ?_⟩
    obtain ⟨en, nv, nb, nB⟩ := nodeOk hB.net hi
    obtain ⟨ys, hy, hp⟩ := hB.nds
    obtain ⟨u, hu, hr⟩ := Paired.at hp hi
    have hg : b.hang i = true := hB.ok.fix i n hi hf
    refine s_ret (ev_is (ev_call (ea_cons (ev_var rfl) (ea_cons (ev_op (ev_var rfl) (ev_var rfl) (rv_ixL (SqL.of hy) (atI_nat hu))) (ea_cons (ev_callVL (ev_op (ev_var rfl) (ev_var rfl) (rv_ixL (SqL.of hy) (atI_nat hu))) (el_call (ea_cons (ev_var rfl) (ea_cons (ev_var rfl) (ea_cons (ev_var rfl) ea_nil))) (l_force hB.bal hB.sps hB.net hB.ok hg)) fun p H1 e1 h1 => v_moment (NodeR.mon _ _ _ _ e1 hr) h1 nv ((force_v3 hB.net hB.ok hg).mono (by decide))) ea_nil))) (v_bearsSo hB.bal hr hB.ok.bb nB)) ?_) k
    unfold holdsM
    rw [en]
theorem v_holds {H : Hp} {v : V} {b : MBal} {an a : Addr} {nodes : List MNode} {l : List MSpan} {i : Nat} {n : MNode} (h : Bundle K H v b an a nodes l) (hi : nodes[i]? = some n) (hf : n.fixed = true) : SpV (spHolds K) [v, .ref an, .ref a, natV i] H (.bl (holdsM b nodes l i)) := fun H1 e Q q E => ⟨v, b, an, a, nodes, l, i, n, rfl, h.mono e, hi, hf, q⟩
def spFailing (K : PySem.W.Frag) : Sp := fun vs H Q _ => ∃ (v : V) (b : MBal) (an a : Addr) (nodes : List MNode) (l : List MSpan), vs = [v, .ref an, .ref a] ∧ Bundle K H v b an a nodes l ∧ RetL ((failingM b nodes l).map V.bl) H Q
theorem ok_failing (T : Tx K mg) : OkD P w K mg base 5 "failing" ["balance", "nodes", "spans"] (spFailing K) := by
  refine T.ok 46 26 "failing" 30 sc_failing (fun vs H Q E h => ?_) (fun _ _ _ _ _ _ us hl => match us, hl with | [_, _, _], _ => rfl) (fun cdv A outer s H vs Q E hr h => ?_)
  · obtain ⟨_, _, _, _, _, _, rfl, _⟩ := h
    rfl
  · obtain ⟨v, b, an, a, nodes, l, rfl, hB, k⟩ := h
    refine ⟨_, (pss_one (ps_ret (pe_lc (own := [("i", 3)]) (g := gName 3) (tt := tYes) rfl sc_failing.nd (pi_rangeK (T_range T) (pa_cons (pe_len K (T_len T) (pa_cons (pv 1) pa_nil)) pa_nil)) (blkOk_by (own := [("i", 3)]) (N := N_failing) (sc := defScope (top 30)) (by decide +kernel)) (fun _ _ _ _ _ => (pg_name (i := 3) sc_failing.nd rfl (Or.inl rfl))) (fun _ _ _ _ _ => pts_nil) (fun _ _ _ _ _ => (pe_and (pe_fldK K (pe_ixL K (pv 1) (pv 3))) (pe_one (pe_not (pe_callD (ok_holds (K := K) T) (hr.mono (by decide)) (pa_cons (pv 0) (pa_cons (pv 1) (pa_cons (pv 2) (pa_cons (pv 3) pa_nil)))))))))))), ?_⟩
    obtain ⟨ys, hy, hp⟩ := hB.nds
    refine s_retL (el_is (el_lc (src_range (n := nodes.length) (ea_cons (ev_len2 (ev_var rfl) hy (by rw [Paired.len hp])) ea_nil) (by have := hB.net.nl; omega)) (fun _ => true) (fun i => V.bl ((nodes.getD i default).fixed && !holdsM b nodes l i)) (gName_mono 3) (by rw [List.length_range]; have := hB.net.nl; omega) ?_) ?_) k
    · rintro j i it H2 H3 H4 hx e2 e3 ⟨rfl, rfl⟩
      have hi : i < nodes.length := by have := List.mem_of_getElem? hx; simpa using this
      have hn : nodes[i]? = some nodes[i] := List.getElem?_eq_getElem hi
      obtain ⟨u, hu, hr⟩ := Paired.at hp hn
      have e := e2.trans e3
      obtain ⟨q, dx, t, rfl, hq, ht⟩ := NodeR.mon _ _ _ _ e hr
      rw [getD_at hn]
      exact ⟨Ex.refl _, rfl, et_yes, fun _ => ev_andV (ev_fld (ev_op (ev_var rfl) (ev_var rfl) (rv_ixL (SqL.of (e _ _ hy)) (atI_nat hu))) hq (C_Node T) (F_Node_fixed T) (l_fixed _ _)) fun hf => ev_notV (ev_call (ea_cons (ev_var rfl) (ea_cons (ev_var rfl) (ea_cons (ev_var rfl) (ea_cons (ev_var rfl) ea_nil)))) (v_holds (hB.mono e) hn hf))⟩
    · rw [filter_true]
      unfold failingM
      rw [List.map_map]
      rfl
theorem l_failing {H : Hp} {v : V} {b : MBal} {an a : Addr} {nodes : List MNode} {l : List MSpan} (h : Bundle K H v b an a nodes l) : SpL (spFailing K) [v, .ref an, .ref a] H ((failingM b nodes l).map V.bl) := fun H1 e Q q E => ⟨v, b, an, a, nodes, l, rfl, h.mono e, fun p H' a b c => q p H' a b c⟩
def spStrain (K : PySem.W.Frag) : Sp := fun vs H Q _ => ∃ (v : V) (b : MBal) (an a : Addr) (nodes : List MNode) (l : List MSpan) (i : Nat) (n : MNode), vs = [v, .ref an, .ref a, natV i] ∧ Bundle K H v b an a nodes l ∧ nodes[i]? = some n ∧ n.fixed = true ∧ ∀ p H', H p = none → Ex H H' → H' p = some (.tup [.int (strainM b nodes l i).1, .int (strainM b nodes l i).2]) → Q (.ref p) H'
theorem ok_strain (T : Tx K mg) : OkD P w K mg base 4 "strain" ["balance", "nodes", "spans", "i"] (spStrain K) := by
  refine T.ok 47 27 "strain" 31 sc_strain (fun vs H Q E h => ?_) (fun _ _ _ _ _ _ us hl => match us, hl with | [_, _, _, _], _ => rfl) (fun cdv A outer s H vs Q E hr h => ?_)
  · obtain ⟨_, _, _, _, _, _, _, _, rfl, _⟩ := h
    rfl
  · obtain ⟨v, b, an, a, nodes, l, i, n, rfl, hB, hi, hf, k⟩ := h
    refine ⟨_, (pss_cons (ps_set (i := 4) sc_strain.nd rfl (Or.inl rfl) (pe_op op_mulW (pe_callD (ok_force_bottom (K := K) T) (hr.mono (by decide)) (pa_cons (pv 0) pa_nil)) (pe_fldK K (pe_ixL K (pv 1) (pv 3)))))
        (pss_one (ps_ret (pe_tup (pa_cons (pe_callD (ok_moment_square (K := K) T) (hr.mono (by decide)) (pa_cons (pe_ixL K (pv 1) (pv 3)) (pa_cons (pe_callD (ok_force_at (K := K) T) (hr.mono (by decide)) (pa_cons (pv 0) (pa_cons (pv 2) (pa_cons (pv 3) pa_nil)))) pa_nil))) (pa_cons (pe_op op_mulW (pv 4) (pv 4)) pa_nil)))))), ?_⟩
    obtain ⟨en, nv, nb, nB⟩ := nodeOk hB.net hi
    obtain ⟨ys, hy, hp⟩ := hB.nds
    obtain ⟨u, hu, hr⟩ := Paired.at hp hi
    have hg : b.hang i = true := hB.ok.fix i n hi hf
    have hfb := fb_bits hB.ok.bb
    obtain ⟨q, dx, t, rfl, hq, ht⟩ := id hr
    refine q_asg (ev_op (ev_call (ea_cons (ev_var rfl) ea_nil) (v_fb hB.bal hB.ok.bb)) (ev_fld (ev_op (ev_var rfl) (ev_var rfl) (rv_ixL (SqL.of hy) (atI_nat hu))) hq (C_Node T) (F_Node_bound T) (l_bound _ _)) (rv_I (mulW hfb nB (by decide) (by decide) (by decide)))) fun H1 e1 => ?_
    have hm := hfb.mul nB
    have hB1 := hB.mono e1
    refine s_retU (eu_tup (ea_cons (ev_callVL (ev_op (ev_var rfl) (ev_var rfl) (rv_ixL (SqL.of (e1 _ _ hy)) (atI_nat hu))) (el_call (ea_cons (ev_var rfl) (ea_cons (ev_var rfl) (ea_cons (ev_var rfl) ea_nil))) (l_force hB1.bal hB1.sps hB.net hB.ok hg)) fun p H2 e2 h2 => v_moment (NodeR.mon _ _ _ _ (e1.trans e2) hr) h2 nv ((force_v3 hB.net hB.ok hg).mono (by decide))) (ea_cons (ev_op (ev_var rfl) (ev_var rfl) (rv_I (mulW hm hm (by decide) (by decide) (by decide)))) ea_nil)) (by show 2 ≤ 100000; decide)) fun p H2 hp2 e2 h2 => k p H2 (fresh_back e1 hp2) (e1.trans e2) ?_
    rw [h2]
    unfold strainM
    rw [en]
end
end Wp


namespace Wp
open PySem PySem.Spec PyProof.Rows L2 Evl
open He (ga ma Fa DefD SaysD)
/-! ### lists by turns -/
theorem hangStep_len (h : List Bool) (s : MSpan) : (hangStep h s).length = h.length := by
  unfold hangStep
  split <;> simp
theorem hangFold_len : ∀ (l : List MSpan) (h : List Bool), (l.foldl hangStep h).length = h.length
  | [], _ => rfl
  | s :: l, h => by rw [List.foldl_cons, hangFold_len l, hangStep_len]
theorem hangTurns_len (l : List MSpan) (k : Nat) (h : List Bool) : ((List.range k).foldl (fun h _ => l.foldl hangStep h) h).length = h.length := by
  induction k with
  | zero => rfl
  | succ k ih => rw [List.range_succ, List.foldl_append, List.foldl_cons, List.foldl_nil, hangFold_len, ih]
theorem bl_at {L : List Bool} {i : Nat} (h : i < L.length) : (L.map V.bl)[i]? = some (.bl (L.getD i false)) := by
  rw [List.getElem?_map, List.getElem?_eq_getElem h, getD_at (List.getElem?_eq_getElem h)]
  rfl
section
variable {P : Program} {w : World} {K : PySem.W.Frag} {mg : Str → Option Value} {base : Heap}
def spHanging (K : PySem.W.Frag) : Sp := fun vs H Q _ => ∃ (an a : Addr) (nodes : List MNode) (l : List MSpan), vs = [.ref an, .ref a] ∧ ListOf (NodeR K) H an nodes ∧ ListOf (SpanR K) H a l ∧ NetOk nodes l ∧ RetL ((hangM nodes l).map V.bl) H Q
theorem ok_hanging (T : Tx K mg) : OkD P w K mg base 2 "hanging" ["nodes", "spans"] (spHanging K) := by
  refine T.ok 31 11 "hanging" 14 sc_hanging (fun vs H Q E h => ?_) (fun _ _ _ _ _ _ us hl => match us, hl with | [_, _], _ => rfl) (fun cdv A outer s H vs Q E hr h => ?_)
  · obtain ⟨_, _, _, _, rfl, _⟩ := h
    rfl
  · obtain ⟨an, a, nodes, l, rfl, hn, hL, hN, k⟩ := h
    refine ⟨_, (pss_cons (ps_setLc (i := 2) (own := [("node", 6)]) (g := gName 6) (tt := tYes) rfl sc_hanging.nd rfl rfl (sw_true rfl rfl rfl (by decide +kernel)) (pi_listK K (pv 0)) (blkOk_by (own := [("node", 6)]) (N := N_hanging) (sc := defScope (top 14)) (by decide +kernel)) (fun _ _ _ _ _ => (pg_name (i := 6) sc_hanging.nd rfl (Or.inl rfl))) (fun _ _ _ _ _ => pts_nil) (fun _ _ _ _ _ => (pe_fldK K (pv 6))))
        (pss_cons (ps_setLc (i := 3) (own := [("span", 5)]) (g := gName 5) rfl sc_hanging.nd rfl rfl (sw_true rfl rfl rfl (by decide +kernel)) (pi_listK K (pv 1)) (blkOk_by (own := [("span", 5)]) (N := N_hanging) (sc := defScope (top 14)) (by decide +kernel)) (fun _ _ _ _ _ => (pg_name (i := 5) sc_hanging.nd rfl (Or.inl rfl))) (fun _ _ _ _ _ => (pts_one (pt_val (pe_callD (ok_draws (K := K) T) (hr.mono (by decide)) (pa_cons (pv 5) pa_nil))))) (fun _ _ _ _ _ => (pv 5)))
        (pss_cons (ps_for PassesOwn.never rfl (pi_rangeK (T_range T) (pa_cons (pe_len K (T_len T) (pa_cons (pv 0) pa_nil)) pa_nil)) (pg_name (i := 4) sc_hanging.nd rfl (Or.inl rfl)) (pss_one (ps_for PassesOwn.never rfl (pi_listK K (pv 3)) (pg_name (i := 5) sc_hanging.nd rfl (Or.inl rfl)) (pss_one (ps_if (PW.pt (pw_or (pt_val (pe_ixL K (pv 2) (pe_fldK K (pv 5)))) (pw_or1 (pt_val (pe_ixL K (pv 2) (pe_fldK K (pv 5))))))) (pss_cons (ps_asg pe_bl (pg_sub (pv 2) (pe_fldK K (pv 5)) set_list))
        (pss_one (ps_asg pe_bl (pg_sub (pv 2) (pe_fldK K (pv 5)) set_list)))) pss_nil)))))
        (pss_one (ps_ret (pv 2)))))), ?_⟩
    obtain ⟨ns, hns, hpn⟩ := hn
    obtain ⟨ys, hy, hp⟩ := hL
    refine q_asgL (el_lc (src_list NodeR.mon (ev_var rfl) (SqL.of hns) hpn) (fun _ => true) (fun n => V.bl n.fixed) (gName_mono 6) (by have := hN.nl; omega) ?_) fun h H1 hh e1 h1 => ?_
    · rintro i n it H2 H3 H4 hx e2 e3 ⟨rfl, r⟩
      obtain ⟨q, dx, t, rfl, hq, ht⟩ := NodeR.mon _ _ _ _ e3 r
      exact ⟨Ex.refl _, rfl, et_yes, fun _ => ev_fld (ev_var rfl) hq (C_Node T) (F_Node_fixed T) (l_fixed _ _)⟩
    rw [filter_true] at h1
    refine u_asg (elp_lc (src_list (R := fun _ s v => SpanR K H s v) (fun _ _ _ _ _ r => r) (ev_var rfl) (SqL.of (e1 _ _ hy)) hp) drawsM (fun _ s v => SpanR K H s v) (fun _ _ _ _ _ r => r) (gName_mono 5) (by have := hN.sl; omega) ?_ H1 (Ex.refl _) _ fun d zs H2 hd e2 h2 hz => ?_)
    · rintro j s it H2 H3 H4 D hs e2 e3 hD ⟨rfl, r⟩
      exact ⟨Ex.refl _, rfl, et_B (ev_call (ea_cons (ev_var rfl) ea_nil) (v_draws (SpanR.mon _ _ _ _ ((e1.trans e2).trans e3) r))), fun _ => evd_v (ev_var rfl) e3 hD fun H' e => r⟩
    have hz : Paired (fun s v => SpanR K H s v) (drawingM l) zs := hz
    have hdh : d ≠ h := fun e => by
      rw [e, h1] at hd
      cases hd
    have eb : Ex H (hide h H2) := hide_base (e1.trans e2) hh
    have bd : (hide h H2) d = some (.lst zs) := by rw [hide_ne hdh]; exact h2
    have bh : (hide h H2) h = none := if_pos rfl
    have b0 : ∃ (L : List Bool), L = nodes.map (·.fixed) ∧ H2 h = some (.lst (L.map V.bl)) := ⟨_, rfl, by rw [e2 _ _ h1, List.map_map]; rfl⟩
    obtain ⟨L0, hL0, b0⟩ := b0
    have lenL : ∀ i, ((List.range i).foldl (fun h _ => (drawingM l).foldl hangStep h) L0).length = nodes.length := fun i => by
      rw [hangTurns_len, hL0, List.length_map]
    refine q_forR1 (n := (nodes.length : Int)) (ea_cons (ev_len2 (ev_var rfl) ((e1.trans e2) _ _ hns) (by rw [Paired.len hpn])) ea_nil) (by have := hN.nl; omega)
      (fun i σ' H' => ∃ t s : Option V, σ' = [some (.ref an), some (.ref a), some (.ref h), some (.ref d), t, s, none] ∧ Ex (hide h H2) H' ∧ H' h = some (.lst (((List.range i).foldl (fun h _ => (drawingM l).foldl hangStep h) L0).map V.bl)))
      (fun H3 e3 => ⟨none, none, rfl, (hide_ex h H2).trans e3, e3 _ _ b0⟩) ?_ ?_
    · rintro i σ' H' hi ⟨t, s, rfl, eH, hH⟩
      refine s_forLn (xs := zs) (ev_var rfl) (SqL.of (eH _ _ bd)) (fun j σ2 H3 => ∃ s : Option V, σ2 = [some (.ref an), some (.ref a), some (.ref h), some (.ref d), some (.int (i : Int)), s, none] ∧ Ex (hide h H2) H3 ∧ H3 h = some (.lst ((((drawingM l).take j).foldl hangStep ((List.range i).foldl (fun h _ => (drawingM l).foldl hangStep h) L0)).map V.bl)))
        (fun H3 e3 => ⟨s, rfl, eH.trans e3, e3 _ _ hH⟩) (fun j σ2 H3 _ ⟨_, _, e, _⟩ => SqL.of (e _ _ bd)) ?_ ?_
      · rintro j x σ2 H3 hx ⟨s, rfl, e3, hH3⟩
        obtain ⟨sp, hsp, q, dx, rfl, hq⟩ := Paired.back hz hx
        have hq3 := (eb.trans e3) _ _ hq
        have hmem : sp ∈ l := (List.mem_filter.mp (List.mem_of_getElem? hsp)).1
        obtain ⟨n1, n2, n3, _⟩ := hN.span sp hmem
        generalize hM : ((drawingM l).take j).foldl hangStep ((List.range i).foldl (fun h _ => (drawingM l).foldl hangStep h) L0) = M at hH3
        have lenM : M.length = nodes.length := by rw [← hM, hangFold_len, lenL]
        have goalM : ((drawingM l).take (j + 1)).foldl hangStep ((List.range i).foldl (fun h _ => (drawingM l).foldl hangStep h) L0) = hangStep M sp := by
          rw [take_snoc hsp, List.foldl_append, hM]
          rfl
        refine s_when (b := M.getD sp.a false || M.getD sp.b false) (et_or (et_B (ev_op (ev_var rfl) (ev_fld (ev_var rfl) hq3 (C_Span T) (F_Span_first T) (l_first _)) (rv_ixL (SqL.of hH3) (atI_nat (bl_at (by omega)))))) fun _ => et_B (ev_op (ev_var rfl) (ev_fld (ev_var rfl) hq3 (C_Span T) (F_Span_second T) (l_second _)) (rv_ixL (SqL.of hH3) (atI_nat (bl_at (by omega)))))) (fun hb H4 e4 => ?_) (fun hb H4 e4 => ?_)
        · have e34 := e3.trans e4
          refine q_setL (j := sp.a) (e4 _ _ hH3) ev_c (ev_var rfl) (ev_fld (ev_var rfl) (e4 _ _ hq3) (C_Span T) (F_Span_first T) (l_first _)) (by rw [List.length_map]; omega) fun H5 e5 => ?_
          have e35 := e34.trans e5
          have hqh : q ≠ h := fun e => by
            rw [e] at hq
            rw [hh] at hq
            cases hq
          refine s_setL (j := sp.b) upd_same ev_c (ev_var rfl) (ev_fld (ev_var rfl) (show upd H5 h _ q = _ by rw [upd_ne hqh]; exact e5 _ _ (e4 _ _ hq3)) (C_Span T) (F_Span_second T) (l_second _)) (by rw [List.length_set, List.length_map]; omega) fun H6 e6 => ⟨some (.ref q), rfl, ?_, ?_⟩
          · exact Ex.mut ((Ex.mut e35 bh).trans e6) bh
          · rw [upd_same, goalM]
            unfold hangStep
            rw [if_pos hb, List.map_set, List.map_set]
        · refine ⟨some (.ref q), rfl, e3.trans e4, ?_⟩
          rw [e4 _ _ hH3, goalM]
          unfold hangStep
          rw [if_neg (by rw [hb]; decide)]
      · rintro σ2 H3 ⟨s, rfl, e3, hH3⟩
        rw [← Paired.len hz, List.take_length] at hH3
        refine ⟨some (.int (i : Int)), s, rfl, e3, ?_⟩
        rw [hH3, List.range_succ, List.foldl_append]
        rfl
    · rintro σ' H' ⟨t, s, rfl, eH, hH⟩
      refine s_ret (ev_var rfl) fun H3 e3 => k h H3 hh ((eb.trans eH).trans e3) ?_
      rw [e3 _ _ hH, Int.toNat_natCast, hL0]
      rfl
theorem l_hanging {H : Hp} {an a : Addr} {nodes : List MNode} {l : List MSpan} (h1 : ListOf (NodeR K) H an nodes) (h2 : ListOf (SpanR K) H a l) (hN : NetOk nodes l) : SpL (spHanging K) [.ref an, .ref a] H ((hangM nodes l).map V.bl) := fun H1 e Q q E => ⟨an, a, nodes, l, rfl, h1.mono NodeR.mon e, h2.mono SpanR.mon e, hN, fun p H' a b c => q p H' a b c⟩
def spKnots (K : PySem.W.Frag) : Sp := fun vs H Q _ => ∃ (an a : Addr) (nodes : List MNode) (L : List Bool), vs = [.ref an, .ref a] ∧ ListOf (NodeR K) H an nodes ∧ BL H a L ∧ L.length = nodes.length ∧ nodes.length ≤ 24 ∧ RetL ((knotsM nodes L).map natV) H Q
theorem ok_hanging_knots (T : Tx K mg) : OkD P w K mg base 1 "hanging_knots" ["nodes", "hangs"] (spKnots K) := by
  refine T.ok 32 12 "hanging_knots" 15 sc_hanging_knots (fun vs H Q E h => ?_) (fun _ _ _ _ _ _ us hl => match us, hl with | [_, _], _ => rfl) (fun cdv A outer s H vs Q E hr h => ?_)
  · obtain ⟨_, _, _, _, rfl, _⟩ := h
    rfl
  · obtain ⟨an, a, nodes, L, rfl, hn, hL, hl, hN, k⟩ := h
    refine ⟨_, (pss_one (ps_ret (pe_lc (own := [("i", 2)]) (g := gName 2) rfl sc_hanging_knots.nd (pi_rangeK (T_range T) (pa_cons (pe_len K (T_len T) (pa_cons (pv 0) pa_nil)) pa_nil)) (blkOk_by (own := [("i", 2)]) (N := N_hanging_knots) (sc := defScope (top 15)) (by decide +kernel)) (fun _ _ _ _ _ => (pg_name (i := 2) sc_hanging_knots.nd rfl (Or.inl rfl))) (fun _ _ _ _ _ => (pts_one (PW.pt (pw_and (pt_val (pe_ixL K (pv 1) (pv 2))) (pw_and1 (pt_not (pt_val (pe_fldK K (pe_ixL K (pv 0) (pv 2)))))))))) (fun _ _ _ _ _ => (pv 2))))), ?_⟩
    obtain ⟨ns, hns, hpn⟩ := hn
    refine s_retL (el_lc (src_range (n := nodes.length) (ea_cons (ev_len2 (ev_var rfl) hns (by rw [Paired.len hpn])) ea_nil) (by omega)) (fun i => L.getD i false && !(nodes.getD i default).fixed) natV (gName_mono 2) (by rw [List.length_range]; omega) ?_) k
    rintro j i it H2 H3 H4 hx e2 e3 ⟨rfl, rfl⟩
    have hi : i < nodes.length := by have := List.mem_of_getElem? hx; simpa using this
    have hni : nodes[i]? = some nodes[i] := List.getElem?_eq_getElem hi
    obtain ⟨u, hu, hr⟩ := Paired.at hpn hni
    have e := e2.trans e3
    obtain ⟨q, dx, t, rfl, hq, ht⟩ := NodeR.mon _ _ _ _ e hr
    rw [getD_at hni]
    exact ⟨Ex.refl _, rfl, et_and (et_B (ev_op (ev_var rfl) (ev_var rfl) (rv_ixL (SqL.of (hL.mono e)) (atI_nat (bl_at (by omega)))))) fun _ => et_not (et_B (ev_fld (ev_op (ev_var rfl) (ev_var rfl) (rv_ixL (SqL.of (e _ _ hns)) (atI_nat hu))) hq (C_Node T) (F_Node_fixed T) (l_fixed _ _))), fun _ => ev_var rfl⟩
theorem l_knots {H : Hp} {an a : Addr} {nodes : List MNode} {L : List Bool} (h1 : ListOf (NodeR K) H an nodes) (h2 : BL H a L) (hl : L.length = nodes.length) (hn : nodes.length ≤ 24) : SpL (spKnots K) [.ref an, .ref a] H ((knotsM nodes L).map natV) := fun H1 e Q q E => ⟨an, a, nodes, L, rfl, h1.mono NodeR.mon e, h2.mono e, hl, hn, fun p H' a b c => q p H' a b c⟩
end
end Wp


namespace Wp
open PySem PySem.Spec PyProof.Rows L2 Evl
open He (ga ma Fa DefD SaysD)
/-! ### list.index -/
theorem idx_at : ∀ {l : List Nat} {x : Nat}, x ∈ l → l[l.idxOf x]? = some x ∧ l.idxOf x < l.length ∧ ∀ m z, m < l.idxOf x → l[m]? = some z → z ≠ x
  | [], x, h => by simp at h
  | a :: l, x, h => by
    by_cases e : a = x
    · subst e
      have : List.idxOf a (a :: l) = 0 := by simp
      rw [this]
      exact ⟨rfl, by simp, fun m z h => by omega⟩
    · have hx : x ∈ l := by
        rcases List.mem_cons.mp h with h | h
        · exact absurd h.symm e
        · exact h
      obtain ⟨h1, h2, h3⟩ := idx_at hx
      have : List.idxOf x (a :: l) = List.idxOf x l + 1 := by
        have hb : (a == x) = false := by simpa using e
        rw [List.idxOf_cons, hb]
        rfl
      rw [this]
      refine ⟨by simpa using h1, by simpa using h2, fun m z hm hz => ?_⟩
      match m, hm, hz with
      | 0, _, hz =>
        have : a = z := by simpa using hz
        rw [← this]
        exact e
      | m + 1, hm, hz => exact h3 m z (by omega) (by simpa using hz)
theorem eqV_nat {a b : Nat} : eqV (natV a) (natV b) = decide (a = b) := by
  show ((a : Int) == (b : Int)) = _
  by_cases h : a = b
  · subst h
    simp
  · rw [decide_eq_false h]
    simp
    omega
theorem flat_nats (l : List Nat) : (l.map natV).all flatV = true := by
  rw [List.all_eq_true]
  intro v hv
  obtain ⟨x, _, rfl⟩ := List.mem_map.mp hv
  rfl
section
variable {K : PySem.W.Frag} {σ : L2.St} {H : Hp} {to te ti : TE}
theorem ev_index {ka : Addr} {knots : List Nat} {x : Nat} (hk : KL H ka knots) (hx : x ∈ knots) (ho : Ev to σ H (.ref ka)) (he : Ev te σ H (natV x)) : Ev (tBM K "list" (rIndex K) to (tCons te tNil)) σ H (natV (knots.idxOf x)) := fun H1 e Q q =>
  ho H1 e _ fun H2 e2 => ⟨Or.inl ⟨rfl, _, SqL.of ((e.trans e2) _ _ hk)⟩, he H2 (e.trans e2) _ fun H3 e3 => by
    obtain ⟨h1, h2, h3⟩ := idx_at hx
    refine ⟨ka, knots.map natV, natV x, knots.idxOf x, natV x, rfl, rfl, SqL.of (((e.trans e2).trans e3) _ _ hk), rfl, flat_nats _, by rw [List.getElem?_map, h1]; rfl, by rw [eqV_nat]; simp, fun m z hm hz => ?_, q H3 (e2.trans e3)⟩
    rw [List.getElem?_map] at hz
    cases hq : knots[m]? with
    | none => rw [hq] at hz; cases hz
    | some y =>
      rw [hq] at hz
      cases hz
      rw [eqV_nat]
      exact decide_eq_false (h3 m y hm hq)⟩
/-- x in knots -/
theorem ev_inK {ka : Addr} {knots : List Nat} {x : Nat} (hk : KL H ka knots) (he : Ev te σ H (natV x)) (ho : Ev to σ H (.ref ka)) : Ev (tOp (rIn K false) te to) σ H (.bl (decide (x ∈ knots))) := by
  refine ev_is (ev_op he ho (rv_isL (SqL.of hk) rfl (flat_nats _))) ?_
  congr 1
  rw [Bool.eq_iff_iff]
  unfold inV
  rw [List.any_eq_true, decide_eq_true_eq]
  constructor
  · rintro ⟨v, hv, h⟩
    obtain ⟨y, hy, rfl⟩ := List.mem_map.mp hv
    rw [eqV_nat, decide_eq_true_eq] at h
    rw [← h]
    exact hy
  · intro h
    exact ⟨natV x, List.mem_map.mpr ⟨x, h, rfl⟩, by rw [eqV_nat]; simp⟩
/-- xs[i] op= e -/
theorem s_augL {l : Addr} {row : List Int} {j : Nat} {d : Int} {f : Int → Int → Int} {D : Ends} (hl : IL H l row) (ho : Ev to σ H (.ref l)) (hi : Ev ti σ H (natV j)) (hj : j < row.length) (he : Ev te σ H (.int d)) (k : ∀ H1, Ex H H1 → D.nx σ (upd H1 l (.lst ((row.set j (f (row.getD j 0) d)).map V.int)))) :
    tAugS to ti te (rIxL K) (ipI f) rSetL D σ H := ho H (Ex.refl H) _ fun H1 e1 => hi H1 e1 _ fun H2 e2 => by
  have hj' : row[j]? = some (row.getD j 0) := by simp [List.getD, List.getElem?_eq_getElem hj]
  refine ⟨l, row.map V.int, (j : Int), .int (row.getD j 0), rfl, rfl, SqL.of ((e1.trans e2) _ _ hl), atI_nat (il_at hj'), he H2 (e1.trans e2) _ fun H3 e3 => ⟨row.getD j 0, d, rfl, rfl, ?_⟩⟩
  refine ⟨l, row.map V.int, (j : Int), j, rfl, rfl, ((e1.trans e2).trans e3) _ _ hl, ixN_nat (by rw [List.length_map]; exact hj), ?_⟩
  have := k H3 ((e1.trans e2).trans e3)
  rw [List.map_set] at this
  exact this
theorem q_augL {l : Addr} {row : List Int} {j : Nat} {d : Int} {f : Int → Int → Int} {D : Ends} {tz : TS} (hl : IL H l row) (ho : Ev to σ H (.ref l)) (hi : Ev ti σ H (natV j)) (hj : j < row.length) (he : Ev te σ H (.int d)) (k : ∀ H1, Ex H H1 → tz D σ (upd H1 l (.lst ((row.set j (f (row.getD j 0) d)).map V.int)))) :
    tSeq (tAugS to ti te (rIxL K) (ipI f) rSetL) tz D σ H := s_augL (D := { D with nx := tz D }) hl ho hi hj he k
end
theorem addAt_len (row : List Int) (j : Nat) (d : Int) : (addAt row j d).length = row.length := by simp [addAt]
section
variable {P : Program} {w : World} {K : PySem.W.Frag} {mg : Str → Option Value} {base : Heap}
/-- to the row at r, which nothing else is told of -/
def spAddDraw (K : PySem.W.Frag) : Sp := fun vs H Q _ => ∃ (r an ka : Addr) (own other : Nat) (d : Int) (row : List Int) (nodes : List MNode) (knots : List Nat) (n : MNode), vs = [.ref r, .ref an, .ref ka, natV own, natV other, .int d] ∧ IL H r row ∧ ListOf (NodeR K) (hide r H) an nodes ∧ KL (hide r H) ka knots ∧ own ∈ knots ∧ nodes[other]? = some n ∧ V3 17 n.vec ∧ (n.fixed = false → other ∈ knots) ∧ row.length = knots.length + 3 ∧ knots.length ≤ 24 ∧ Bits 20 d ∧ ∀ H', Ex (hide r H) H' → IL H' r (addDrawM nodes knots own other d row) → Q .non H'
theorem ok_add_draw (T : Tx K mg) : OkD P w K mg base 1 "add_draw" ["row", "nodes", "knots", "own", "other", "density"] (spAddDraw K) := by
  refine T.ok 33 13 "add_draw" 16 sc_add_draw (fun vs H Q E h => ?_) (fun _ _ _ _ _ _ us hl => match us, hl with | [_, _, _, _, _, _], _ => rfl) (fun cdv A outer s H vs Q E hr h => ?_)
  · obtain ⟨_, _, _, _, _, _, _, _, _, _, rfl, _⟩ := h
    rfl
  · obtain ⟨r, an, ka, own, other, d, row, nodes, knots, n, rfl, hr0, hn, hk, ho, hi, hv, hc, hl, hz, hd, k⟩ := h
    refine ⟨_, (pss_cons (ps_augS (pv 0) (pe_lm K PySem.F.slot_list_index PySem.F.type_list_index (mt_indexK rfl) (pv 2) (pa_cons (pv 3) pa_nil)) (get_listK K) (pv 5) ip_add set_list)
        (pss_one (ps_if (pt_val (pe_fldK K (pe_ixL K (pv 1) (pv 4)))) (pss_one (ps_for PassesOwn.never rfl (pi_rangeK (T_range T) (pa_cons pe_int pa_nil)) (pg_name (i := 6) sc_add_draw.nd rfl (Or.inl rfl)) (pss_one (ps_augS (pv 0) (pe_op op_add (pe_len K (T_len T) (pa_cons (pv 2) pa_nil)) (pv 6)) (get_listK K) (pe_op op_mulW (pv 5) (pe_ixT K (pe_fldK K (pe_ixL K (pv 1) (pv 4))) (pv 6))) ip_add set_list)))) (pss_one (ps_augS (pv 0) (pe_lm K PySem.F.slot_list_index PySem.F.type_list_index (mt_indexK rfl) (pv 2) (pa_cons (pv 4) pa_nil)) (get_listK K) (pv 5) ip_sub set_list))))), ?_⟩
    obtain ⟨ns, hns, hpn⟩ := hn
    obtain ⟨u, hu, q, dx, t, rfl, hq, ht⟩ := Paired.at hpn hi
    have bh : (hide r H) r = none := if_pos rfl
    have e0 := hide_ex r H
    obtain ⟨_, i1, _⟩ := idx_at ho
    refine q_augL (row := row) (j := knots.idxOf own) hr0 (ev_var rfl) (ev_index (e0 _ _ hk) ho (ev_var rfl) (ev_var rfl)) (by omega) (ev_var rfl) fun H1 e1 => ?_
    have e01 : Ex (hide r H) (upd H1 r (.lst ((addAt row (knots.idxOf own) d).map V.int))) := Ex.mut (e0.trans e1) bh
    refine s_if (b := n.fixed) (et_B (ev_fld (ev_op (ev_var rfl) (ev_var rfl) (rv_ixL (SqL.of (e01 _ _ hns)) (atI_nat hu))) (e01 _ _ hq) (C_Node T) (F_Node_fixed T) (l_fixed _ _))) (fun hf H2 e2 => ?_) (fun hf H2 e2 => ?_)
    · -- the three axes
      have e02 := e01.trans e2
      have eN : nodes.getD other default = n := getD_at hi
      refine s_forR1 (n := (3 : Int)) (ea_cons ev_c ea_nil) (by decide) (fun i σ' H' => ∃ v : Option V, σ' = [some (.ref r), some (.ref an), some (.ref ka), some (natV own), some (natV other), some (.int d), v] ∧ Ex (hide r H) H' ∧ IL H' r (((List.range i).foldl (fun w a => addAt w (knots.length + a) (d * n.vec.getD a 0)) (addAt row (knots.idxOf own) d)))) (fun H3 e3 => ⟨none, rfl, e02.trans e3, (e2.trans e3) _ _ upd_same⟩) ?_ ?_
      · rintro i σ' H' hi3 ⟨v, rfl, e', hI⟩
        have hi3' : i < 3 := by omega
        have hg := hv.get i hi3'
        have lenR : ((List.range i).foldl (fun w a => addAt w (knots.length + a) (d * n.vec.getD a 0)) (addAt row (knots.idxOf own) d)).length = knots.length + 3 := by
          have : ∀ (l : List Nat) (w : List Int), (l.foldl (fun w a => addAt w (knots.length + a) (d * n.vec.getD a 0)) w).length = w.length := by
            intro l
            induction l with
            | nil => intro w; rfl
            | cons a l ih => intro w; rw [List.foldl_cons, ih, addAt_len]
          rw [this, addAt_len, hl]
        refine s_augL (j := knots.length + i) (d := d * n.vec.getD i 0) hI (ev_var rfl) (ev_is (ev_op (ev_len2 (ev_var rfl) (e' _ _ hk) rfl) (ev_var rfl) rv_I0) ?_) (by omega) (ev_op (ev_var rfl) (ev_op (ev_fld (ev_op (ev_var rfl) (ev_var rfl) (rv_ixL (SqL.of (e' _ _ hns)) (atI_nat hu))) (e' _ _ hq) (C_Node T) (F_Node_vector T) (l_vector _ _)) (ev_var rfl) (rv_ixT (SqT.of (e' _ _ ht)) (atI_nat (il_at hg.1)))) (rv_I (mulW hd hg.2 (by decide) (by decide) (by decide)))) fun H3 e3 => ⟨some (.int (i : Int)), rfl, Ex.mut (e'.trans e3) bh, ?_⟩
        · rw [List.length_map]
          rfl
        · show upd H3 r _ r = _
          rw [upd_same, List.range_succ, List.foldl_append]
          rfl
      · rintro σ' H' ⟨v, rfl, e', hI⟩
        refine k H' e' ?_
        have : addDrawM nodes knots own other d row = (List.range (3 : Int).toNat).foldl (fun w a => addAt w (knots.length + a) (d * n.vec.getD a 0)) (addAt row (knots.idxOf own) d) := by
          unfold addDrawM
          rw [eN, if_pos hf]
          rfl
        rw [this]
        exact hI
    · have eN : nodes.getD other default = n := getD_at hi
      obtain ⟨_, i2, _⟩ := idx_at (hc hf)
      refine s_augL (row := addAt row (knots.idxOf own) d) (j := knots.idxOf other) (e2 _ _ upd_same) (ev_var rfl) (ev_index ((e01.trans e2) _ _ hk) (hc hf) (ev_var rfl) (ev_var rfl)) (by rw [addAt_len]; omega) (ev_var rfl) fun H3 e3 => k _ (Ex.mut ((e01.trans e2).trans e3) bh) ?_
      have : addDrawM nodes knots own other d row = (addAt row (knots.idxOf own) d).set (knots.idxOf other) ((addAt row (knots.idxOf own) d).getD (knots.idxOf other) 0 - d) := by
        unfold addDrawM
        rw [eN, if_neg (by rw [hf]; decide)]
        show (addAt row (knots.idxOf own) d).set (knots.idxOf other) ((addAt row (knots.idxOf own) d).getD (knots.idxOf other) 0 + -d) = _
        rw [← Int.sub_eq_add_neg]
      rw [this]
      exact upd_same
end
end Wp


namespace Wp
open PySem PySem.Spec PyProof.Rows L2 Evl
open He (ga ma Fa DefD SaysD)
theorem rep_flat (n : Nat) (z : V) : (List.replicate n [z]).flatten = List.replicate n z := by
  induction n with
  | zero => rfl
  | succ n ih => rw [List.replicate_succ, List.flatten_cons, ih, List.replicate_succ]; rfl
/-- rows of ints: a list of lists that are known nowhere else -/
structure RowsAt (H0 H' : Hp) (rl : Addr) (as : List Addr) (rows : List (List Int)) : Prop where
  ex : Ex H0 H'
  lst : H' rl = some (.lst (as.map V.ref))
  nd : as.Nodup
  new : ∀ q ∈ as, H0 q = none ∧ q ≠ rl
  rl0 : H0 rl = none
  rows : Paired (fun r q => IL H' q r) rows as
theorem RowsAt.mono {H0 H1 H2 : Hp} {rl : Addr} {as : List Addr} {rows : List (List Int)} (h : RowsAt H0 H1 rl as rows) (e : Ex H1 H2) : RowsAt H0 H2 rl as rows :=
  ⟨h.ex.trans e, e _ _ h.lst, h.nd, h.new, h.rl0, Paired.imp (fun r q x => x.mono e) h.rows⟩
theorem RowsAt.put {H0 H1 H2 : Hp} {rl q : Addr} {as : List Addr} {rows : List (List Int)} {i : Nat} {r : List Int} (h : RowsAt H0 H1 rl as rows) (hq : as[i]? = some q) (e : Ex (hide q H1) H2) (hr : IL H2 q r) : RowsAt H0 H2 rl as (rows.set i r) := by
  have hm := List.mem_of_getElem? hq
  obtain ⟨n1, n2⟩ := h.new q hm
  refine ⟨(hide_base h.ex n1).trans e, e _ _ (by rw [hide_ne (fun z => n2 z.symm)]; exact h.lst), h.nd, h.new, h.rl0, ?_⟩
  refine paired_set h.rows hq hr fun j a b hj hb x => ?_
  have hbq : b ≠ q := fun z => by
    subst z
    exact hj (nd_ix h.nd hb hq)
  exact e _ _ (by rw [hide_ne hbq]; exact x)
section
variable {P : Program} {w : World} {K : PySem.W.Frag} {mg : Str → Option Value} {base : Heap}
/-- the knots of a net: each a node; what a span draws to from a knot is fixed or a knot -/
structure KnotsOk (nodes : List MNode) (l : List MSpan) (knots : List Nat) : Prop where
  lt : ∀ k ∈ knots, k < nodes.length
  len : knots.length ≤ 24
  toB : ∀ s ∈ l, drawsM s = true → s.a ∈ knots → (nodes.getD s.b default).fixed = false → s.b ∈ knots
  toA : ∀ s ∈ l, drawsM s = true → s.b ∈ knots → (nodes.getD s.a default).fixed = false → s.a ∈ knots
theorem rows_len {nodes : List MNode} {knots : List Nat} : ∀ r ∈ rows0M nodes knots, r.length = knots.length + 3 := fun r hr => by
  obtain ⟨k, _, rfl⟩ := List.mem_map.mp hr
  simp [MNode.vec]
theorem addDraw_len (nodes : List MNode) (knots : List Nat) (own other : Nat) (d : Int) (row : List Int) : (addDrawM nodes knots own other d row).length = row.length := by
  unfold addDrawM
  dsimp only
  split <;> simp [addAt_len]
/-- the rows keep their lengths -/
structure Len2 (rows : List (List Int)) (n m : Nat) : Prop where
  n : rows.length = n
  m : ∀ r ∈ rows, r.length = m
theorem Len2.rowAt {rows : List (List Int)} {n m i : Nat} {f : List Int → List Int} (h : Len2 rows n m) (hf : ∀ r, (f r).length = r.length) : Len2 (rowAt rows i f) n m := by
  unfold Wp.rowAt
  refine ⟨by rw [List.length_set]; exact h.n, fun r hr => ?_⟩
  by_cases hi : i < rows.length
  · rcases List.mem_or_eq_of_mem_set hr with q | q
    · exact h.m r q
    · subst q
      rw [hf, getD_at (List.getElem?_eq_getElem hi)]
      exact h.m _ (List.getElem_mem hi)
  · rw [List.set_eq_of_length_le (by omega)] at hr
    exact h.m r hr
theorem Len2.eqEnd {nodes : List MNode} {knots : List Nat} {own other : Nat} {d : Int} {rows : List (List Int)} {n m : Nat} (h : Len2 rows n m) : Len2 (eqEnd nodes knots own other d rows) n m := by
  unfold Wp.eqEnd
  split
  · exact h.rowAt fun r => addDraw_len _ _ _ _ _ _
  · exact h
theorem Len2.eqStep {nodes : List MNode} {knots : List Nat} {s : MSpan} {rows : List (List Int)} {n m : Nat} (h : Len2 rows n m) : Len2 (eqStep nodes knots rows s) n m := by
  unfold Wp.eqStep
  split
  · exact h.eqEnd.eqEnd
  · exact h
theorem Len2.fold {nodes : List MNode} {knots : List Nat} {n m : Nat} : ∀ (l : List MSpan) {rows : List (List Int)}, Len2 rows n m → Len2 (l.foldl (Wp.eqStep nodes knots) rows) n m
  | [], _, h => h
  | s :: l, _, h => Len2.fold l h.eqStep
theorem eqs_len (nodes : List MNode) (l : List MSpan) (knots : List Nat) : Len2 (eqsM nodes l knots) knots.length (knots.length + 3) :=
  Len2.fold l ⟨by simp [rows0M], rows_len⟩
theorem s_drop0 {σ : L2.St} {H : Hp} {ta : TA} {sp : Sp} {D : Ends} {vs : List V} (h : EvA ta σ H vs) (k : ∀ H1, Ex H H1 → sp vs H1 (fun _ H2 => D.nx σ H2) E0) : tDrop (tCall sp [] E0 ta) D σ H := h H (Ex.refl H) _ fun H1 e1 => by
  show sp (vs ++ []) H1 _ E0
  rw [List.append_nil]
  exact k H1 e1
def spEquations (K : PySem.W.Frag) : Sp := fun vs H Q _ => ∃ (an a ka : Addr) (nodes : List MNode) (l : List MSpan) (knots : List Nat), vs = [.ref an, .ref a, .ref ka] ∧ ListOf (NodeR K) H an nodes ∧ ListOf (SpanR K) H a l ∧ KL H ka knots ∧ NetOk nodes l ∧ KnotsOk nodes l knots ∧ ∀ p H', H p = none → Ex H H' → ListOf RowR H' p (eqsM nodes l knots) → Q (.ref p) H'
theorem ok_equations (T : Tx K mg) : OkD P w K mg base 2 "equations" ["nodes", "spans", "knots"] (spEquations K) := by
  refine T.ok 34 14 "equations" 17 sc_equations (fun vs H Q E h => ?_) (fun _ _ _ _ _ _ us hl => match us, hl with | [_, _, _], _ => rfl) (fun cdv A outer s H vs Q E hr h => ?_)
  · obtain ⟨_, _, _, _, _, _, rfl, _⟩ := h
    rfl
  · obtain ⟨an, a, ka, nodes, l, knots, rfl, hn, hL, hk, hN, hO, k⟩ := h
    refine ⟨_, (pss_cons (ps_setLc (i := 3) (own := [("knot", 5)]) (g := gName 5) (tt := tYes) rfl sc_equations.nd rfl rfl (sw_true rfl rfl rfl (by decide +kernel)) (pi_listK K (pv 2)) (blkOk_by (own := [("knot", 5)]) (N := N_equations) (sc := defScope (top 17)) (by decide +kernel)) (fun _ _ _ _ _ => (pg_name (i := 5) sc_equations.nd rfl (Or.inl rfl))) (fun _ _ _ _ _ => pts_nil) (fun _ _ _ _ _ => (pe_op op_cat (pe_op op_rep (pe_lst (pa_cons pe_int pa_nil)) (pe_len K (T_len T) (pa_cons (pv 2) pa_nil))) (pe_lc (own := [("part", 6)]) (g := gName 6) (tt := tYes) rfl sc_equations.nd (pi_tupK K (pe_fldK K (pe_ixL K (pv 0) (pv 5)))) (blkOk_by (own := [("part", 6)]) (N := N_equations) (sc := (relS (lcSc (top 17) 0) (defScope (top 17)))) (by decide +kernel)) (fun _ _ _ _ _ => (pg_name (i := 6) sc_equations.nd rfl (Or.inl rfl))) (fun _ _ _ _ _ => pts_nil) (fun _ _ _ _ _ => (pe_op op_mulW (pe_const (T_THOUSAND T)) (pv 6)))))))
        (pss_cons (ps_for PassesOwn.never rfl (pi_listK K (pv 1)) (pg_name (i := 4) sc_equations.nd rfl (Or.inl rfl)) (pss_one (ps_if (pt_val (pe_callD (ok_draws (K := K) T) (hr.mono (by decide)) (pa_cons (pv 4) pa_nil))) (pss_cons (ps_if (pt_cmpR (op_inK K) (pe_fldK K (pv 4)) (pv 2) (by rfl)) (pss_one (ps_expr (pe_callD (ok_add_draw (K := K) T) (hr.mono (by decide)) (pa_cons (pe_ixL K (pv 3) (pe_lm K PySem.F.slot_list_index PySem.F.type_list_index (mt_indexK rfl) (pv 2) (pa_cons (pe_fldK K (pv 4)) pa_nil))) (pa_cons (pv 0) (pa_cons (pv 2) (pa_cons (pe_fldK K (pv 4)) (pa_cons (pe_fldK K (pv 4)) (pa_cons (pe_fldK K (pv 4)) pa_nil))))))))) pss_nil)
        (pss_one (ps_if (pt_cmpR (op_inK K) (pe_fldK K (pv 4)) (pv 2) (by rfl)) (pss_one (ps_expr (pe_callD (ok_add_draw (K := K) T) (hr.mono (by decide)) (pa_cons (pe_ixL K (pv 3) (pe_lm K PySem.F.slot_list_index PySem.F.type_list_index (mt_indexK rfl) (pv 2) (pa_cons (pe_fldK K (pv 4)) pa_nil))) (pa_cons (pv 0) (pa_cons (pv 2) (pa_cons (pe_fldK K (pv 4)) (pa_cons (pe_fldK K (pv 4)) (pa_cons (pe_fldK K (pv 4)) pa_nil))))))))) pss_nil))) pss_nil)))
        (pss_one (ps_ret (pv 3))))), ?_⟩
    obtain ⟨ns, hns, hpn⟩ := hn
    obtain ⟨ys, hy, hp⟩ := hL
    have hkn := hO.len
    refine u_asg (elp_rows (src_list (xs := knots) (R := fun _ i v => v = natV i) (fun _ _ _ _ _ r => r) (ev_var rfl) (SqL.of hk) (Paired.of_map (R := fun i v => v = natV i) (f := natV) (fun _ => rfl) knots)) (fun i => List.replicate knots.length 0 ++ (nodes.getD i default).vec.map fun p => 1000 * p) (gName_mono 5) (by omega) ?_ H (Ex.refl _) _ fun rl as H1 hrl e1 h1 nd fr hrows => ?_)
    · rintro i x it H2 H3 H4 hx e2 e3 ⟨rfl, rfl⟩
      have hxn := hO.lt x (List.mem_of_getElem? hx)
      have hni : nodes[x]? = some nodes[x] := List.getElem?_eq_getElem hxn
      obtain ⟨u, hu, q, dx, t, rfl, hq, ht⟩ := Paired.at hpn hni
      have e := e2.trans e3
      obtain ⟨eN, nv, _⟩ := nodeOk hN hni
      rw [eN]
      refine ⟨Ex.refl _, rfl, el_is (el_cat (el_rep (n := knots.length) (el_lst (ea_cons ev_c ea_nil) (by show 1 ≤ 100000; decide)) (ev_len2 (ev_var rfl) (e _ _ hk) (by rw [List.length_map])) (by omega) (by show 1 * _ ≤ _; omega)) (el_lc (src_tup (xs := nodes[x].vec) (R := fun _ z v => v = V.int z) (fun _ _ _ _ _ r => r) (ev_fld (ev_op (ev_var rfl) (ev_var rfl) (rv_ixL (SqL.of (e _ _ hns)) (atI_nat hu))) (e _ _ hq) (C_Node T) (F_Node_vector T) (l_vector _ _)) (SqT.of (e _ _ ht)) (Paired.of_map (R := fun z v => v = V.int z) (f := V.int) (fun _ => rfl) _)) (fun _ => true) (fun z => V.int (1000 * z)) (gName_mono 6) (by rw [nv.len]; decide) ?_) ?_) ?_⟩
      · rintro j z it H5 H6 H7 hz e5 e6 ⟨rfl, rfl⟩
        obtain ⟨hj, hjz⟩ := List.getElem?_eq_some_iff.mp hz
        have hb := nv.get j (by rw [nv.len] at hj; exact hj)
        rw [hz] at hb
        have ez : z = nodes[x].vec.getD j 0 := Option.some.inj hb.1
        exact ⟨Ex.refl _, rfl, et_yes, fun _ => ev_op ev_c (ev_var rfl) (rv_I (mulW (k := 10) (l := 17) (by unfold Bits; decide) (by rw [ez]; exact hb.2) (by decide) (by decide) (by decide)))⟩
      · rw [rep_flat, filter_true, List.length_replicate, List.length_map, nv.len]
        omega
      · rw [rep_flat, filter_true, List.map_append, List.map_replicate, List.map_map]
        rfl
    have hR0 : RowsAt H H1 rl as (rows0M nodes knots) := ⟨e1, h1, nd, fr, hrl, hrows⟩
    refine q_forLn (xs := ys) (ev_var rfl) (SqL.of (e1 _ _ hy)) (fun i σ' H' => ∃ s : Option V, σ' = [some (.ref an), some (.ref a), some (.ref ka), some (.ref rl), s, none, none] ∧ RowsAt H H' rl as ((l.take i).foldl (eqStep nodes knots) (rows0M nodes knots))) (fun H2 e2 => ⟨none, rfl, hR0.mono e2⟩) (fun i σ' H' _ ⟨_, _, R⟩ => SqL.of (R.ex _ _ hy)) ?_ ?_
    · rintro i x σ' H' hi ⟨s0, rfl, R⟩
      obtain ⟨s, hs, q, dx, rfl, hq⟩ := Paired.back hp hi
      have hmem := List.mem_of_getElem? hs
      obtain ⟨n1, n2, n3, n4, n5⟩ := hN.span s hmem
      have lenR : Len2 ((l.take i).foldl (eqStep nodes knots) (rows0M nodes knots)) knots.length (knots.length + 3) := Len2.fold _ ⟨by simp [rows0M], rows_len⟩
      generalize hM : (l.take i).foldl (eqStep nodes knots) (rows0M nodes knots) = M at R lenR
      have goalM : (l.take (i + 1)).foldl (eqStep nodes knots) (rows0M nodes knots) = eqStep nodes knots M s := by
        rw [take_snoc hs, List.foldl_append, hM]
        rfl
      -- one end of the span
      have step : ∀ {H2 : Hp} {M : List (List Int)} {own other : Nat} {f g : Str} {D : Ends}, RowsAt H H2 rl as M → Len2 M knots.length (knots.length + 3) →
          (spanF s).lookup f = some (natV own) → (spanF s).lookup g = some (natV other) → NoAttr K (ga K "Span") f → NoAttr K (ga K "Span") g → other < nodes.length → (own ∈ knots → (nodes.getD other default).fixed = false → other ∈ knots) →
          (∀ H3, RowsAt H H3 rl as (eqEnd nodes knots own other s.d M) → D.nx [some (.ref an), some (.ref a), some (.ref ka), some (.ref rl), some (.ref q), none, none] H3) →
          tIfS (tTest (tOp (rIn K false) (tFld K (tVar 4) f) (tVar 2))) (tDrop (tCall (spAddDraw K) [] E0 (tCons (tOp (rIxL K) (tVar 3) (tBM K "list" (rIndex K) (tVar 2) (tCons (tFld K (tVar 4) f) tNil))) (tCons (tVar 0) (tCons (tVar 2) (tCons (tFld K (tVar 4) f) (tCons (tFld K (tVar 4) g) (tCons (tFld K (tVar 4) "density") tNil)))))))) tNext D [some (.ref an), some (.ref a), some (.ref ka), some (.ref rl), some (.ref q), none, none] H2 := by
        intro H2 M own other f g D R2 L2' lf lg nf ng ho hc kk
        have hq2 := R2.ex _ _ hq
        refine s_when (et_test (ev_inK (R2.ex _ _ hk) (ev_fld (ev_var rfl) hq2 (C_Span T) nf lf) (ev_var rfl))) (fun hb H3 e3 => ?_) (fun hb H3 e3 => ?_)
        · have hb' : own ∈ knots := of_decide_eq_true hb
          obtain ⟨j1, j2, _⟩ := idx_at hb'
          have R3 := R2.mono e3
          have hq3 := R3.ex _ _ hq
          have hrow : M[knots.idxOf own]? = some (M.getD (knots.idxOf own) []) := by
            have : knots.idxOf own < M.length := by rw [L2'.n]; exact j2
            simp [List.getD, List.getElem?_eq_getElem this]
          obtain ⟨pq, hpq, hIL⟩ := Paired.at R3.rows hrow
          have hno : nodes[other]? = some (nodes.getD other default) := by simp [List.getD, List.getElem?_eq_getElem ho]
          obtain ⟨_, nv, _⟩ := nodeOk hN hno
          obtain ⟨f1, f2⟩ := R3.new pq (List.mem_of_getElem? hpq)
          refine s_drop0 (ea_cons (ev_op (ev_var rfl) (ev_index (R3.ex _ _ hk) hb' (ev_var rfl) (ev_fld (ev_var rfl) hq3 (C_Span T) nf lf)) (rv_ixL (SqL.of R3.lst) (atI_nat (by rw [List.getElem?_map, hpq]; rfl)))) (ea_cons (ev_var rfl) (ea_cons (ev_var rfl) (ea_cons (ev_fld (ev_var rfl) hq3 (C_Span T) nf lf) (ea_cons (ev_fld (ev_var rfl) hq3 (C_Span T) ng lg) (ea_cons (ev_fld (ev_var rfl) hq3 (C_Span T) (F_Span_density T) (l_density _)) ea_nil)))))) fun H4 e4 => ?_
          have R4 := R3.mono e4
          have eh : Ex H (hide pq H4) := hide_base R4.ex f1
          refine ⟨pq, an, ka, own, other, s.d, _, nodes, knots, nodes.getD other default, rfl, hIL.mono e4, ⟨ns, eh _ _ hns, Paired.imp (fun a b r => NodeR.mon _ _ _ _ eh r) hpn⟩, eh _ _ hk, hb', hno, nv, hc hb', L2'.m _ (List.mem_of_getElem? hrow), hO.len, n5, fun H5 e5 h5 => kk H5 ?_⟩
          have e6 : eqEnd nodes knots own other s.d M = M.set (knots.idxOf own) (addDrawM nodes knots own other s.d (M.getD (knots.idxOf own) [])) := by
            unfold eqEnd
            rw [if_pos hb']
            rfl
          rw [e6]
          exact R4.put hpq e5 h5
        · have hb' : own ∉ knots := of_decide_eq_false hb
          refine kk H3 ?_
          unfold eqEnd
          rw [if_neg hb']
          exact R2.mono e3
      refine s_when (b := drawsM s) (et_B (ev_call (ea_cons (ev_var rfl) ea_nil) (v_draws ⟨q, dx, rfl, R.ex _ _ hq⟩))) (fun hb H2 e2 => ?_) (fun hb H2 e2 => ⟨some (.ref q), rfl, ?_⟩)
      · refine step (D := { nx := _, rt := _, bk := _, ct := _ }) (own := s.a) (other := s.b) (R.mono e2) lenR (l_first s) (l_second s) (F_Span_first T) (F_Span_second T) n2 (hO.toB s hmem hb) fun H3 R3 => ?_
        refine step (own := s.b) (other := s.a) R3 lenR.eqEnd (l_second s) (l_first s) (F_Span_second T) (F_Span_first T) n1 (hO.toA s hmem hb) fun H4 R4 => ⟨some (.ref q), rfl, ?_⟩
        rw [goalM]
        unfold eqStep
        rw [if_pos hb]
        exact R4
      · rw [goalM]
        unfold eqStep
        rw [if_neg (by rw [hb]; decide)]
        exact R.mono e2
    · rintro σ' H' ⟨s, rfl, R⟩
      rw [← Paired.len hp, List.take_length] at R
      exact s_ret (ev_var rfl) fun H2 e2 => k rl H2 hrl (R.ex.trans e2) ⟨as.map V.ref, e2 _ _ R.lst, paired_refs (Paired.imp (fun r q x => x.mono e2) R.rows)⟩
end
end Wp


namespace Wp
open PySem PySem.Spec PyProof.Rows L2 Evl
open He (ga ma Fa DefD SaysD)
/-! ### pairs as targets; slices -/
theorem gTup2_mono {K : PySem.W.Frag} (i j : Nat) : GMono (gTup K 2 (gCons (gName i) (gCons (gName j) gNil))) := fun v σ H Q Q' h k => by
  obtain ⟨a, xs, e1, h1, h2, v1, r1, e2, v2, r2, e3, e4, q⟩ := h
  exact ⟨a, xs, e1, h1, h2, v1, r1, e2, v2, r2, e3, e4, k _ _ q⟩
theorem gTup2_at {K : PySem.W.Frag} {i j : Nat} {T : Addr} {x y : V} {σ : L2.St} {H : Hp} {Q : L2.St → Hp → Prop} (q : Q ((σ.set i (some x)).set j (some y)) (upd H T (.tup [x, y]))) : gTup K 2 (gCons (gName i) (gCons (gName j) gNil)) (.ref T) σ (upd H T (.tup [x, y])) Q :=
  ⟨T, [x, y], rfl, SqT.of upd_same, rfl, x, [y], rfl, y, [], rfl, rfl, q⟩
theorem cut_from {l : List Int} {n : Nat} (h : n ≤ l.length) : cutV (l.map V.int) (some (n : Int)) none = (l.drop n).map V.int := by
  unfold cutV
  rw [HT.sIx_nat, HT.sIx_none, List.length_map, Nat.min_eq_left h, List.take_of_length_le (by rw [List.length_drop, List.length_map]; omega), List.map_drop]
theorem cut_to {l : List Int} {n : Nat} (h : n ≤ l.length) : cutV (l.map V.int) none (some (n : Int)) = (l.take n).map V.int := by
  unfold cutV
  rw [HT.sIx_nat, HT.sIx_none, List.length_map, Nat.min_eq_left h, List.drop_zero, Nat.sub_zero, List.map_take]
section
variable {K : PySem.W.Frag} {σ : L2.St} {H : Hp} {ta tb : TE} {t : TT} {D : Addr} {P : Hp → V → Prop} {tA : TA}
theorem evd_if {b : Bool} (h : EvT t σ H b) (h1 : b = true → EvD D ta σ H P) (h2 : b = false → EvD D tb σ H P) : EvD D (tIf t ta tb) σ H P := fun H1 e ⟨o, ho⟩ Q q => h H1 e _ fun H2 e2 => by
  cases b with
  | true => exact h1 rfl H2 (e.trans e2) ⟨o, e2 _ _ ho⟩ Q fun v H3 e3 p => q v H3 (e2.trans e3) p
  | false => exact h2 rfl H2 (e.trans e2) ⟨o, e2 _ _ ho⟩ Q fun v H3 e3 p => q v H3 (e2.trans e3) p
/-- for i, x in enumerate(xs) -/
theorem q_forEnum2 {a : Addr} {i j : Nat} {ys : List V} {tu tz : TS} {D : Ends} (h : EvA tA σ H [.ref a]) (hs : SqL K H a ys) (Pv : Nat → L2.St → Hp → Prop) (h0 : ∀ H1, Ex H H1 → Pv 0 σ H1) (hl : ∀ k σ' H', k ≤ ys.length → Pv k σ' H' → SqL K H' a ys)
    (turn : ∀ (k : Nat) v σ' H' T, ys[k]? = some v → Pv k σ' H' → H' T = none → tu { D with nx := Pv (k + 1), ct := Pv (k + 1), bk := tz D } ((σ'.set i (some (natV k))).set j (some v)) (upd H' T (.tup [natV k, v])))
    (hd : ∀ σ' H', Pv ys.length σ' H' → tz D σ' H') : tSeq (tFor (iEnum K tA) (gTup K 2 (gCons (gName i) (gCons (gName j) gNil))) tu) tz D σ H :=
  h H (Ex.refl H) _ fun H1 e1 => ⟨a, ys, rfl, ex_l e1 hs, for_it (D := { D with nx := tz D }) walk_enum Pv (h0 H1 e1) hl (fun k it σ' H' H'' hk p y => by
    obtain ⟨T, x1, x2, rfl, hT, rfl, h1, h2⟩ := y
    have e1 : x1 = natV k := (Option.some.inj h1).symm
    subst e1
    exact gTup2_at (turn k x2 σ' H' T h2 p hT)) hd⟩
/-- for x, y in zip(xs, ys) -/
theorem q_forZip2 {a b : Addr} {i j : Nat} {ys zs : List V} {tu tz : TS} {D : Ends} (h : EvA tA σ H [.ref a, .ref b]) (hs : SqL K H a ys) (hs2 : SqL K H b zs) (hz : zs.length = ys.length) (Pv : Nat → L2.St → Hp → Prop) (h0 : ∀ H1, Ex H H1 → Pv 0 σ H1) (hl : ∀ k σ' H', k ≤ ys.length → Pv k σ' H' → SqL K H' a ys ∧ SqL K H' b zs)
    (turn : ∀ (k : Nat) v u σ' H' T, ys[k]? = some v → zs[k]? = some u → Pv k σ' H' → H' T = none → tu { D with nx := Pv (k + 1), ct := Pv (k + 1), bk := tz D } ((σ'.set i (some v)).set j (some u)) (upd H' T (.tup [v, u])))
    (hd : ∀ σ' H', Pv ys.length σ' H' → tz D σ' H') : tSeq (tFor (iZip K tA) (gTup K 2 (gCons (gName i) (gCons (gName j) gNil))) tu) tz D σ H :=
  h H (Ex.refl H) _ fun H1 e1 => ⟨a, b, ys, zs, rfl, ex_l e1 hs, ex_l e1 hs2, for_it (D := { D with nx := tz D }) (walk_zip (n := ys.length) (by omega)) Pv (h0 H1 e1) hl (fun k it σ' H' H'' hk p y => by
    obtain ⟨T, x1, x2, rfl, hT, rfl, h1, h2⟩ := y
    exact gTup2_at (turn k x1 x2 σ' H' T h1 h2 p hT)) hd⟩
end
section
variable {P : Program} {w : World} {K : PySem.W.Frag} {mg : Str → Option Value} {base : Heap}
def spCleared (K : PySem.W.Frag) : Sp := fun vs H Q _ => ∃ (r l : Addr) (c : Nat) (d : Int) (row lead : List Int) (m : Nat), vs = [.ref r, .ref l, natV c, .int d] ∧ IL H r row ∧ IL H l lead ∧ c < m ∧ row.length = m ∧ lead.length = m ∧ m ≤ 100 ∧ 0 < d ∧ Bits 2000 d ∧ (∀ z ∈ row, Bits 2000 z) ∧ (∀ z ∈ lead, Bits 2000 z) ∧ RetL ((clearedM row lead c d).map V.int) H Q
theorem ok_cleared (T : Tx K mg) : OkD P w K mg base 1 "cleared" ["row", "lead_row", "at", "divisor"] (spCleared K) := by
  refine T.ok 36 16 "cleared" 19 sc_cleared (fun vs H Q E h => ?_) (fun _ _ _ _ _ _ us hl => match us, hl with | [_, _, _, _], _ => rfl) (fun cdv A outer s H vs Q E hr h => ?_)
  · obtain ⟨_, _, _, _, _, _, _, rfl, _⟩ := h
    rfl
  · obtain ⟨r, l, c, d, row, lead, m, rfl, h1, h2, hc, hm1, hm2, hm, hd, hdb, hb1, hb2, k⟩ := h
    refine ⟨_, (pss_cons (ps_set (i := 4) sc_cleared.nd rfl (Or.inr rfl) (pe_ixL K (pv 1) (pv 2)))
        (pss_cons (ps_set (i := 5) sc_cleared.nd rfl (Or.inr rfl) (pe_ixL K (pv 0) (pv 2)))
        (pss_one (ps_ret (pe_lc (own := [("here", 6), ("there", 7)]) (tt := tYes) rfl sc_cleared.nd (pi_zipK K (T_zip T) (pa_cons (pv 0) (pa_cons (pv 1) pa_nil))) (blkOk_by (own := [("here", 6), ("there", 7)]) (N := N_cleared) (sc := defScope (top 19)) (by decide +kernel)) (fun _ _ _ _ _ => (pg_tupK K (n := 2) (pgs_cons (pg_name (i := 6) sc_cleared.nd rfl (Or.inl rfl)) (pgs_cons (pg_name (i := 7) sc_cleared.nd rfl (Or.inl rfl)) pgs_nil)))) (fun _ _ _ _ _ => pts_nil) (fun _ _ _ _ _ => (pe_op op_fdivW (pe_op op_sub (pe_op op_mulW (pv 4) (pv 6)) (pe_op op_mulW (pv 5) (pv 7))) (pv 3)))))))), ?_⟩
    have a1 : row[c]? = some (row.getD c 0) := by simp [List.getD, List.getElem?_eq_getElem (show c < row.length by omega)]
    have a2 : lead[c]? = some (lead.getD c 0) := by simp [List.getD, List.getElem?_eq_getElem (show c < lead.length by omega)]
    refine q_asg (ev_op (ev_var rfl) (ev_var rfl) (rv_ixL (SqL.of h2) (atI_nat (il_at a2)))) fun H1 e1 => ?_
    refine q_asg (ev_op (ev_var rfl) (ev_var rfl) (rv_ixL (SqL.of (h1.mono e1)) (atI_nat (il_at a1)))) fun H2 e2 => ?_
    have e12 := e1.trans e2
    have c1 := hb1 _ (List.mem_of_getElem? a1)
    have c2 := hb2 _ (List.mem_of_getElem? a2)
    refine s_retL (el_is (el_lc (src_zip (xs := row) (us := lead) (R := fun _ z v => v = V.int z) (S := fun _ z v => v = V.int z) (fun _ _ _ _ _ h => h) (fun _ _ _ _ _ h => h) (ea_cons (ev_var rfl) (ea_cons (ev_var rfl) ea_nil)) (SqL.of (h1.mono e12)) (SqL.of (h2.mono e12)) (Paired.of_map (R := fun z v => v = V.int z) (f := V.int) (fun _ => rfl) _) (Paired.of_map (R := fun z v => v = V.int z) (f := V.int) (fun _ => rfl) _)) (fun _ => true) (fun x => V.int ((lead.getD c 0 * x.1 - row.getD c 0 * x.2) / d)) (gTup2_mono 6 7) (by rw [List.length_zip]; omega) ?_) ?_) fun p H3 hp e3 h3 => k p H3 (fresh_back e12 hp) (e12.trans e3) h3
    · rintro i x it H3 H4 H5 hx e3 e4 ⟨T', v1, v2, rfl, hT, rfl, rfl, rfl⟩
      have hm' := List.mem_of_getElem? hx
      obtain ⟨x1, x2⟩ := x
      have m1 := hb1 _ (List.of_mem_zip hm').1
      have m2 := hb2 _ (List.of_mem_zip hm').2
      refine gTup2_at ⟨Ex.new hT, rfl, et_yes, fun _ => ev_op (ev_op (ev_op (ev_var rfl) (ev_var rfl) (rv_I (mulW c2 m1 (by decide) (by decide) (by decide)))) (ev_op (ev_var rfl) (ev_var rfl) (rv_I (mulW c1 m2 (by decide) (by decide) (by decide)))) rv_I0) (ev_var rfl) (rv_I (wide_div (b := 2000) hd hdb (by decide) (by decide)))⟩
    · rw [filter_true]
      unfold clearedM
      rw [List.map_map]
      rfl
theorem l_cleared {H : Hp} {r l : Addr} {c : Nat} {d : Int} {row lead : List Int} {m : Nat} (h1 : IL H r row) (h2 : IL H l lead) (hc : c < m) (hm1 : row.length = m) (hm2 : lead.length = m) (hm : m ≤ 100) (hd : 0 < d) (hdb : Bits 2000 d) (b1 : ∀ z ∈ row, Bits 2000 z) (b2 : ∀ z ∈ lead, Bits 2000 z) : SpL (spCleared K) [.ref r, .ref l, natV c, .int d] H ((clearedM row lead c d).map V.int) :=
  fun H1 e Q q E => ⟨r, l, c, d, row, lead, m, rfl, h1.mono e, h2.mono e, hc, hm1, hm2, hm, hd, hdb, b1, b2, fun p H' a b c => q p H' a b c⟩
def spSolved (K : PySem.W.Frag) : Sp := fun vs H Q _ => ∃ (a : Addr) (rows : List (List Int)) (m : Nat), vs = [.ref a] ∧ ListOf RowR H a rows ∧ SolveOk rows m ∧ ∀ t p H', Ex H H' → H' t = some (.tup [.int (solvedM rows).1, .ref p]) → ListOf RowR H' p (solvedM rows).2 → Q (.ref t) H'
theorem ok_solved (T : Tx K mg) : OkD P w K mg base 2 "solved" ["rows"] (spSolved K) := by
  refine T.ok 35 15 "solved" 18 sc_solved (fun vs H Q E h => ?_) (fun _ _ _ _ _ _ us hl => match us, hl with | [_], _ => rfl) (fun cdv A outer s H vs Q E hr h => ?_)
  · obtain ⟨_, _, _, rfl, _⟩ := h
    rfl
  · obtain ⟨a, rows, m, rfl, hL, hO, k⟩ := h
    refine ⟨_, (pss_cons (ps_set (i := 1) sc_solved.nd rfl (Or.inr rfl) (pe_len K (T_len T) (pa_cons (pv 0) pa_nil)))
        (pss_cons (ps_setLc (i := 2) (own := [("row", 6)]) (g := gName 6) (tt := tYes) rfl sc_solved.nd rfl rfl (sw_true rfl rfl rfl (by decide +kernel)) (pi_listK K (pv 0)) (blkOk_by (own := [("row", 6)]) (N := N_solved) (sc := defScope (top 18)) (by decide +kernel)) (fun _ _ _ _ _ => (pg_name (i := 6) sc_solved.nd rfl (Or.inl rfl))) (fun _ _ _ _ _ => pts_nil) (fun _ _ _ _ _ => (pe_list K (T_list T) (pa_cons (pv 6) pa_nil))))
        (pss_cons (ps_set (i := 3) sc_solved.nd rfl (Or.inr rfl) pe_int)
        (pss_cons (ps_for PassesOwn.never rfl (pi_rangeK (T_range T) (pa_cons (pv 1) pa_nil)) (pg_name (i := 4) sc_solved.nd rfl (Or.inr rfl)) (pss_cons (ps_set (i := 5) sc_solved.nd rfl (Or.inr rfl) (pe_ixL K (pv 2) (pv 4)))
        (pss_cons (ps_setLc (i := 2) (own := [("other", 7), ("row", 6)]) (tt := tYes) rfl sc_solved.nd rfl rfl (sw_true rfl rfl rfl (by decide +kernel)) (pi_enumK K (T_enumerate T) (pa_cons (pv 2) pa_nil)) (blkOk_by (own := [("other", 7), ("row", 6)]) (N := N_solved) (sc := defScope (top 18)) (by decide +kernel)) (fun _ _ _ _ _ => (pg_tupK K (n := 2) (pgs_cons (pg_name (i := 7) sc_solved.nd rfl (Or.inl rfl)) (pgs_cons (pg_name (i := 6) sc_solved.nd rfl (Or.inl rfl)) pgs_nil)))) (fun _ _ _ _ _ => pts_nil) (fun _ _ _ _ _ => (pe_ifExp (pt_cmpR op_eq (pv 7) (pv 4) (nomark _)) (pv 6) (pe_callD (ok_cleared (K := K) T) (hr.mono (by decide)) (pa_cons (pv 6) (pa_cons (pv 5) (pa_cons (pv 4) (pa_cons (pv 3) pa_nil))))))))
        (pss_one (ps_set (i := 3) sc_solved.nd rfl (Or.inr rfl) (pe_ixL K (pv 5) (pv 4)))))))
        (pss_one (ps_ret (pe_tup (pa_cons (pv 3) (pa_cons (pe_lc (own := [("row", 6)]) (g := gName 6) (tt := tYes) rfl sc_solved.nd (pi_listK K (pv 2)) (blkOk_by (own := [("row", 6)]) (N := N_solved) (sc := defScope (top 18)) (by decide +kernel)) (fun _ _ _ _ _ => (pg_name (i := 6) sc_solved.nd rfl (Or.inl rfl))) (fun _ _ _ _ _ => pts_nil) (fun _ _ _ _ _ => (pe_sl K (pv 6) (po_some (pv 1)) po_none))) pa_nil))))))))), ?_⟩
    obtain ⟨ys, hy, hp⟩ := hL
    have hfew := hO.few
    refine q_asg (ev_len2 (ev_var rfl) hy (by rw [← Paired.len hp])) fun H1 e1 => ?_
    refine u_asg (elp_lc (src_list RowR.mon (ev_var rfl) (SqL.of (e1 _ _ hy)) (Paired.imp (fun _ _ r => RowR.mon _ _ _ _ e1 r) hp)) (fun _ => true) RowR RowR.mon (gName_mono 6) (by omega) ?_ H1 (Ex.refl _) _ fun n0 zs H2 hn0 e2 h2 hz => ?_)
    · rintro i r it H2 H3 H4 D hx e2 e3 hD ⟨rfl, p, rfl, hp⟩
      exact ⟨Ex.refl _, rfl, et_yes, fun _ => evd_l (el_list (ev_var rfl) (SqL.of (e3 _ _ hp))) fun q H' hq => ⟨q, rfl, hq⟩⟩
    rw [filter_true] at hz
    refine q_asg ev_c fun H3 e3 => ?_
    have e13 := (e1.trans e2).trans e3
    have hN0 : ListOf RowR H3 n0 (stateAt rows 0).1 := ⟨zs, e3 _ _ h2, Paired.imp (fun _ _ r => RowR.mon _ _ _ _ ((hide_ex n0 H2).trans e3) r) hz⟩
    refine q_forR1 (n := (rows.length : Int)) (ea_cons (ev_var rfl) ea_nil) (by omega) (fun i σ' H' => ∃ (nw : Addr) (x y : Option V), σ' = [some (.ref a), some (natV rows.length), some (.ref nw), some (.int (stateAt rows i).2), x, y, none, none] ∧ Ex H H' ∧ ListOf RowR H' nw (stateAt rows i).1) (fun H4 e4 => ⟨n0, none, none, rfl, e13.trans e4, hN0.mono RowR.mon e4⟩) ?_ ?_
    · rintro i σ' H' hi ⟨nw, x, y, rfl, eH, us, hu, hpu⟩
      have hi' : i < rows.length := by omega
      have hik : i < (stateAt rows i).1.length := by rw [stateAt_len]; exact hi'
      have hlead : (stateAt rows i).1[i]? = some ((stateAt rows i).1.getD i []) := by simp [List.getD, List.getElem?_eq_getElem hik]
      generalize hld : (stateAt rows i).1.getD i [] = lead at hlead
      obtain ⟨v, hv, q, rfl, hq⟩ := Paired.at hpu hlead
      have hwide := stateAt_wide hO.wide i (by omega)
      have hbits := hO.bits i (by omega)
      have lm := List.mem_of_getElem? hlead
      have hle := hO.le
      have lc : lead[i]? = some (lead.getD i 0) := by
        have : i < lead.length := by rw [hwide _ lm]; omega
        simp [List.getD, List.getElem?_eq_getElem this]
      refine q_asg (ev_op (ev_var rfl) (ev_var rfl) (rv_ixL (SqL.of hu) (atI_nat hv))) fun H4 e4 => ?_
      refine u_asg (elp_lc (src_enum RowR.mon (ea_cons (ev_var rfl) ea_nil) (SqL.of (e4 _ _ hu)) (Paired.imp (fun _ _ r => RowR.mon _ _ _ _ e4 r) hpu)) (fun _ => true) (fun H' x v => RowR H' (if x.2 = i then x.1 else clearedM x.1 lead i (stateAt rows i).2) v) (fun _ _ _ _ e r => RowR.mon _ _ _ _ e r) (gTup2_mono 7 6) (by rw [List.length_zipIdx, stateAt_len]; omega) ?_ H4 (Ex.refl _) _ fun n1 zs1 H5 hn1 e5 h5 hz1 => ?_)
      · rintro j x it H6 H7 H8 D hx e6 e7 hD ⟨T', v, rfl, hT, rfl, r, rfl, hr⟩
        have hx' := hx
        rw [List.getElem?_zipIdx] at hx'
        have hxm : x.1 ∈ (stateAt rows i).1 := by
          cases hq' : (stateAt rows i).1[j]? with
          | none => rw [hq'] at hx'; cases hx'
          | some z =>
            rw [hq'] at hx'
            obtain rfl := Option.some.inj hx'
            exact List.mem_of_getElem? hq'
        have e78 : Ex H6 (upd H7 T' (.tup [natV x.2, .ref r])) := e7.trans (Ex.new hT)
        refine gTup2_at ⟨Ex.new hT, rfl, et_yes, fun _ => evd_if (b := decide (x.2 = i)) (et_is (et_test (ev_op (ev_var rfl) (ev_var rfl) (rv_eq rfl))) natV_eq) (fun hb => ?_) (fun hb => ?_)⟩
        · rw [if_pos (of_decide_eq_true hb)]
          exact evd_v (ev_var rfl) e78 hD fun H' e => ⟨r, rfl, hr.mono e⟩
        · rw [if_neg (of_decide_eq_false hb)]
          exact evd_l (el_call (ea_cons (ev_var rfl) (ea_cons (ev_var rfl) (ea_cons (ev_var rfl) (ea_cons (ev_var rfl) ea_nil)))) (l_cleared (m := m) (hr.mono e78) (hq.mono ((e4.trans e6).trans e78)) (by omega) (hwide _ hxm) (hwide _ lm) hO.mle (hO.pos i (by omega)) (hO.bot i (by omega)) (hbits _ hxm) (hbits _ lm))) fun p H' hp => ⟨p, rfl, hp⟩
      · rw [filter_true] at hz1
        refine s_asg (ev_op (ev_var rfl) (ev_var rfl) (rv_ixL (SqL.of ((e4.trans e5) _ _ hq)) (atI_nat (il_at lc)))) fun H6 e6 => ⟨n1, some (natV i), some (.ref q), ?_, ((eH.trans e4).trans e5).trans e6, zs1, e6 _ _ h5, ?_⟩
        · rw [stateAt_succ]
          unfold solveStep
          rw [hld]
          rfl
        · rw [stateAt_succ]
          unfold solveStep
          rw [hld]
          exact paired_map (Paired.imp (fun _ _ r => RowR.mon _ _ _ _ ((hide_ex n1 H5).trans e6) r) hz1)
    · rintro σ' H' ⟨nw, x, y, rfl, eH, us, hu, hpu⟩
      rw [Int.toNat_natCast] at hpu ⊢
      have hwide := stateAt_wide hO.wide rows.length (Nat.le_refl _)
      refine u_ret ?_
      refine ⟨_, rfl, elp_lc (src_list RowR.mon (ev_var rfl) (SqL.of hu) hpu) (fun _ => true) (fun H' r v => RowR H' (r.drop rows.length) v) (fun _ _ _ _ e r => RowR.mon _ _ _ _ e r) (gName_mono 6) (by rw [stateAt_len]; omega) ?_ H' (Ex.refl _) _ fun p zs1 H5 hp5 e5 h5 hz1 => ⟨by show 2 ≤ sizeLine; decide, fun t ht => ?_⟩⟩
      · rintro j r it H6 H7 H8 D hx e6 e7 hD ⟨rfl, q, rfl, hq⟩
        have hlen := hwide r (List.mem_of_getElem? hx)
        have hle := hO.le
        exact ⟨Ex.refl _, rfl, et_yes, fun _ => evd_l (el_is (el_sl (ev_var rfl) (eo_some (ev_var rfl)) eo_none (SqL.of (e7 _ _ hq))) (cut_from (by omega))) fun p H' hp => ⟨p, rfl, hp⟩⟩
      · rw [filter_true] at hz1
        have et : Ex H5 (upd H5 t (.tup [.int (stateAt rows rows.length).2, .ref p])) := Ex.new ht
        refine k t p _ ((eH.trans e5).trans et) ?_ ⟨zs1, et _ _ h5, ?_⟩
        · exact upd_same
        · exact paired_map (f := fun (row : List Int) => row.drop rows.length) (Paired.imp (fun _ _ r => RowR.mon _ _ _ _ ((hide_ex p H5).trans et) r) hz1)
end
end Wp


namespace Wp
open PySem PySem.Spec PyProof.Rows L2 Evl
open He (ga ma Fa DefD SaysD)
def swayRows (nodes : List MNode) (l : List MSpan) (knots : List Nat) (p : MSpan) : List (List Int) :=
  ((eqsM nodes l knots).zip (knots.map fun k => (if k = p.a then (1 : Int) else 0) - (if k = p.b then 1 else 0))).map fun x => x.1.take knots.length ++ [x.2]
/-- all that the walk leans on, by the mathematics so of every net that is ok -/
structure Ready (nodes : List MNode) (l : List MSpan) : Prop where
  net : NetOk nodes l
  knots : KnotsOk nodes l (knotsM nodes (hangM nodes l))
  solve : SolveOk (eqsM nodes l (knotsM nodes (hangM nodes l))) ((knotsM nodes (hangM nodes l)).length + 3)
  bal : BalOk (balancedM nodes l) nodes l
  sway : ∀ p : MSpan, SolveOk (swayRows nodes l (knotsM nodes (hangM nodes l)) p) ((knotsM nodes (hangM nodes l)).length + 1)
theorem solved_len (rows : List (List Int)) : (solvedM rows).2.length = rows.length := by
  show ((stateAt rows rows.length).1.map _).length = _
  rw [List.length_map, stateAt_len]
theorem hangM_len (nodes : List MNode) (l : List MSpan) : (hangM nodes l).length = nodes.length := by
  unfold hangM
  rw [hangTurns_len, List.length_map]
section
variable {P : Program} {w : World} {K : PySem.W.Frag} {mg : Str → Option Value} {base : Heap} {σ : L2.St} {H : Hp} {ta : TA} {te : TE}
theorem r_equations {an a ka : Addr} {nodes : List MNode} {l : List MSpan} {knots : List Nat} (h : EvA ta σ H [.ref an, .ref a, .ref ka]) (h1 : ListOf (NodeR K) H an nodes) (h2 : ListOf (SpanR K) H a l) (h3 : KL H ka knots) (hN : NetOk nodes l) (hO : KnotsOk nodes l knots) :
    ∀ H1, Ex H H1 → ∀ Q : VK, (∀ p H2, H1 p = none → Ex H1 H2 → ListOf RowR H2 p (eqsM nodes l knots) → Q (.ref p) H2) → tCall (spEquations K) [] E0 ta σ H1 Q := fun H1 e Q q => h H1 e _ fun H2 e2 =>
  ⟨an, a, ka, nodes, l, knots, rfl, h1.mono NodeR.mon (e.trans e2), h2.mono SpanR.mon (e.trans e2), h3.mono (e.trans e2), hN, hO, fun p H3 hp e3 h => q p H3 (fresh_back e2 hp) (e2.trans e3) h⟩
theorem r_solved {rows : List (List Int)} {m : Nat} (he : ∀ H1, Ex H H1 → ∀ Q : VK, (∀ p H2, Ex H1 H2 → ListOf RowR H2 p rows → Q (.ref p) H2) → te σ H1 Q) (hO : SolveOk rows m) :
    ∀ H1, Ex H H1 → ∀ Q : VK, (∀ t p H2, Ex H1 H2 → H2 t = some (.tup [.int (solvedM rows).1, .ref p]) → ListOf RowR H2 p (solvedM rows).2 → Q (.ref t) H2) → tCall (spSolved K) [] E0 (tCons te tNil) σ H1 Q := fun H1 e Q q => he H1 e _ fun p H2 e2 h2 =>
  ⟨p, rows, m, rfl, h2, hO, fun t p2 H3 e3 ht hl => q t p2 H3 (e2.trans e3) ht hl⟩
/-- the balance of the nodes and spans at hand -/
def spBalanced (K : PySem.W.Frag) : Sp := fun vs H Q _ => ∃ (an a : Addr) (nodes : List MNode) (l : List MSpan), vs = [.ref an, .ref a] ∧ ListOf (NodeR K) H an nodes ∧ ListOf (SpanR K) H a l ∧ Ready nodes l ∧ ∀ v H', Ex H H' → BalR K H' (balancedM nodes l) v → Q v H'
theorem ok_balanced (T : Tx K mg) : OkD P w K mg base 3 "balanced" ["nodes", "spans"] (spBalanced K) := by
  refine T.ok 37 17 "balanced" 20 sc_balanced (fun vs H Q E h => ?_) (fun _ _ _ _ _ _ us hl => match us, hl with | [_, _], _ => rfl) (fun cdv A outer s H vs Q E hr h => ?_)
  · obtain ⟨_, _, _, _, rfl, _⟩ := h
    rfl
  · obtain ⟨an, a, nodes, l, rfl, hn, hL, hR, k⟩ := h
    refine ⟨_, (pss_cons (ps_set (i := 2) sc_balanced.nd rfl (Or.inl rfl) (pe_callD (ok_hanging (K := K) T) (hr.mono (by decide)) (pa_cons (pv 0) (pa_cons (pv 1) pa_nil))))
        (pss_cons (ps_set (i := 3) sc_balanced.nd rfl (Or.inl rfl) (pe_callD (ok_hanging_knots (K := K) T) (hr.mono (by decide)) (pa_cons (pv 0) (pa_cons (pv 2) pa_nil))))
        (pss_cons (ps_asg (pe_callD (ok_solved (K := K) T) (hr.mono (by decide)) (pa_cons (pe_callD (ok_equations (K := K) T) (hr.mono (by decide)) (pa_cons (pv 0) (pa_cons (pv 1) (pa_cons (pv 3) pa_nil)))) pa_nil)) (pg_tupK K (n := 2) (pgs_cons (pg_name (i := 4) sc_balanced.nd rfl (Or.inr rfl)) (pgs_cons (pg_name (i := 5) sc_balanced.nd rfl (Or.inl rfl)) pgs_nil))))
        (pss_cons (ps_set (i := 6) sc_balanced.nd rfl (Or.inl rfl) (pe_op op_rep (pe_lst (pa_cons pe_non pa_nil)) (pe_len K (T_len T) (pa_cons (pv 0) pa_nil))))
        (pss_cons (ps_for PassesOwn.never rfl (pi_enumK K (T_enumerate T) (pa_cons (pv 0) pa_nil)) (pg_tupK K (n := 2) (pgs_cons (pg_name (i := 7) sc_balanced.nd rfl (Or.inl rfl)) (pgs_cons (pg_name (i := 8) sc_balanced.nd rfl (Or.inl rfl)) pgs_nil))) (pss_one (ps_if (pt_val (pe_fldK K (pv 8))) (pss_one (ps_asg (pe_lc (own := [("part", 11)]) (g := gName 11) (tt := tYes) rfl sc_balanced.nd (pi_tupK K (pe_fldK K (pv 8))) (blkOk_by (own := [("part", 11)]) (N := N_balanced) (sc := defScope (top 20)) (by decide +kernel)) (fun _ _ _ _ _ => (pg_name (i := 11) sc_balanced.nd rfl (Or.inl rfl))) (fun _ _ _ _ _ => pts_nil) (fun _ _ _ _ _ => (pe_op op_mulW (pv 11) (pv 4)))) (pg_sub (pv 6) (pv 7) set_list))) pss_nil)))
        (pss_cons (ps_for PassesOwn.never rfl (pi_zipK K (T_zip T) (pa_cons (pv 3) (pa_cons (pv 5) pa_nil))) (pg_tupK K (n := 2) (pgs_cons (pg_name (i := 9) sc_balanced.nd rfl (Or.inl rfl)) (pgs_cons (pg_name (i := 10) sc_balanced.nd rfl (Or.inl rfl)) pgs_nil))) (pss_one (ps_asg (pv 10) (pg_sub (pv 6) (pv 9) set_list))))
        (pss_one (ps_ret (pe_makeK K (okM_Balance (K := K) T) (hr.mono (by decide)) (pa_cons (pv 2) (pa_cons (pv 4) (pa_cons (pv 6) pa_nil)))))))))))), ?_⟩
    obtain ⟨ns, hns, hpn⟩ := id hn
    have hN := hR.net
    have hnl := hN.nl
    have hkl := hR.knots.len
    refine q_asgL (el_call (ea_cons (ev_var rfl) (ea_cons (ev_var rfl) ea_nil)) (l_hanging hn hL hN)) fun h H1 hh e1 h1 => ?_
    refine q_asgL (el_call (ea_cons (ev_var rfl) (ea_cons (ev_var rfl) ea_nil)) (l_knots (hn.mono NodeR.mon e1) h1 (hangM_len nodes l) hnl)) fun ka H2 hka e2 h2 => ?_
    have e12 := e1.trans e2
    generalize hkn : knotsM nodes (hangM nodes l) = knots at h2
    have hKO : KnotsOk nodes l knots := by rw [← hkn]; exact hR.knots
    have hSO : SolveOk (eqsM nodes l knots) (knots.length + 3) := by rw [← hkn]; exact hR.solve
    rw [hkn] at hkl
    refine u_asg (r_solved (fun H3 e3 Q' q' => r_equations (ea_cons (ev_var rfl) (ea_cons (ev_var rfl) (ea_cons (ev_var rfl) ea_nil))) (hn.mono NodeR.mon e12) (hL.mono SpanR.mon e12) h2 hN hKO H3 e3 Q' fun p H4 _ e4 h4 => q' p H4 e4 h4) hSO H2 (Ex.refl _) _ fun t ans H3 e3 ht hans => ?_)
    refine ⟨t, _, rfl, SqT.of ht, rfl, _, _, rfl, _, _, rfl, rfl, ?_⟩
    have hbot : 0 < (solvedM (eqsM nodes l knots)).1 ∧ Bits 2000 (solvedM (eqsM nodes l knots)).1 := ⟨hSO.pos _ (Nat.le_refl _), hSO.bot _ (Nat.le_refl _)⟩
    have hbal : balancedM nodes l = ⟨hangM nodes l, (solvedM (eqsM nodes l knots)).1, placesM nodes knots (solvedM (eqsM nodes l knots)).1 (solvedM (eqsM nodes l knots)).2⟩ := by
      rw [← hkn]
      rfl
    have hlen : (solvedM (eqsM nodes l knots)).2.length = knots.length := by rw [solved_len]; exact (eqs_len nodes l knots).n
    generalize hS : solvedM (eqsM nodes l knots) = S at ht hans hbot hbal hlen
    obtain ⟨bot, answers⟩ := S
    have e13 := e12.trans e3
    refine q_asgL (el_is (el_rep (n := nodes.length) (el_lst (ea_cons ev_c ea_nil) (by show 1 ≤ 100000; decide)) (ev_len2 (ev_var rfl) (e13 _ _ hns) (by rw [Paired.len hpn])) (by omega) (by show 1 * _ ≤ _; omega)) (rep_flat _ _)) fun pl H4 hpl e4 h4 => ?_
    have e14 := e13.trans e4
    have bh : (hide pl H4) pl = none := if_pos rfl
    have eb : Ex H3 (hide pl H4) := hide_base e4 hpl
    have eb0 : Ex H (hide pl H4) := e13.trans eb
    obtain ⟨us, hus, hpu⟩ := hans
    refine q_forEnum2 (ys := ns) (ea_cons (ev_var rfl) ea_nil) (SqL.of (e14 _ _ hns)) (fun i σ' H' => ∃ (x y : Option V) (zs : List V), σ' = [some (.ref an), some (.ref a), some (.ref h), some (.ref ka), some (.int bot), some (.ref ans), some (.ref pl), x, y, none, none, none] ∧ Ex (hide pl H4) H' ∧ H' pl = some (.lst zs) ∧ Paired (PlaceR (hide pl H')) ((List.range i).foldl (fun p i => if (nodes.getD i default).fixed = true then p.set i (some ((nodes.getD i default).vec.map fun q => q * bot)) else p) (List.replicate nodes.length none)) zs)
      (fun H5 e5 => ⟨none, none, _, rfl, (hide_ex pl H4).trans e5, e5 _ _ h4, paired_rep nodes.length rfl⟩) (fun i σ' H' _ ⟨_, _, _, _, e, _⟩ => SqL.of (e _ _ (eb0 _ _ hns))) ?_ ?_
    · rintro i v σ' H' T' hv ⟨x, y, zs, rfl, e5, h5, hp5⟩ hT
      obtain ⟨n, hni, q, dx, tv, rfl, hq, htv⟩ := Paired.back hpn hv
      obtain ⟨eN, nv, _⟩ := nodeOk hN hni
      have hin : i < nodes.length := (List.getElem?_eq_some_iff.mp hni).1
      have e6 : Ex (hide pl H4) (upd H' T' (.tup [natV i, .ref q])) := e5.trans (Ex.new hT)
      have hTp : pl ≠ T' := fun z => by
        rw [← z, h5] at hT
        cases hT
      have hpl6 : (upd H' T' (.tup [natV i, .ref q])) pl = some (.lst zs) := by rw [upd_ne hTp]; exact h5
      have zl : zs.length = nodes.length := by
        rw [← Paired.len hp5]
        exact fold_set_len _ _ _
      refine s_when (b := n.fixed) (et_B (ev_fld (ev_var rfl) (e6 _ _ (eb0 _ _ hq)) (C_Node T) (F_Node_fixed T) (l_fixed _ _))) (fun hf H6 e7 => ?_) (fun hf H6 e7 => ⟨some (natV i), some (.ref q), zs, rfl, e6.trans e7, e7 _ _ hpl6, ?_⟩)
      · have e8 := e6.trans e7
        refine u_asg1 (el_lc (src_tup (xs := n.vec) (R := fun _ z v => v = V.int z) (fun _ _ _ _ _ r => r) (ev_fld (ev_var rfl) (e8 _ _ (eb0 _ _ hq)) (C_Node T) (F_Node_vector T) (l_vector _ _)) (SqT.of (e8 _ _ (eb0 _ _ htv))) (Paired.of_map (R := fun z v => v = V.int z) (f := V.int) (fun _ => rfl) _)) (fun _ => true) (fun z => V.int (z * bot)) (gName_mono 11) (by rw [nv.len]; decide) ?_ H6 (Ex.refl _) _ fun p H7 hp7 e9 h7 => ?_)
        · rintro j z it H7 H8 H9 hz e10 e11 ⟨rfl, rfl⟩
          obtain ⟨hj, _⟩ := List.getElem?_eq_some_iff.mp hz
          have hb := nv.get j (by rw [nv.len] at hj; exact hj)
          rw [hz] at hb
          have ez : z = n.vec.getD j 0 := Option.some.inj hb.1
          exact ⟨Ex.refl _, rfl, et_yes, fun _ => ev_op (ev_var rfl) (ev_var rfl) (rv_I (mulW (k := 17) (by rw [ez]; exact hb.2) hbot.2 (by decide) (by decide) (by decide)))⟩
        · have hpl7 := e9 _ _ (e7 _ _ hpl6)
          have hppl : p ≠ pl := fun z => by
            rw [z, e7 _ _ hpl6] at hp7
            cases hp7
          refine ⟨_, rfl, _, rfl, pl, zs, (i : Int), i, rfl, rfl, hpl7, ixN_nat (by omega), some (natV i), some (.ref q), zs.set i (.ref p), rfl, Ex.mut (e8.trans e9) bh, upd_same, ?_⟩
          rw [List.range_succ, List.foldl_append]
          show Paired _ (if (nodes.getD i default).fixed = true then _ else _) _
          rw [eN, if_pos hf, hide_upd]
          refine Paired.setAt ⟨p, rfl, ?_⟩ i (Paired.imp (fun _ _ r => PlaceR.mon _ _ _ _ (hide_mono (((Ex.new hT).trans e7).trans e9)) r) hp5)
          show hide pl H7 p = _
          rw [hide_ne hppl, h7, filter_true, List.map_map]
          rfl
      · rw [List.range_succ, List.foldl_append]
        show Paired _ (if (nodes.getD i default).fixed = true then _ else _) _
        rw [eN, if_neg (by rw [hf]; decide)]
        exact Paired.imp (fun _ _ r => PlaceR.mon _ _ _ _ (hide_mono ((Ex.new hT).trans e7)) r) hp5
    · rintro σ' H' ⟨x, y, zs, rfl, e5, h5, hp5⟩
      rw [← Paired.len hpn] at hp5
      generalize hP0 : (List.range nodes.length).foldl (fun p i => if (nodes.getD i default).fixed = true then p.set i (some ((nodes.getD i default).vec.map fun q => q * bot)) else p) (List.replicate nodes.length none) = P0 at hp5
      have lP0 : P0.length = nodes.length := by rw [← hP0]; exact fold_set_len _ _ _
      refine q_forZip2 (ys := knots.map natV) (zs := us) (ea_cons (ev_var rfl) (ea_cons (ev_var rfl) ea_nil)) (SqL.of (e5 _ _ (eb _ _ (e3 _ _ h2)))) (SqL.of (e5 _ _ (eb _ _ hus))) (by rw [List.length_map, ← Paired.len hpu]; exact hlen)
        (fun i σ' H' => ∃ (x y u v : Option V) (zs : List V), σ' = [some (.ref an), some (.ref a), some (.ref h), some (.ref ka), some (.int bot), some (.ref ans), some (.ref pl), x, y, u, v, none] ∧ Ex (hide pl H4) H' ∧ H' pl = some (.lst zs) ∧ Paired (PlaceR (hide pl H')) (((knots.zip answers).take i).foldl (fun p x => p.set x.1 (some x.2)) P0) zs)
        (fun H6 e6 => ⟨x, y, none, none, zs, rfl, e5.trans e6, e6 _ _ h5, Paired.imp (fun _ _ r => PlaceR.mon _ _ _ _ (hide_mono e6) r) hp5⟩) (fun i σ' H' _ ⟨_, _, _, _, _, _, e, _⟩ => ⟨SqL.of (e _ _ (eb _ _ (e3 _ _ h2))), SqL.of (e _ _ (eb _ _ hus))⟩) ?_ ?_
      · rintro i v u σ' H' T' hv hu ⟨x, y, u0, v0, zs, rfl, e6, h6, hp6⟩ hT
        obtain ⟨r, hr, q, rfl, hq⟩ := Paired.back hpu hu
        rw [List.getElem?_map] at hv
        cases hkk : knots[i]? with
        | none => rw [hkk] at hv; cases hv
        | some kn =>
          rw [hkk] at hv
          cases hv
          have hlt := hKO.lt kn (List.mem_of_getElem? hkk)
          have hzip : (knots.zip answers)[i]? = some (kn, r) := List.getElem?_zip_eq_some.mpr ⟨hkk, hr⟩
          have hTp : pl ≠ T' := fun z => by
            rw [← z, h6] at hT
            cases hT
          have zl : zs.length = nodes.length := by
            rw [← Paired.len hp6, foldSet_len, lP0]
          refine u_asg1 ?_
          refine ⟨_, rfl, _, rfl, _, rfl, pl, zs, (kn : Int), kn, rfl, rfl, by rw [upd_ne hTp]; exact h6, ixN_nat (by omega), x, y, some (natV kn), some (.ref q), zs.set kn (.ref q), rfl, Ex.mut (e6.trans (Ex.new hT)) bh, upd_same, ?_⟩
          rw [take_snoc hzip, List.foldl_append, hide_upd]
          refine Paired.setAt ⟨q, rfl, ?_⟩ kn (Paired.imp (fun _ _ r => PlaceR.mon _ _ _ _ (hide_mono (Ex.new hT)) r) hp6)
          exact (hide_base (e6.trans (Ex.new hT)) bh) _ _ (eb _ _ hq)
      · rintro σ' H' ⟨x, y, u0, v0, zs, rfl, e6, h6, hp6⟩
        rw [List.take_of_length_le (by rw [List.length_zip, List.length_map]; omega)] at hp6
        refine u_ret (evm_bal (ea_cons (ev_var rfl) (ea_cons (ev_var rfl) (ea_cons (ev_var rfl) ea_nil))) H' (Ex.refl _) _ fun p dx H7 hp7 e7 h7 => k _ H7 ((eb0.trans e6).trans e7) ?_)
        rw [hbal]
        refine ⟨p, dx, h, pl, rfl, h7, e7 _ _ (e6 _ _ (eb _ _ (e3 _ _ (e2 _ _ h1)))), zs, e7 _ _ h6, ?_⟩
        have e8 : placesM nodes knots bot answers = (knots.zip answers).foldl (fun p x => p.set x.1 (some x.2)) P0 := by rw [← hP0]; rfl
        rw [e8]
        exact Paired.imp (fun _ _ r => PlaceR.mon _ _ _ _ ((hide_ex pl H').trans e7) r) hp6
theorem r_balanced {an a : Addr} {nodes : List MNode} {l : List MSpan} (h : EvA ta σ H [.ref an, .ref a]) (h1 : ListOf (NodeR K) H an nodes) (h2 : ListOf (SpanR K) H a l) (hR : Ready nodes l) :
    ∀ H1, Ex H H1 → ∀ Q : VK, (∀ v H2, Ex H1 H2 → BalR K H2 (balancedM nodes l) v → Q v H2) → tCall (spBalanced K) [] E0 ta σ H1 Q := fun H1 e Q q => h H1 e _ fun H2 e2 =>
  ⟨an, a, nodes, l, rfl, h1.mono NodeR.mon (e.trans e2), h2.mono SpanR.mon (e.trans e2), hR, fun v H3 e3 h => q v H3 (e2.trans e3) h⟩
/-- how far each node gives way -/
def spSways (K : PySem.W.Frag) : Sp := fun vs H Q _ => ∃ (an a h : Addr) (v : V) (nodes : List MNode) (l : List MSpan) (p : MSpan), vs = [.ref an, .ref a, .ref h, v] ∧ ListOf (NodeR K) H an nodes ∧ ListOf (SpanR K) H a l ∧ BL H h (hangM nodes l) ∧ SpanR K H p v ∧ Ready nodes l ∧ RetL ((swaysM nodes l (hangM nodes l) p).map V.int) H Q
theorem push_eq {k a : Nat} : (if decide (k = a) = true then V.int 1 else V.int 0) = V.int (if k = a then 1 else 0) := by
  by_cases h : k = a
  · rw [if_pos (decide_eq_true h), if_pos h]
  · rw [if_neg (by simpa using h), if_neg h]
theorem ok_sways (T : Tx K mg) : OkD P w K mg base 3 "sways" ["nodes", "spans", "hangs", "pushed"] (spSways K) := by
  refine T.ok 38 18 "sways" 21 sc_sways (fun vs H Q E h => ?_) (fun _ _ _ _ _ _ us hl => match us, hl with | [_, _, _, _], _ => rfl) (fun cdv A outer s H vs Q E hr h => ?_)
  · obtain ⟨_, _, _, _, _, _, _, rfl, _⟩ := h
    rfl
  · obtain ⟨an, a, h, v, nodes, l, p, rfl, hn, hL, hh, hv, hR, k⟩ := h
    refine ⟨_, (pss_cons (ps_set (i := 4) sc_sways.nd rfl (Or.inr rfl) (pe_callD (ok_hanging_knots (K := K) T) (hr.mono (by decide)) (pa_cons (pv 0) (pa_cons (pv 2) pa_nil))))
        (pss_cons (ps_set (i := 5) sc_sways.nd rfl (Or.inl rfl) (pe_callD (ok_equations (K := K) T) (hr.mono (by decide)) (pa_cons (pv 0) (pa_cons (pv 1) (pa_cons (pv 4) pa_nil)))))
        (pss_cons (ps_setLc (i := 6) (own := [("knot", 10)]) (g := gName 10) (tt := tYes) rfl sc_sways.nd rfl rfl (sw_true rfl rfl rfl (by decide +kernel)) (pi_listK K (pv 4)) (blkOk_by (own := [("knot", 10)]) (N := N_sways) (sc := defScope (top 21)) (by decide +kernel)) (fun _ _ _ _ _ => (pg_name (i := 10) sc_sways.nd rfl (Or.inl rfl))) (fun _ _ _ _ _ => pts_nil) (fun _ _ _ _ _ => (pe_op op_sub (pe_ifExp (pt_cmpR op_eq (pv 10) (pe_fldK K (pv 3)) (nomark _)) pe_int pe_int) (pe_ifExp (pt_cmpR op_eq (pv 10) (pe_fldK K (pv 3)) (nomark _)) pe_int pe_int))))
        (pss_cons (ps_asg (pe_callD (ok_solved (K := K) T) (hr.mono (by decide)) (pa_cons (pe_lc (own := [("row", 12), ("push", 13)]) (tt := tYes) rfl sc_sways.nd (pi_zipK K (T_zip T) (pa_cons (pv 5) (pa_cons (pv 6) pa_nil))) (blkOk_by (own := [("row", 12), ("push", 13)]) (N := N_sways) (sc := defScope (top 21)) (by decide +kernel)) (fun _ _ _ _ _ => (pg_tupK K (n := 2) (pgs_cons (pg_name (i := 12) sc_sways.nd rfl (Or.inl rfl)) (pgs_cons (pg_name (i := 13) sc_sways.nd rfl (Or.inl rfl)) pgs_nil)))) (fun _ _ _ _ _ => pts_nil) (fun _ _ _ _ _ => (pe_op op_cat (pe_sl K (pv 12) po_none (po_some (pe_len K (T_len T) (pa_cons (pv 4) pa_nil)))) (pe_lst (pa_cons (pv 13) pa_nil))))) pa_nil)) (pg_tupK K (n := 2) (pgs_cons (pg_name (i := 7) sc_sways.nd rfl (Or.inl rfl)) (pgs_cons (pg_name (i := 8) sc_sways.nd rfl (Or.inl rfl)) pgs_nil))))
        (pss_cons (ps_set (i := 9) sc_sways.nd rfl (Or.inl rfl) (pe_op op_rep (pe_lst (pa_cons pe_int pa_nil)) (pe_len K (T_len T) (pa_cons (pv 0) pa_nil))))
        (pss_cons (ps_for PassesOwn.never rfl (pi_zipK K (T_zip T) (pa_cons (pv 4) (pa_cons (pv 8) pa_nil))) (pg_tupK K (n := 2) (pgs_cons (pg_name (i := 10) sc_sways.nd rfl (Or.inl rfl)) (pgs_cons (pg_name (i := 11) sc_sways.nd rfl (Or.inl rfl)) pgs_nil))) (pss_one (ps_asg (pe_ixL K (pv 11) pe_int) (pg_sub (pv 9) (pv 10) set_list))))
        (pss_one (ps_ret (pv 9))))))))), ?_⟩
    obtain ⟨ns, hns, hpn⟩ := id hn
    obtain ⟨sv, dv, rfl, hsv⟩ := hv
    have hN := hR.net
    have hnl := hN.nl
    have hkl := hR.knots.len
    refine q_asgL (el_call (ea_cons (ev_var rfl) (ea_cons (ev_var rfl) ea_nil)) (l_knots hn hh (hangM_len nodes l) hnl)) fun ka H2 hka e2 h2 => ?_
    generalize hkn : knotsM nodes (hangM nodes l) = knots at h2
    have hKO : KnotsOk nodes l knots := by rw [← hkn]; exact hR.knots
    have hSO : SolveOk (swayRows nodes l knots p) (knots.length + 1) := by rw [← hkn]; exact hR.sway p
    have hel := eqs_len nodes l knots
    rw [hkn] at hkl
    refine u_asg (r_equations (ea_cons (ev_var rfl) (ea_cons (ev_var rfl) (ea_cons (ev_var rfl) ea_nil))) (hn.mono NodeR.mon e2) (hL.mono SpanR.mon e2) h2 hN hKO H2 (Ex.refl _) _ fun rl H3 _ e3 h3 => ?_)
    obtain ⟨rs, hrs, hpr⟩ := h3
    have e23 := e2.trans e3
    refine q_asgL (el_is (el_lc (src_list (xs := knots) (R := fun _ i v => v = natV i) (fun _ _ _ _ _ r => r) (ev_var rfl) (SqL.of (e3 _ _ h2)) (Paired.of_map (R := fun i v => v = natV i) (f := natV) (fun _ => rfl) knots)) (fun _ => true) (fun k => V.int ((if k = p.a then (1 : Int) else 0) - (if k = p.b then 1 else 0))) (gName_mono 10) (by omega) ?_) rfl) fun pu H4 hpu e4 h4 => ?_
    · rintro i x it H5 H6 H7 hx e5 e6 ⟨rfl, rfl⟩
      have e := (e23.trans e5).trans e6
      have ea : ∀ {σ' : L2.St} {y : Nat} {f : Str}, σ'[10]? = some (some (natV x)) → σ'[3]? = some (some (.ref sv)) → (spanF p).lookup f = some (natV y) → NoAttr K (ga K "Span") f → Ev (tIf (tTest (tOp rEq (tVar 10) (tFld K (tVar 3) f))) (tC (.int 1)) (tC (.int 0))) σ' H7 (.int (if x = y then 1 else 0)) := fun {σ' y f} s1 s2 lf nf => ev_if (b := decide (x = y)) (et_is (et_test (ev_op (ev_var s1) (ev_fld (ev_var s2) (e _ _ hsv) (C_Span T) nf lf) (rv_eq rfl))) natV_eq) (fun hb => by rw [if_pos (of_decide_eq_true hb)]; exact ev_c) (fun hb => by rw [if_neg (of_decide_eq_false hb)]; exact ev_c)
      exact ⟨Ex.refl _, rfl, et_yes, fun _ => ev_op (ea rfl rfl (l_first p) (F_Span_first T)) (ea rfl rfl (l_second p) (F_Span_second T)) rv_I0⟩
    rw [filter_true] at h4
    have e24 := e23.trans e4
    have hpush : Paired (fun z v => v = V.int z) (knots.map fun k => (if k = p.a then (1 : Int) else 0) - (if k = p.b then 1 else 0)) (knots.map fun k => V.int ((if k = p.a then (1 : Int) else 0) - (if k = p.b then 1 else 0))) := by
      have := Paired.of_map (R := fun z v => v = V.int z) (f := V.int) (fun _ => rfl) (knots.map fun k => (if k = p.a then (1 : Int) else 0) - (if k = p.b then 1 else 0))
      rw [List.map_map] at this
      exact this
    refine u_asg (r_solved (rows := swayRows nodes l knots p) (fun H5 e5 Q' q' => elp_lc (src_zip (R := RowR) (S := fun _ z v => v = V.int z) RowR.mon (fun _ _ _ _ _ h => h) (ea_cons (ev_var rfl) (ea_cons (ev_var rfl) ea_nil)) (SqL.of (e4 _ _ hrs)) (SqL.of h4) (Paired.imp (fun _ _ r => RowR.mon _ _ _ _ e4 r) hpr) hpush) (fun _ => true) (fun H' x v => RowR H' (x.1.take knots.length ++ [x.2]) v) (fun _ _ _ _ e r => RowR.mon _ _ _ _ e r) (gTup2_mono 12 13) (by rw [List.length_zip, hel.n]; omega) ?_ H5 e5 Q' fun rp zs H6 hrp e6 h6 hz => q' rp H6 e6 ⟨zs, h6, ?_⟩) hSO H4 (Ex.refl _) _ fun t ans H5 e5 ht hans => ?_)
    · rintro i x it H6 H7 H8 D hx e6 e7 hD ⟨T', v1, v2, rfl, hT, rfl, ⟨q, rfl, hq⟩, rfl⟩
      have e78 : Ex H6 (upd H7 T' (.tup [.ref q, .int x.2])) := e7.trans (Ex.new hT)
      obtain ⟨x1, x2⟩ := x
      have hxl : x1.length = knots.length + 3 := hel.m _ (List.of_mem_zip (List.mem_of_getElem? hx)).1
      refine gTup2_at ⟨Ex.new hT, rfl, et_yes, fun _ => evd_l (el_is (el_cat (el_sl (ev_var rfl) eo_none (eo_some (ev_len2 (ev_var rfl) ((((e3.trans e4).trans e6).trans e78) _ _ h2) (by rw [List.length_map]))) (SqL.of (hq.mono e78))) (el_lst (ea_cons (ev_var rfl) ea_nil) (by show 1 ≤ 100000; decide)) ?_) ?_) fun p H' hp => ⟨p, rfl, hp⟩⟩
      · rw [cut_to (show knots.length ≤ x1.length by omega), List.length_map, List.length_take]
        show _ + 1 ≤ _
        omega
      · rw [cut_to (show knots.length ≤ x1.length by omega), List.map_append]
        rfl
    · rw [filter_true] at hz
      exact paired_map (f := fun (x : List Int × Int) => x.1.take knots.length ++ [x.2]) (Paired.imp (fun _ _ r => RowR.mon _ _ _ _ (hide_ex rp H6) r) hz)
    refine ⟨t, _, rfl, SqT.of ht, rfl, _, _, rfl, _, _, rfl, rfl, ?_⟩
    have hlen : (solvedM (swayRows nodes l knots p)).2.length = knots.length := by
      rw [solved_len]
      unfold swayRows
      rw [List.length_map, List.length_zip, hel.n, List.length_map, Nat.min_self]
    have hwid : ∀ r ∈ (solvedM (swayRows nodes l knots p)).2, r.length = 1 := fun r hr => by
      have hr' : r ∈ (stateAt (swayRows nodes l knots p) (swayRows nodes l knots p).length).1.map fun row => row.drop (swayRows nodes l knots p).length := hr
      obtain ⟨z, hz, rfl⟩ := List.mem_map.mp hr'
      have := stateAt_wide hSO.wide _ (Nat.le_refl _) z hz
      rw [List.length_drop, this, ← solved_len, hlen]
      omega
    have hsw : swaysM nodes l (hangM nodes l) p = (knots.zip (solvedM (swayRows nodes l knots p)).2).foldl (fun w x => w.set x.1 (x.2.getD 0 0)) (List.replicate nodes.length 0) := by
      rw [← hkn]
      rfl
    generalize hS : solvedM (swayRows nodes l knots p) = S at ht hans hlen hwid hsw
    obtain ⟨bot, answers⟩ := S
    have e25 := e24.trans e5
    refine q_asgL (el_is (el_rep (n := nodes.length) (el_lst (ea_cons ev_c ea_nil) (by show 1 ≤ 100000; decide)) (ev_len2 (ev_var rfl) (e25 _ _ hns) (by rw [Paired.len hpn])) (by omega) (by show 1 * _ ≤ _; omega)) (rep_flat _ _)) fun wl H6 hwl e6 h6 => ?_
    have bh : (hide wl H6) wl = none := if_pos rfl
    have eb : Ex H5 (hide wl H6) := hide_base e6 hwl
    obtain ⟨us, hus, hpu2⟩ := hans
    have h2' : H5 ka = some (.lst (knots.map natV)) := (e3.trans (e4.trans e5)) _ _ h2
    refine q_forZip2 (ys := knots.map natV) (zs := us) (ea_cons (ev_var rfl) (ea_cons (ev_var rfl) ea_nil)) (SqL.of (e6 _ _ h2')) (SqL.of (e6 _ _ hus)) (by rw [List.length_map, ← Paired.len hpu2]; exact hlen)
      (fun i σ' H' => ∃ (u v : Option V), σ' = [some (.ref an), some (.ref a), some (.ref h), some (.ref sv), some (.ref ka), some (.ref rl), some (.ref pu), some (.int bot), some (.ref ans), some (.ref wl), u, v, none, none] ∧ Ex (hide wl H6) H' ∧ IL H' wl (((knots.zip answers).take i).foldl (fun w x => w.set x.1 (x.2.getD 0 0)) (List.replicate nodes.length 0)))
      (fun H7 e7 => ⟨none, none, rfl, (hide_ex wl H6).trans e7, by show H7 wl = _; rw [e7 _ _ h6, List.take_zero, List.foldl_nil, List.map_replicate]⟩) (fun i σ' H' _ ⟨_, _, _, e, _⟩ => ⟨SqL.of (e _ _ (eb _ _ h2')), SqL.of (e _ _ (eb _ _ hus))⟩) ?_ ?_
    · rintro i v u σ' H' T' hv hu ⟨u0, v0, rfl, e7, h7⟩ hT
      obtain ⟨r, hr, q, rfl, hq⟩ := Paired.back hpu2 hu
      rw [List.getElem?_map] at hv
      cases hkk : knots[i]? with
      | none => rw [hkk] at hv; cases hv
      | some kn =>
        rw [hkk] at hv
        cases hv
        have hlt := hKO.lt kn (List.mem_of_getElem? hkk)
        have hzip : (knots.zip answers)[i]? = some (kn, r) := List.getElem?_zip_eq_some.mpr ⟨hkk, hr⟩
        have hr1 : r[0]? = some (r.getD 0 0) := by
          have := hwid r (List.mem_of_getElem? hr)
          have h0 : 0 < r.length := by omega
          simp [List.getD, List.getElem?_eq_getElem h0]
        have hTw : wl ≠ T' := fun z => by
          rw [← z, h7] at hT
          cases hT
        refine s_setL (j := kn) (by rw [upd_ne hTw]; exact h7) (ev_op (ev_var rfl) ev_c (rv_ixL (SqL.of ((e7.trans (Ex.new hT)) _ _ (eb _ _ hq))) (atI_nat (il_at hr1)))) (ev_var rfl) (ev_var rfl) (by rw [List.length_map, foldSet_len (fun (x : List Int) => x.getD 0 0), List.length_replicate]; exact hlt) fun H8 e8 => ⟨some (natV kn), some (.ref q), rfl, Ex.mut ((e7.trans (Ex.new hT)).trans e8) bh, ?_⟩
        show upd H8 wl _ wl = _
        rw [upd_same, take_snoc hzip, List.foldl_append, ← List.map_set]
        rfl
    · rintro σ' H' ⟨u0, v0, rfl, e7, h7⟩
      rw [List.take_of_length_le (by rw [List.length_zip, List.length_map]; omega)] at h7
      exact s_ret (ev_var rfl) fun H8 e8 => k wl H8 (fresh_back e25 hwl) (((e25.trans eb).trans e7).trans e8) (by rw [hsw]; exact e8 _ _ h7)
theorem l_sways {an a h : Addr} {v : V} {nodes : List MNode} {l : List MSpan} {p : MSpan} (h1 : ListOf (NodeR K) H an nodes) (h2 : ListOf (SpanR K) H a l) (h3 : BL H h (hangM nodes l)) (h4 : SpanR K H p v) (hR : Ready nodes l) : SpL (spSways K) [.ref an, .ref a, .ref h, v] H ((swaysM nodes l (hangM nodes l) p).map V.int) := fun H1 e Q q E => ⟨an, a, h, v, nodes, l, p, rfl, h1.mono NodeR.mon e, h2.mono SpanR.mon e, h3.mono e, SpanR.mon _ _ _ _ e h4, hR, fun p H' a b c => q p H' a b c⟩
end
end Wp


namespace Wp
open PySem PySem.Spec PyProof.Rows L2 Evl
open He (ga ma Fa DefD SaysD)
/-- more stands, p among it -/
structure ExF (p : Addr) (H H' : Hp) : Prop where
  n : H p = none
  e : Ex H H'
theorem _root_.Evl.Ex.fr {H H1 H2 : Hp} {p : Addr} (e : Ex H H1) (f : ExF p H1 H2) : ExF p H H2 := ⟨fresh_back e f.n, e.trans f.e⟩
def AllReady : Prop := ∀ nodes l, NetOk nodes l → Ready nodes l
section
variable {P : Program} {w : World} {K : PySem.W.Frag} {mg : Str → Option Value} {base : Heap} {σ : L2.St} {H : Hp} {ta : TA} {te ti : TE}
/-- a call that asks -/
def spAsk (K : PySem.W.Frag) (rel : MNet → List Int → List Int → Prop) : Sp := fun vs H Q _ => ∃ (a l1 l2 na : Addr) (N : MNet) (nums ans : List Int), vs = [.ref a, .ref na] ∧ NetAt K H a l1 l2 N ∧ IL H na nums ∧ NetOk N.nodes N.spans ∧ AllReady ∧ rel N nums ans ∧ ∀ p H', ExF p H H' → IL H' p ans → Q (.ref p) H'
/-! ### what is read off a net, a balance -/
section
variable {a l1 l2 : Addr} {N : MNet} {u : V} {b : MBal}
theorem e_nodes (T : Tx K mg) (h : NetAt K H a l1 l2 N) (he : Ev te σ H (.ref a)) : Ev (tFld K te "nodes") σ H (.ref l1) := by
  obtain ⟨dx, hi⟩ := h.ins
  exact ev_fld he hi (C_Net T) (F_Net_nodes T) (l_nodes _ _)
theorem e_spans (T : Tx K mg) (h : NetAt K H a l1 l2 N) (he : Ev te σ H (.ref a)) : Ev (tFld K te "spans") σ H (.ref l2) := by
  obtain ⟨dx, hi⟩ := h.ins
  exact ev_fld he hi (C_Net T) (F_Net_spans T) (l_spans _ _)
theorem e_nlen (T : Tx K mg) (h : NetAt K H a l1 l2 N) (he : Ev te σ H (.ref a)) : Ev (tCB (rLenS K) (tCons (tFld K te "nodes") tNil)) σ H (.int (N.nodes.length : Int)) := by
  obtain ⟨ys, hy, hp⟩ := h.nodes
  exact ev_len2 (e_nodes T h he) hy (by rw [Paired.len hp])
theorem e_slen (T : Tx K mg) (h : NetAt K H a l1 l2 N) (he : Ev te σ H (.ref a)) : Ev (tCB (rLenS K) (tCons (tFld K te "spans") tNil)) σ H (.int (N.spans.length : Int)) := by
  obtain ⟨ys, hy, hp⟩ := h.spans
  exact ev_len2 (e_spans T h he) hy (by rw [Paired.len hp])
theorem e_node (T : Tx K mg) (h : NetAt K H a l1 l2 N) {i : Nat} {n : MNode} (hi : N.nodes[i]? = some n) : ∃ u, NodeR K H n u ∧ ∀ {σ : L2.St} {te ti : TE} {H' : Hp}, Ex H H' → Ev te σ H' (.ref a) → Ev ti σ H' (natV i) → Ev (tOp (rIxL K) (tFld K te "nodes") ti) σ H' u := by
  obtain ⟨ys, hy, hp⟩ := h.nodes
  obtain ⟨u, hu, r⟩ := Paired.at hp hi
  exact ⟨u, r, fun e h1 h2 => ev_op (e_nodes T (h.mono e) h1) h2 (rv_ixL (SqL.of (e _ _ hy)) (atI_nat hu))⟩
theorem e_span (T : Tx K mg) (h : NetAt K H a l1 l2 N) {i : Nat} {s : MSpan} (hi : N.spans[i]? = some s) : ∃ u, SpanR K H s u ∧ ∀ {σ : L2.St} {te ti : TE} {H' : Hp}, Ex H H' → Ev te σ H' (.ref a) → Ev ti σ H' (natV i) → Ev (tOp (rIxL K) (tFld K te "spans") ti) σ H' u := by
  obtain ⟨ys, hy, hp⟩ := h.spans
  obtain ⟨u, hu, r⟩ := Paired.at hp hi
  exact ⟨u, r, fun e h1 h2 => ev_op (e_spans T (h.mono e) h1) h2 (rv_ixL (SqL.of (e _ _ hy)) (atI_nat hu))⟩
theorem e_bottom (T : Tx K mg) (h : BalR K H b u) (he : Ev te σ H u) : Ev (tFld K te "bottom") σ H (.int b.bottom) := by
  obtain ⟨p, dx, hh, l, rfl, hp, h1, h2⟩ := h
  exact ev_fld he hp (C_Balance T) (F_Balance_bottom T) (l_bottom _ _ _)
theorem e_hangs (T : Tx K mg) (h : BalR K H b u) : ∃ q, BL H q b.hangs ∧ ∀ {σ : L2.St} {te : TE} {H' : Hp}, Ex H H' → Ev te σ H' u → Ev (tFld K te "hangs") σ H' (.ref q) := by
  obtain ⟨p, dx, hh, l, rfl, hp, h1, h2⟩ := h
  exact ⟨hh, h1, fun e he => ev_fld he (e _ _ hp) (C_Balance T) (F_Balance_hangs T) (l_hangs _ _ _)⟩
theorem e_hang (T : Tx K mg) (h : BalR K H b u) {i : Nat} (hi : i < b.hangs.length) (he : Ev te σ H u) (h2 : Ev ti σ H (natV i)) : Ev (tOp (rIxL K) (tFld K te "hangs") ti) σ H (.bl (b.hang i)) := by
  obtain ⟨q, hq, k⟩ := e_hangs T h
  exact ev_op (k (Ex.refl _) he) h2 (rv_ixL (SqL.of hq) (atI_nat (bl_at hi)))
theorem e_place (T : Tx K mg) (h : BalR K H b u) {i : Nat} {v : List Int} (hi : b.places[i]? = some (some v)) : ∃ q, IL H q v ∧ ∀ {σ : L2.St} {te ti : TE} {H' : Hp}, Ex H H' → Ev te σ H' u → Ev ti σ H' (natV i) → Ev (tOp (rIxL K) (tFld K te "places") ti) σ H' (.ref q) := by
  obtain ⟨p, dx, hh, l, rfl, hp, h1, h2⟩ := h
  obtain ⟨ys, q, hy, hq, hI⟩ := place_at h2 hi
  exact ⟨q, hI, fun e he hti => ev_op (ev_fld he (e _ _ hp) (C_Balance T) (F_Balance_places T) (l_places _ _ _)) hti (rv_ixL (SqL.of (e _ _ hy)) (atI_nat hq))⟩
theorem v_isNode (h : NetAt K H a l1 l2 N) {i : Nat} : SpV (spIsNode K) [.ref a, natV i] H (.bl (decide (i < N.nodes.length))) := fun H1 e Q q E => ⟨a, l1, l2, N, i, rfl, h.mono e, q⟩
theorem v_isSpan (h : NetAt K H a l1 l2 N) {i : Nat} : SpV (spIsSpan K) [.ref a, natV i] H (.bl (isSpanM N.spans i)) := fun H1 e Q q E => ⟨a, l1, l2, N, i, rfl, h.mono e, q⟩
theorem q_bal {i : Nat} {D : Ends} {tz : TS} {tn tsp : TE} (hN : NetAt K H a l1 l2 N) (hO : NetOk N.nodes N.spans) (hA : AllReady) (h1 : Ev tn σ H (.ref l1)) (h2 : Ev tsp σ H (.ref l2))
    (k : ∀ v H1, Ex H H1 → BalR K H1 (balancedM N.nodes N.spans) v → tz D (σ.set i (some v)) H1) : tSeq (tAsg (tCall (spBalanced K) [] E0 (tCons tn (tCons tsp tNil))) (gName i)) tz D σ H :=
  r_balanced (ea_cons h1 (ea_cons h2 ea_nil)) hN.nodes hN.spans (hA _ _ hO) H (Ex.refl H) _ k
theorem NetAt.bundle (h : NetAt K H a l1 l2 N) (hO : NetOk N.nodes N.spans) (hA : AllReady) (hB : BalR K H (balancedM N.nodes N.spans) u) : Bundle K H u (balancedM N.nodes N.spans) l1 l2 N.nodes N.spans := ⟨hB, h.nodes, h.spans, hO, (hA _ _ hO).bal⟩
end
theorem isSpan_at {l : List MSpan} {s : Nat} (h : isSpanM l s = true) : l[s]? = some (l.getD s default) ∧ s < l.length := by
  unfold isSpanM at h
  rw [Bool.and_eq_true, decide_eq_true_eq] at h
  exact ⟨by simp [List.getD, List.getElem?_eq_getElem h.1], h.1⟩
theorem node_at {l : List MNode} {i : Nat} (h : i < l.length) : l[i]? = some (l.getD i default) := by simp [List.getD, List.getElem?_eq_getElem h]
/-- [z] + told .. -/
theorem el_cat1 {z : Int} {ys : List Int} {tb : TE} {te : TE} (he : Ev te σ H (.int z)) (hb : EvL tb σ H (ys.map V.int)) (hz : ys.length ≤ 1000) : EvL (tOp rCat (tLst (tCons te tNil)) tb) σ H ((z :: ys).map V.int) :=
  el_is (el_cat (el_lst (ea_cons he ea_nil) (by show 1 ≤ 100000; decide)) hb (by rw [List.length_map]; show 1 + _ ≤ _; omega)) rfl
theorem el_catI {xs ys : List Int} {ta tb : TE} (ha : EvL ta σ H (xs.map V.int)) (hb : EvL tb σ H (ys.map V.int)) (h1 : xs.length ≤ 1000) (h2 : ys.length ≤ 1000) : EvL (tOp rCat ta tb) σ H ((xs ++ ys).map V.int) :=
  el_is (el_cat ha hb (by rw [List.length_map, List.length_map]; omega)) (by rw [List.map_append])
theorem ret1 {z : Int} {D : Ends} {te : TE} (h : Ev te σ H (.int z)) (k : ∀ p H1, ExF p H H1 → IL H1 p [z] → D.rt (.ref p) H1) : tRet (tLst (tCons te tNil)) D σ H :=
  s_retL (el_lst (ea_cons h ea_nil) (by show 1 ≤ 100000; decide)) fun p H1 n1 e h1 => k p H1 ⟨n1, e⟩ h1
theorem V3.len100 {k : Nat} {v : List Int} (h : V3 k v) : v.length ≤ 100 := by rw [h.len]; decide
/-! ### asks.py -/
def relPlace (N : MNet) (nums ans : List Int) : Prop := ∃ i : Nat, nums = [(i : Int)] ∧ ans = placeM N i
def spPlace (K : PySem.W.Frag) : Sp := spAsk K relPlace
theorem ok_place (T : Tx K mg) : OkD P w K mg base 4 "place" ["net", "numbers"] (spPlace K) := by
  refine T.ok 54 34 "place" 50 sc_place (fun vs H Q E h => ?_) (fun _ _ _ _ _ _ us hl => match us, hl with | [_, _], _ => rfl) (fun cdv A outer s H vs Q E hr h => ?_)
  · obtain ⟨_, _, _, _, _, _, _, rfl, _⟩ := h
    rfl
  · obtain ⟨a, l1, l2, na, N, nums, ans, rfl, hN, hI, hO, hA, hrel, k⟩ := h
    refine ⟨_, (pss_cons (ps_set (i := 2) sc_place.nd rfl (Or.inl rfl) (pe_ixL K (pv 1) pe_int))
        (pss_cons (ps_if (pt_not (pt_val (pe_callD (ok_is_node (K := K) T) (hr.mono (by decide)) (pa_cons (pv 0) (pa_cons (pv 2) pa_nil))))) (pss_one (ps_ret (pe_lst (pa_cons (pe_const (T_NO_SUCH T)) pa_nil)))) pss_nil)
        (pss_cons (ps_set (i := 3) sc_place.nd rfl (Or.inl rfl) (pe_callD (ok_balanced (K := K) T) (hr.mono (by decide)) (pa_cons (pe_fldK K (pv 0)) (pa_cons (pe_fldK K (pv 0)) pa_nil))))
        (pss_cons (ps_if (pt_not (pt_val (pe_ixL K (pe_fldK K (pv 3)) (pv 2)))) (pss_one (ps_ret (pe_lst (pa_cons (pe_const (T_AS_TOLD T)) pa_nil)))) pss_nil)
        (pss_one (ps_ret (pe_op op_cat (pe_lst (pa_cons pe_int pa_nil)) (pe_callD (ok_told_vector (K := K) T) (hr.mono (by decide)) (pa_cons (pe_ixL K (pe_fldK K (pv 3)) (pv 2)) (pa_cons (pe_fldK K (pv 3)) pa_nil)))))))))), ?_⟩
    obtain ⟨i, rfl, rfl⟩ := hrel
    have hR := hA _ _ hO
    refine q_asg (v := natV i) (ev_op (ev_var rfl) ev_c (rv_ixL (SqL.of hI) (atI_nat (j := 0) rfl))) fun H1 e1 => ?_
    refine q_when (et_not (et_B (ev_call (ea_cons (ev_var rfl) (ea_cons (ev_var rfl) ea_nil)) (v_isNode (hN.mono e1))))) (fun hb H2 e2 => ?_) (fun hb H2 e2 => ?_)
    · have hlt : ¬ i < N.nodes.length := by simpa using hb
      refine ret1 ev_c fun p H3 e3 h3 => k p H3 ((e1.trans e2).fr e3) ?_
      unfold placeM
      rw [if_pos (by omega)]
      exact h3
    · have hlt : i < N.nodes.length := by simpa using hb
      have e12 := e1.trans e2
      have hN2 := hN.mono e12
      refine q_bal hN2 hO hA (e_nodes T hN2 (ev_var rfl)) (e_spans T hN2 (ev_var rfl)) fun v H3 e3 hB => ?_
      have e13 := e12.trans e3
      refine q_when (et_not (et_B (e_hang T hB (by rw [hR.bal.hl]; exact hlt) (ev_var rfl) (ev_var rfl)))) (fun hb H4 e4 => ?_) (fun hb H4 e4 => ?_)
      · have hh : (balancedM N.nodes N.spans).hang i = false := by simpa using hb
        refine ret1 ev_c fun p H5 e5 h5 => k p H5 ((e13.trans e4).fr e5) ?_
        unfold placeM
        rw [if_neg (by omega)]
        dsimp only
        rw [if_pos hh]
        exact h5
      · have hh : (balancedM N.nodes N.spans).hang i = true := by simpa using hb
        obtain ⟨h1, h2⟩ := hR.bal.at_ hh
        obtain ⟨q, hq, kq⟩ := e_place T hB h1
        refine s_retL (el_cat1 ev_c (el_call (ea_cons (kq e4 (ev_var rfl) (ev_var rfl)) (ea_cons (e_bottom T (BalR.mon _ _ _ _ e4 hB) (ev_var rfl)) ea_nil)) (l_toldVec (hq.mono e4) h2.len100 hR.bal.pos (hR.bal.bb.mono (by decide)))) (by rw [toldVec_len, h2.len]; decide)) fun p H5 n5 e5 h5 => k p H5 ((e13.trans e4).fr ⟨n5, e5⟩) ?_
        unfold placeM
        rw [if_neg (by omega)]
        dsimp only
        rw [if_neg (by rw [hh]; decide)]
        exact h5
theorem src_ints {tl : TE} {q : Addr} {l : List Int} (h : Ev tl σ H (.ref q)) (hq : IL H q l) : Src (iList K tl) σ H l fun H2 H3 x it H4 => H4 = H3 ∧ it = V.int x :=
  src_list (R := fun _ x v => v = V.int x) (fun _ _ _ _ _ r => r) h (SqL.of hq) (Paired.of_map (R := fun z v => v = V.int z) (f := V.int) (fun _ => rfl) _)
theorem src_nats {tl : TE} {q : Addr} {l : List Nat} (h : Ev tl σ H (.ref q)) (hq : KL H q l) : Src (iList K tl) σ H l fun H2 H3 x it H4 => H4 = H3 ∧ it = natV x :=
  src_list (R := fun _ x v => v = natV x) (fun _ _ _ _ _ r => r) h (SqL.of hq) (Paired.of_map (R := fun z v => v = natV z) (f := natV) (fun _ => rfl) _)
theorem span_bits {nodes : List MNode} {l : List MSpan} (N : NetOk nodes l) {s : Nat} (h : s < l.length) : (l.getD s default).a < nodes.length ∧ (l.getD s default).b < nodes.length ∧ Bits 20 (l.getD s default).d := by
  have hm : l.getD s default ∈ l := by
    have : l[s]? = some (l.getD s default) := by simp [List.getD, List.getElem?_eq_getElem h]
    exact List.mem_of_getElem? this
  obtain ⟨a, b, _, _, c⟩ := N.span _ hm
  exact ⟨a, b, c⟩
def relPull (N : MNet) (nums ans : List Int) : Prop := ∃ s : Nat, nums = [(s : Int)] ∧ ans = pullAskM N s
def spPullAsk (K : PySem.W.Frag) : Sp := spAsk K relPull
theorem ok_pull (T : Tx K mg) : OkD P w K mg base 4 "pull" ["net", "numbers"] (spPullAsk K) := by
  refine T.ok 55 35 "pull" 51 sc_pull (fun vs H Q E h => ?_) (fun _ _ _ _ _ _ us hl => match us, hl with | [_, _], _ => rfl) (fun cdv A outer s H vs Q E hr h => ?_)
  · obtain ⟨_, _, _, _, _, _, _, rfl, _⟩ := h
    rfl
  · obtain ⟨a, l1, l2, na, N, nums, ans, rfl, hN, hI, hO, hA, hrel, k⟩ := h
    refine ⟨_, (pss_cons (ps_set (i := 2) sc_pull.nd rfl (Or.inl rfl) (pe_ixL K (pv 1) pe_int))
        (pss_cons (ps_if (pt_not (pt_val (pe_callD (ok_is_span (K := K) T) (hr.mono (by decide)) (pa_cons (pv 0) (pa_cons (pv 2) pa_nil))))) (pss_one (ps_ret (pe_lst (pa_cons (pe_const (T_NO_SUCH T)) pa_nil)))) pss_nil)
        (pss_cons (ps_set (i := 3) sc_pull.nd rfl (Or.inl rfl) (pe_callD (ok_balanced (K := K) T) (hr.mono (by decide)) (pa_cons (pe_fldK K (pv 0)) (pa_cons (pe_fldK K (pv 0)) pa_nil))))
        (pss_cons (ps_set (i := 4) sc_pull.nd rfl (Or.inl rfl) (pe_ixL K (pe_fldK K (pv 0)) (pv 2)))
        (pss_cons (ps_if (PW.pt (pw_or (pt_not (pt_val (pe_ixL K (pe_fldK K (pv 3)) (pe_fldK K (pv 4))))) (pw_or1 (pt_not (pt_val (pe_ixL K (pe_fldK K (pv 3)) (pe_fldK K (pv 4)))))))) (pss_one (ps_ret (pe_lst (pa_cons (pe_const (T_AS_TOLD T)) pa_nil)))) pss_nil)
        (pss_cons (ps_set (i := 5) sc_pull.nd rfl (Or.inl rfl) (pe_callD (ok_pull_towards (K := K) T) (hr.mono (by decide)) (pa_cons (pv 3) (pa_cons (pe_fldK K (pv 4)) (pa_cons (pe_fldK K (pv 4)) (pa_cons (pe_fldK K (pv 4)) pa_nil))))))
        (pss_cons (ps_set (i := 6) sc_pull.nd rfl (Or.inl rfl) (pe_sum K (T_sum T) (pa_cons (pe_lc (own := [("part", 8)]) (g := gName 8) (tt := tYes) rfl sc_pull.nd (pi_listK K (pv 5)) (blkOk_by (own := [("part", 8)]) (N := N_pull) (sc := defScope (top 51)) (by decide +kernel)) (fun _ _ _ _ _ => (pg_name (i := 8) sc_pull.nd rfl (Or.inl rfl))) (fun _ _ _ _ _ => pts_nil) (fun _ _ _ _ _ => (pe_op op_mulW (pv 8) (pv 8)))) pa_nil)))
        (pss_cons (ps_set (i := 7) sc_pull.nd rfl (Or.inl rfl) (pe_callD (ok_force_bottom (K := K) T) (hr.mono (by decide)) (pa_cons (pv 3) pa_nil)))
        (pss_one (ps_ret (pe_op op_cat (pe_op op_cat (pe_lst (pa_cons pe_int pa_nil)) (pe_callD (ok_told_vector (K := K) T) (hr.mono (by decide)) (pa_cons (pv 5) (pa_cons (pv 7) pa_nil)))) (pe_callD (ok_told (K := K) T) (hr.mono (by decide)) (pa_cons (pv 6) (pa_cons (pe_op op_mulW (pv 7) (pv 7)) pa_nil)))))))))))))), ?_⟩
    obtain ⟨s', rfl, rfl⟩ := hrel
    have hR := hA _ _ hO
    refine q_asg (v := natV s') (ev_op (ev_var rfl) ev_c (rv_ixL (SqL.of hI) (atI_nat (j := 0) rfl))) fun H1 e1 => ?_
    refine q_when (et_not (et_B (ev_call (ea_cons (ev_var rfl) (ea_cons (ev_var rfl) ea_nil)) (v_isSpan (hN.mono e1))))) (fun hb H2 e2 => ?_) (fun hb H2 e2 => ?_)
    · have hlt : isSpanM N.spans s' = false := by simpa using hb
      refine ret1 ev_c fun p H3 e3 h3 => k p H3 ((e1.trans e2).fr e3) ?_
      unfold pullAskM
      rw [if_pos hlt]
      exact h3
    · have hlt : isSpanM N.spans s' = true := by simpa using hb
      obtain ⟨hs, hsl⟩ := isSpan_at hlt
      obtain ⟨na1, nb1, hd⟩ := span_bits hO hsl
      have e12 := e1.trans e2
      have hN2 := hN.mono e12
      refine q_bal hN2 hO hA (e_nodes T hN2 (ev_var rfl)) (e_spans T hN2 (ev_var rfl)) fun v H3 e3 hB => ?_
      have e13 := e12.trans e3
      obtain ⟨u, hu, ku⟩ := e_span T (hN2.mono e3) hs
      refine q_asg (ku (Ex.refl _) (ev_var rfl) (ev_var rfl)) fun H4 e4 => ?_
      obtain ⟨q, dx, rfl, hq⟩ := SpanR.mon _ _ _ _ e4 hu
      have hB4 := BalR.mon _ _ _ _ e4 hB
      generalize hp : N.spans.getD s' default = p at hs na1 nb1 hd hu hq
      have hl := hR.bal.hl
      refine q_when (b := !(balancedM N.nodes N.spans).hang p.a || !(balancedM N.nodes N.spans).hang p.b) (et_or (et_not (et_B (e_hang T hB4 (by omega) (ev_var rfl) (ev_fld (ev_var rfl) hq (C_Span T) (F_Span_first T) (l_first _))))) fun _ => et_not (et_B (e_hang T hB4 (by omega) (ev_var rfl) (ev_fld (ev_var rfl) hq (C_Span T) (F_Span_second T) (l_second _))))) (fun hb H5 e5 => ?_) (fun hb H5 e5 => ?_)
      · have hh : ((balancedM N.nodes N.spans).hang p.a && (balancedM N.nodes N.spans).hang p.b) = false := by
          cases h1 : (balancedM N.nodes N.spans).hang p.a <;> cases h2 : (balancedM N.nodes N.spans).hang p.b <;> simp_all
        refine ret1 ev_c fun r H6 e6 h6 => k r H6 (((e13.trans e4).trans e5).fr e6) ?_
        unfold pullAskM
        rw [if_neg (by rw [hlt]; decide)]
        dsimp only
        rw [hp, if_pos hh]
        exact h6
      · have hh : (balancedM N.nodes N.spans).hang p.a = true ∧ (balancedM N.nodes N.spans).hang p.b = true := by simpa using hb
        have hB5 := BalR.mon _ _ _ _ e5 hB4
        have hq5 := e5 _ _ hq
        have hv := pull_v3 hR.bal hh.1 hh.2 hd
        refine q_asgL (el_call (ea_cons (ev_var rfl) (ea_cons (ev_fld (ev_var rfl) hq5 (C_Span T) (F_Span_first T) (l_first _)) (ea_cons (ev_fld (ev_var rfl) hq5 (C_Span T) (F_Span_second T) (l_second _)) (ea_cons (ev_fld (ev_var rfl) hq5 (C_Span T) (F_Span_density T) (l_density _)) ea_nil)))) (l_pull hB5 hR.bal hh.1 hh.2 hd)) fun d H6 hd6 e6 h6 => ?_
        refine q_asg (ev_sumL (bs := (pullM (balancedM N.nodes N.spans) p.a p.b p.d).map fun q => q * q) (el_is (el_lc (src_ints (ev_var rfl) h6) (fun _ => true) (fun z => V.int (z * z)) (gName_mono 8) (by rw [hv.len]; decide) ?_) ?_)) fun H7 e7 => ?_
        · rintro j z it H8 H9 H10 hz e8 e9 ⟨rfl, rfl⟩
          obtain ⟨hj, _⟩ := List.getElem?_eq_some_iff.mp hz
          have hb := hv.get j (by rw [hv.len] at hj; exact hj)
          rw [hz] at hb
          have ez : z = (pullM (balancedM N.nodes N.spans) p.a p.b p.d).getD j 0 := Option.some.inj hb.1
          exact ⟨Ex.refl _, rfl, et_yes, fun _ => ev_op (ev_var rfl) (ev_var rfl) (rv_I (mulW (k := 2021) (l := 2021) (by rw [ez]; exact hb.2) (by rw [ez]; exact hb.2) (by decide) (by decide) (by decide)))⟩
        · rw [filter_true, List.map_map]
          rfl
        · have hB7 := BalR.mon _ _ _ _ (e6.trans e7) hB5
          refine q_asg (ev_call (ea_cons (ev_var rfl) ea_nil) (v_fb hB7 hR.bal.bb)) fun H8 e8 => ?_
          have hfb := hR.bal.fbb
          have hfp := hR.bal.fbpos
          refine s_retL (el_catI (xs := 0 :: toldVecM (pullM (balancedM N.nodes N.spans) p.a p.b p.d) (balancedM N.nodes N.spans).fb) (el_cat1 ev_c (el_call (ea_cons (ev_var rfl) (ea_cons (ev_var rfl) ea_nil)) (l_toldVec ((e7.trans e8) _ _ h6) hv.len100 hfp (hfb.mono (by decide)))) (by rw [toldVec_len, hv.len]; decide)) (el_call (ea_cons (ev_var rfl) (ea_cons (ev_op (ev_var rfl) (ev_var rfl) (rv_I (mulW hfb hfb (by decide) (by decide) (by decide)))) ea_nil)) (l_told (Int.mul_pos hfp hfp) ((hfb.mul hfb).mono (by decide)))) (by rw [List.length_cons, toldVec_len, hv.len]; decide) (by show 2 ≤ 1000; decide)) fun r H9 n9 e9 h9 => k r H9 ((((((e13.trans e4).trans e5).trans e6).trans e7).trans e8).fr ⟨n9, e9⟩) ?_
          unfold pullAskM
          rw [if_neg (by rw [hlt]; decide)]
          dsimp only
          rw [hp, if_neg (by rw [hh.1, hh.2]; decide)]
          exact h9
def relBears (N : MNet) (nums ans : List Int) : Prop := ∃ i : Nat, nums = [(i : Int)] ∧ ans = bearsM N i
def spBears (K : PySem.W.Frag) : Sp := spAsk K relBears
theorem ok_bears (T : Tx K mg) : OkD P w K mg base 5 "bears" ["net", "numbers"] (spBears K) := by
  refine T.ok 56 36 "bears" 52 sc_bears (fun vs H Q E h => ?_) (fun _ _ _ _ _ _ us hl => match us, hl with | [_, _], _ => rfl) (fun cdv A outer s H vs Q E hr h => ?_)
  · obtain ⟨_, _, _, _, _, _, _, rfl, _⟩ := h
    rfl
  · obtain ⟨a, l1, l2, na, N, nums, ans, rfl, hN, hI, hO, hA, hrel, k⟩ := h
    refine ⟨_, (pss_cons (ps_set (i := 2) sc_bears.nd rfl (Or.inl rfl) (pe_ixL K (pv 1) pe_int))
        (pss_cons (ps_if (pt_not (pt_val (pe_callD (ok_is_node (K := K) T) (hr.mono (by decide)) (pa_cons (pv 0) (pa_cons (pv 2) pa_nil))))) (pss_one (ps_ret (pe_lst (pa_cons (pe_const (T_NO_SUCH T)) pa_nil)))) pss_nil)
        (pss_cons (ps_set (i := 3) sc_bears.nd rfl (Or.inl rfl) (pe_ixL K (pe_fldK K (pv 0)) (pv 2)))
        (pss_cons (ps_if (pt_not (pt_val (pe_fldK K (pv 3)))) (pss_one (ps_ret (pe_lst (pa_cons (pe_const (T_OTHER_KIND T)) pa_nil)))) pss_nil)
        (pss_cons (ps_set (i := 4) sc_bears.nd rfl (Or.inl rfl) (pe_callD (ok_balanced (K := K) T) (hr.mono (by decide)) (pa_cons (pe_fldK K (pv 0)) (pa_cons (pe_fldK K (pv 0)) pa_nil))))
        (pss_cons (ps_set (i := 5) sc_bears.nd rfl (Or.inl rfl) (pe_callD (ok_force_at (K := K) T) (hr.mono (by decide)) (pa_cons (pv 4) (pa_cons (pe_fldK K (pv 0)) (pa_cons (pv 2) pa_nil)))))
        (pss_cons (ps_set (i := 6) sc_bears.nd rfl (Or.inl rfl) (pe_callD (ok_moment_square (K := K) T) (hr.mono (by decide)) (pa_cons (pv 3) (pa_cons (pv 5) pa_nil))))
        (pss_cons (ps_set (i := 7) sc_bears.nd rfl (Or.inl rfl) (pe_callD (ok_force_bottom (K := K) T) (hr.mono (by decide)) (pa_cons (pv 4) pa_nil)))
        (pss_cons (ps_set (i := 8) sc_bears.nd rfl (Or.inl rfl) (pe_ifExp (pt_val (pe_callD (ok_bears_so (K := K) T) (hr.mono (by decide)) (pa_cons (pv 4) (pa_cons (pv 3) (pa_cons (pv 6) pa_nil))))) pe_int pe_int))
        (pss_one (ps_ret (pe_op op_cat (pe_op op_cat (pe_lst (pa_cons (pv 8) pa_nil)) (pe_callD (ok_told_vector (K := K) T) (hr.mono (by decide)) (pa_cons (pv 5) (pa_cons (pv 7) pa_nil)))) (pe_callD (ok_told (K := K) T) (hr.mono (by decide)) (pa_cons (pv 6) (pa_cons (pe_op op_mulW (pv 7) (pv 7)) pa_nil))))))))))))))), ?_⟩
    obtain ⟨i, rfl, rfl⟩ := hrel
    have hR := hA _ _ hO
    refine q_asg (v := natV i) (ev_op (ev_var rfl) ev_c (rv_ixL (SqL.of hI) (atI_nat (j := 0) rfl))) fun H1 e1 => ?_
    refine q_when (et_not (et_B (ev_call (ea_cons (ev_var rfl) (ea_cons (ev_var rfl) ea_nil)) (v_isNode (hN.mono e1))))) (fun hb H2 e2 => ?_) (fun hb H2 e2 => ?_)
    · have hlt : ¬ i < N.nodes.length := by simpa using hb
      refine ret1 ev_c fun p H3 e3 h3 => k p H3 ((e1.trans e2).fr e3) ?_
      unfold bearsM
      rw [if_pos (by omega)]
      exact h3
    · have hlt : i < N.nodes.length := by simpa using hb
      have e12 := e1.trans e2
      have hN2 := hN.mono e12
      have hni := node_at hlt
      obtain ⟨_, nv, nb, nB⟩ := nodeOk hO hni
      obtain ⟨u, hu, ku⟩ := e_node T hN2 hni
      refine q_asg (ku (Ex.refl _) (ev_var rfl) (ev_var rfl)) fun H3 e3 => ?_
      have hu3 := NodeR.mon _ _ _ _ e3 hu
      obtain ⟨q, dx, t, rfl, hq, ht⟩ := id hu3
      have e13 := e12.trans e3
      generalize hn : N.nodes.getD i default = n at hni nv nb nB hu hu3 hq ht
      refine q_when (et_not (et_B (ev_fld (ev_var rfl) hq (C_Node T) (F_Node_fixed T) (l_fixed _ _)))) (fun hb H4 e4 => ?_) (fun hb H4 e4 => ?_)
      · have hf : n.fixed = false := by simpa using hb
        refine ret1 ev_c fun p H5 e5 h5 => k p H5 ((e13.trans e4).fr e5) ?_
        unfold bearsM
        rw [if_neg (by omega)]
        dsimp only
        rw [hn, if_pos hf]
        exact h5
      · have hf : n.fixed = true := by simpa using hb
        have hg := hR.bal.fix i n hni hf
        have e14 := e13.trans e4
        have hN4 := hN.mono e14
        refine q_bal hN4 hO hA (e_nodes T hN4 (ev_var rfl)) (e_spans T hN4 (ev_var rfl)) fun v H5 e5 hB => ?_
        have hN5 := hN4.mono e5
        have hbu := hN5.bundle hO hA hB
        have hv := force_v3 hO hR.bal hg
        refine q_asgL (el_call (ea_cons (ev_var rfl) (ea_cons (e_spans T hN5 (ev_var rfl)) (ea_cons (ev_var rfl) ea_nil))) (l_force hB hN5.spans hO hR.bal hg)) fun fo H6 hfo e6 h6 => ?_
        have e36 := (e4.trans e5).trans e6
        have hm := moment_bits nv (hv.mono (show 2061 ≤ 2200 by decide))
        refine q_asg (ev_call (ea_cons (ev_var rfl) (ea_cons (ev_var rfl) ea_nil)) (v_moment (NodeR.mon _ _ _ _ e36 hu3) h6 nv (hv.mono (by decide)))) fun H7 e7 => ?_
        have hB7 := BalR.mon _ _ _ _ (e6.trans e7) hB
        refine q_asg (ev_call (ea_cons (ev_var rfl) ea_nil) (v_fb hB7 hR.bal.bb)) fun H8 e8 => ?_
        refine q_asg (v := .int (if bearsSoM (balancedM N.nodes N.spans) n (momentM n (forceM (balancedM N.nodes N.spans) N.spans i)) = true then 1 else 0)) (ev_if (et_B (ev_call (ea_cons (ev_var rfl) (ea_cons (ev_var rfl) (ea_cons (ev_var rfl) ea_nil))) (v_bearsSo (BalR.mon _ _ _ _ e8 hB7) (NodeR.mon _ _ _ _ ((e36.trans e7).trans e8) hu3) hR.bal.bb nB))) (fun hb => by rw [if_pos hb]; exact ev_c) (fun hb => by rw [if_neg (by rw [hb]; decide)]; exact ev_c)) fun H9 e9 => ?_
        have hfb := hR.bal.fbb
        have hfp := hR.bal.fbpos
        refine s_retL (el_catI (xs := _ :: toldVecM (forceM (balancedM N.nodes N.spans) N.spans i) (balancedM N.nodes N.spans).fb) (el_cat1 (ev_var rfl) (el_call (ea_cons (ev_var rfl) (ea_cons (ev_var rfl) ea_nil)) (l_toldVec (((e7.trans e8).trans e9) _ _ h6) hv.len100 hfp (hfb.mono (by decide)))) (by rw [toldVec_len, hv.len]; decide)) (el_call (ea_cons (ev_var rfl) (ea_cons (ev_op (ev_var rfl) (ev_var rfl) (rv_I (mulW hfb hfb (by decide) (by decide) (by decide)))) ea_nil)) (l_told (Int.mul_pos hfp hfp) ((hfb.mul hfb).mono (by decide)))) (by rw [List.length_cons, toldVec_len, hv.len]; decide) (by show 2 ≤ 1000; decide)) fun r H10 n10 e10 h10 => k r H10 (((((e13.trans e36).trans e7).trans e8).trans e9).fr ⟨n10, e10⟩) ?_
        unfold bearsM
        rw [if_neg (by omega)]
        dsimp only
        rw [hn, if_neg (by rw [hf]; decide)]
        exact h10
end
end Wp


namespace Wp
open PySem PySem.Spec PyProof.Rows L2 Evl
open He (ga ma Fa DefD SaysD)
theorem range_lt {n i j : Nat} (h : (List.range n)[j]? = some i) : i < n := by have := List.mem_of_getElem? h; simpa using this
theorem bl_gt {a b : Int} : (V.bl (decide (b < a))) = V.bl (decide (a > b)) := rfl
theorem knot_is {nodes : List MNode} {b : List Bool} {k : Nat} (h : k ∈ knotsM nodes b) : k < nodes.length ∧ b.getD k false = true ∧ (nodes.getD k default).fixed = false := by
  unfold knotsM at h
  obtain ⟨h1, h2⟩ := List.mem_filter.mp h
  rw [Bool.and_eq_true] at h2
  exact ⟨by simpa using h1, h2.1, by simpa using h2.2⟩
section
variable {P : Program} {w : World} {K : PySem.W.Frag} {mg : Str → Option Value} {base : Heap} {σ : L2.St} {H : Hp} {ta : TA} {te ti : TE}
theorem r_strain {v : V} {b : MBal} {an a : Addr} {nodes : List MNode} {l : List MSpan} {i : Nat} {n : MNode} (h : EvA ta σ H [v, .ref an, .ref a, natV i]) (hB : Bundle K H v b an a nodes l) (hi : nodes[i]? = some n) (hf : n.fixed = true) :
    ∀ H1, Ex H H1 → ∀ Q : VK, (∀ p H2, Ex H1 H2 → H2 p = some (.tup [.int (strainM b nodes l i).1, .int (strainM b nodes l i).2]) → Q (.ref p) H2) → tCall (spStrain K) [] E0 ta σ H1 Q := fun H1 e Q q => h H1 e _ fun H2 e2 =>
  ⟨v, b, an, a, nodes, l, i, n, rfl, hB.mono (e.trans e2), hi, hf, fun p H3 _ e3 h => q p H3 (e2.trans e3) h⟩
theorem strain_bits {b : MBal} {nodes : List MNode} {l : List MSpan} (N : NetOk nodes l) (B : BalOk b nodes l) {i : Nat} {n : MNode} (hi : nodes[i]? = some n) (hf : n.fixed = true) (hb : n.bound > 0) : Bits 4500 (strainM b nodes l i).1 ∧ Bits 4060 (strainM b nodes l i).2 ∧ 0 < (strainM b nodes l i).2 := by
  obtain ⟨en, nv, nb, nB⟩ := nodeOk N hi
  unfold strainM
  rw [en]
  have hm := B.fbb.mul nB
  have hp := Int.mul_pos B.fbpos hb
  exact ⟨moment_bits nv ((force_v3 N B (B.fix i n hi hf)).mono (by decide)), hm.mul hm, Int.mul_pos hp hp⟩
theorem bounded_at {nodes : List MNode} {i : Nat} (h : i ∈ boundedM nodes) : nodes[i]? = some (nodes.getD i default) ∧ (nodes.getD i default).fixed = true ∧ (nodes.getD i default).bound > 0 := by
  unfold boundedM at h
  obtain ⟨h1, h2⟩ := List.mem_filter.mp h
  rw [Bool.and_eq_true, decide_eq_true_eq] at h2
  exact ⟨node_at (by simpa using h1), h2.1, h2.2⟩
def relWorst (N : MNet) (nums ans : List Int) : Prop := nums = [] ∧ ans = worstM N
def spWorst (K : PySem.W.Frag) : Sp := spAsk K relWorst
theorem kl_at {l : List Nat} {i z : Nat} (h : l[i]? = some z) : (l.map natV)[i]? = some (natV z) := by rw [List.getElem?_map, h]; rfl
theorem ok_worst (T : Tx K mg) : OkD P w K mg base 5 "worst" ["net", "numbers"] (spWorst K) := by
  refine T.ok 57 37 "worst" 53 sc_worst (fun vs H Q E h => ?_) (fun _ _ _ _ _ _ us hl => match us, hl with | [_, _], _ => rfl) (fun cdv A outer s H vs Q E hr h => ?_)
  · obtain ⟨_, _, _, _, _, _, _, rfl, _⟩ := h
    rfl
  · obtain ⟨a, l1, l2, na, N, nums, ans, rfl, hN, hI, hO, hA, hrel, k⟩ := h
    refine ⟨_, (pss_cons (ps_setLc (i := 2) (own := [("i", 7)]) (g := gName 7) rfl sc_worst.nd rfl rfl (sw_true rfl rfl rfl (by decide +kernel)) (pi_rangeK (T_range T) (pa_cons (pe_len K (T_len T) (pa_cons (pe_fldK K (pv 0)) pa_nil)) pa_nil)) (blkOk_by (own := [("i", 7)]) (N := N_worst) (sc := defScope (top 53)) (by decide +kernel)) (fun _ _ _ _ _ => (pg_name (i := 7) sc_worst.nd rfl (Or.inl rfl))) (fun _ _ _ _ _ => (pts_one (PW.pt (pw_and (pt_val (pe_fldK K (pe_ixL K (pe_fldK K (pv 0)) (pv 7)))) (pw_and1 (pt_cmpR op_gt (pe_fldK K (pe_ixL K (pe_fldK K (pv 0)) (pv 7))) pe_int (nomark _))))))) (fun _ _ _ _ _ => (pv 7)))
        (pss_cons (ps_if (pt_cmpR op_eq (pe_len K (T_len T) (pa_cons (pv 2) pa_nil)) pe_int (nomark _)) (pss_one (ps_ret (pe_lst (pa_cons (pe_const (T_AS_TOLD T)) pa_nil)))) pss_nil)
        (pss_cons (ps_set (i := 3) sc_worst.nd rfl (Or.inl rfl) (pe_callD (ok_balanced (K := K) T) (hr.mono (by decide)) (pa_cons (pe_fldK K (pv 0)) (pa_cons (pe_fldK K (pv 0)) pa_nil))))
        (pss_cons (ps_set (i := 4) sc_worst.nd rfl (Or.inl rfl) (pe_ixL K (pv 2) pe_int))
        (pss_cons (ps_asg (pe_callD (ok_strain (K := K) T) (hr.mono (by decide)) (pa_cons (pv 3) (pa_cons (pe_fldK K (pv 0)) (pa_cons (pe_fldK K (pv 0)) (pa_cons (pv 4) pa_nil))))) (pg_tupK K (n := 2) (pgs_cons (pg_name (i := 5) sc_worst.nd rfl (Or.inl rfl)) (pgs_cons (pg_name (i := 6) sc_worst.nd rfl (Or.inl rfl)) pgs_nil))))
        (pss_cons (ps_for PassesOwn.never rfl (pi_listK K (pv 2)) (pg_name (i := 7) sc_worst.nd rfl (Or.inl rfl)) (pss_cons (ps_asg (pe_callD (ok_strain (K := K) T) (hr.mono (by decide)) (pa_cons (pv 3) (pa_cons (pe_fldK K (pv 0)) (pa_cons (pe_fldK K (pv 0)) (pa_cons (pv 7) pa_nil))))) (pg_tupK K (n := 2) (pgs_cons (pg_name (i := 8) sc_worst.nd rfl (Or.inl rfl)) (pgs_cons (pg_name (i := 9) sc_worst.nd rfl (Or.inl rfl)) pgs_nil))))
        (pss_one (ps_if (pt_cmpR op_gt (pe_op op_mulW (pv 8) (pv 6)) (pe_op op_mulW (pv 5) (pv 9)) (nomark _)) (pss_one (ps_par3 (i := 4) (j := 5) (l := 6) (by rfl) sc_worst.nd rfl rfl rfl (by decide) (by decide) (by decide) rfl rfl rfl (pa_cons (pv 7) (pa_cons (pv 8) (pa_cons (pv 9) pa_nil))) (by rfl))) pss_nil))))
        (pss_one (ps_ret (pe_op op_cat (pe_lst (pa_cons (pv 4) pa_nil)) (pe_callD (ok_told (K := K) T) (hr.mono (by decide)) (pa_cons (pv 5) (pa_cons (pv 6) pa_nil)))))))))))), ?_⟩
    obtain ⟨rfl, rfl⟩ := hrel
    have hR := hA _ _ hO
    have hnl := hO.nl
    refine q_asgL (xs := (boundedM N.nodes).map natV) (el_lc (src_range (n := N.nodes.length) (ea_cons (e_nlen T hN (ev_var rfl)) ea_nil) (by omega)) (fun i => (N.nodes.getD i default).fixed && decide ((N.nodes.getD i default).bound > 0)) natV (gName_mono 7) (by rw [List.length_range]; omega) ?_) fun bo H1 hbo e1 h1 => ?_
    · rintro j i it H2 H3 H4 hx e2 e3 ⟨rfl, rfl⟩
      obtain ⟨u, hu, ku⟩ := e_node T hN (node_at (range_lt hx))
      have e := e2.trans e3
      obtain ⟨q, dx, t, rfl, hq, ht⟩ := NodeR.mon _ _ _ _ e hu
      exact ⟨Ex.refl _, rfl, et_and (et_B (ev_fld (ku e (ev_var rfl) (ev_var rfl)) hq (C_Node T) (F_Node_fixed T) (l_fixed _ _))) fun _ => et_test (ev_op (ev_fld (ku e (ev_var rfl) (ev_var rfl)) hq (C_Node T) (F_Node_bound T) (l_bound _ _)) ev_c rv_I0), fun _ => ev_var rfl⟩
    have hbd : ∀ j ∈ boundedM N.nodes, _ := fun j hj => bounded_at hj
    have lbo : (boundedM N.nodes).length ≤ 24 := by
      have := List.length_filter_le (fun i => (N.nodes.getD i default).fixed && decide ((N.nodes.getD i default).bound > 0)) (List.range N.nodes.length)
      rw [List.length_range] at this
      exact Nat.le_trans this hnl
    cases hl : boundedM N.nodes with
    | nil =>
      rw [hl] at h1
      refine q_when (b := true) (et_is (et_test (ev_op (ev_len2 (ev_var rfl) h1 rfl) ev_c (rv_eq rfl))) rfl) (fun hb H2 e2 => ?_) (fun hb H2 e2 => by cases hb)
      refine ret1 ev_c fun p H3 e3 h3 => k p H3 ((e1.trans e2).fr e3) ?_
      unfold worstM
      rw [hl]
      exact h3
    | cons i0 r =>
      rw [hl] at h1 hbd lbo
      refine q_when (b := false) (et_is (et_test (ev_op (ev_len2 (ev_var rfl) h1 rfl) ev_c (rv_eq rfl))) (decide_eq_false (fun q => by injection q with q; simp at q; omega))) (fun hb H2 e2 => by cases hb) (fun hb H2 e2 => ?_)
      have e12 := e1.trans e2
      have hN2 := hN.mono e12
      refine q_bal hN2 hO hA (e_nodes T hN2 (ev_var rfl)) (e_spans T hN2 (ev_var rfl)) fun v H3 e3 hB => ?_
      have e23 := e2.trans e3
      have e13 := e12.trans e3
      have hbu := (hN2.mono e3).bundle hO hA hB
      have hN3 := hN2.mono e3
      generalize hbm : balancedM N.nodes N.spans = b at hB hbu
      have hBo : BalOk b N.nodes N.spans := by rw [← hbm]; exact hR.bal
      refine q_asg (v := natV i0) (ev_op (ev_var rfl) ev_c (rv_ixL (SqL.of (e23 _ _ h1)) (atI_nat (j := 0) rfl))) fun H4 e4 => ?_
      obtain ⟨a1, a2, a3⟩ := hbd i0 (by simp)
      have hN4 := hN3.mono e4
      refine u_asg (r_strain (ea_cons (ev_var rfl) (ea_cons (e_nodes T hN4 (ev_var rfl)) (ea_cons (e_spans T hN4 (ev_var rfl)) (ea_cons (ev_var rfl) ea_nil)))) (hbu.mono e4) a1 a2 H4 (Ex.refl _) _ fun tp H5 e5 h5 => ?_)
      refine ⟨tp, _, rfl, SqT.of h5, rfl, _, _, rfl, _, _, rfl, rfl, ?_⟩
      have e45 := e4.trans e5
      have sb := fun j hj => strain_bits hO hBo (hbd j hj).1 (hbd j hj).2.1 (hbd j hj).2.2
      obtain ⟨s1, s2, s3⟩ := sb i0 (by simp)
      refine q_forLn (xs := (i0 :: r).map natV) (ev_var rfl) (SqL.of ((e23.trans e45) _ _ h1)) (fun j σ' H' => ∃ (c : Nat × Int × Int) (x y z : Option V), c = ((i0 :: r).take j).foldl (worstStep (strainM b N.nodes N.spans)) (i0, strainM b N.nodes N.spans i0) ∧ Bits 4500 c.2.1 ∧ Bits 4060 c.2.2 ∧ 0 < c.2.2 ∧ σ' = [some (.ref a), some (.ref na), some (.ref bo), some v, some (natV c.1), some (.int c.2.1), some (.int c.2.2), x, y, z] ∧ Ex H3 H')
        (fun H6 e6 => ⟨(i0, strainM b N.nodes N.spans i0), none, none, none, rfl, s1, s2, s3, rfl, e45.trans e6⟩) (fun j σ' H' _ ⟨_, _, _, _, _, _, _, _, _, e⟩ => SqL.of ((e23.trans e) _ _ h1)) ?_ ?_
      · rintro j x σ' H' hx ⟨c, x0, y0, z0, hc, c1, c2, c3, rfl, e6⟩
        rw [List.getElem?_map] at hx
        cases hjj : (i0 :: r)[j]? with
        | none => rw [hjj] at hx; cases hx
        | some m =>
          rw [hjj] at hx
          cases hx
          have hmem := List.mem_of_getElem? hjj
          obtain ⟨b1, b2, b3⟩ := hbd m hmem
          obtain ⟨t1, t2, t3⟩ := sb m hmem
          have hN6 := hN3.mono e6
          refine u_asg (r_strain (ea_cons (ev_var rfl) (ea_cons (e_nodes T hN6 (ev_var rfl)) (ea_cons (e_spans T hN6 (ev_var rfl)) (ea_cons (ev_var rfl) ea_nil)))) (hbu.mono e6) b1 b2 H' (Ex.refl _) _ fun tp2 H7 e7 h7 => ?_)
          refine ⟨tp2, _, rfl, SqT.of h7, rfl, _, _, rfl, _, _, rfl, rfl, ?_⟩
          have step : ((i0 :: r).take (j + 1)).foldl (worstStep (strainM b N.nodes N.spans)) (i0, strainM b N.nodes N.spans i0) = worstStep (strainM b N.nodes N.spans) c m := by
            rw [take_snoc hjj, List.foldl_append, ← hc]
            rfl
          refine s_when (b := decide ((strainM b N.nodes N.spans m).1 * c.2.2 > c.2.1 * (strainM b N.nodes N.spans m).2)) (et_test (ev_op (ev_op (ev_var rfl) (ev_var rfl) (rv_I (mulW t1 c2 (by decide) (by decide) (by decide)))) (ev_op (ev_var rfl) (ev_var rfl) (rv_I (mulW c1 t2 (by decide) (by decide) (by decide)))) rv_I0)) (fun hb H8 e8 => ?_) (fun hb H8 e8 => ?_)
          · refine ⟨_, rfl, _, rfl, _, rfl, _, _, _, rfl, (m, strainM b N.nodes N.spans m), _, _, _, ?_, t1, t2, t3, rfl, (e6.trans e7).trans e8⟩
            rw [step]
            unfold worstStep
            rw [if_pos (of_decide_eq_true hb)]
          · refine ⟨c, _, _, _, ?_, c1, c2, c3, rfl, (e6.trans e7).trans e8⟩
            rw [step]
            unfold worstStep
            rw [if_neg (of_decide_eq_false hb)]
      · rintro σ' H' ⟨c, x0, y0, z0, hc, c1, c2, c3, rfl, e6⟩
        rw [List.length_map, List.take_length] at hc
        refine s_retL (el_cat1 (ev_var (v := .int (c.1 : Int)) rfl) (el_call (ea_cons (ev_var rfl) (ea_cons (ev_var rfl) ea_nil)) (l_told c3 (c2.mono (by decide)))) (by show 2 ≤ 1000; decide)) fun p H7 n7 e7 h7 => k p H7 ((e13.trans e6).fr ⟨n7, e7⟩) ?_
        have e8 : worstM N = (c.1 : Int) :: toldM c.2.1 c.2.2 := by
          unfold worstM
          rw [hl]
          dsimp only
          rw [hbm, ← hc]
        rw [e8]
        exact h7
def relLowest (N : MNet) (nums ans : List Int) : Prop := nums = [] ∧ ans = lowestM N
def spLowest (K : PySem.W.Frag) : Sp := spAsk K relLowest
theorem ok_lowest (T : Tx K mg) : OkD P w K mg base 4 "lowest" ["net", "numbers"] (spLowest K) := by
  refine T.ok 58 38 "lowest" 54 sc_lowest (fun vs H Q E h => ?_) (fun _ _ _ _ _ _ us hl => match us, hl with | [_, _], _ => rfl) (fun cdv A outer s H vs Q E hr h => ?_)
  · obtain ⟨_, _, _, _, _, _, _, rfl, _⟩ := h
    rfl
  · obtain ⟨a, l1, l2, na, N, nums, ans, rfl, hN, hI, hO, hA, hrel, k⟩ := h
    refine ⟨_, (pss_cons (ps_set (i := 2) sc_lowest.nd rfl (Or.inl rfl) (pe_callD (ok_balanced (K := K) T) (hr.mono (by decide)) (pa_cons (pe_fldK K (pv 0)) (pa_cons (pe_fldK K (pv 0)) pa_nil))))
        (pss_cons (ps_set (i := 3) sc_lowest.nd rfl (Or.inl rfl) (pe_callD (ok_hanging_knots (K := K) T) (hr.mono (by decide)) (pa_cons (pe_fldK K (pv 0)) (pa_cons (pe_fldK K (pv 2)) pa_nil))))
        (pss_cons (ps_if (pt_cmpR op_eq (pe_len K (T_len T) (pa_cons (pv 3) pa_nil)) pe_int (nomark _)) (pss_one (ps_ret (pe_lst (pa_cons (pe_const (T_AS_TOLD T)) pa_nil)))) pss_nil)
        (pss_cons (ps_set (i := 4) sc_lowest.nd rfl (Or.inl rfl) (pe_ixL K (pv 3) pe_int))
        (pss_cons (ps_for PassesOwn.never rfl (pi_listK K (pv 3)) (pg_name (i := 5) sc_lowest.nd rfl (Or.inl rfl)) (pss_one (ps_if (pt_cmpR op_lt (pe_ixL K (pe_ixL K (pe_fldK K (pv 2)) (pv 5)) pe_int) (pe_ixL K (pe_ixL K (pe_fldK K (pv 2)) (pv 4)) pe_int) (nomark _)) (pss_one (ps_set (i := 4) sc_lowest.nd rfl (Or.inl rfl) (pv 5))) pss_nil)))
        (pss_one (ps_ret (pe_op op_cat (pe_lst (pa_cons (pv 4) pa_nil)) (pe_callD (ok_told (K := K) T) (hr.mono (by decide)) (pa_cons (pe_ixL K (pe_ixL K (pe_fldK K (pv 2)) (pv 4)) pe_int) (pa_cons (pe_fldK K (pv 2)) pa_nil))))))))))), ?_⟩
    obtain ⟨rfl, rfl⟩ := hrel
    have hR := hA _ _ hO
    have hnl := hO.nl
    refine q_bal hN hO hA (e_nodes T hN (ev_var rfl)) (e_spans T hN (ev_var rfl)) fun v H1 e1 hB => ?_
    have hN1 := hN.mono e1
    obtain ⟨hq, hbl, kh⟩ := e_hangs T hB
    generalize hbm : balancedM N.nodes N.spans = b at hB hbl
    have hBo : BalOk b N.nodes N.spans := by rw [← hbm]; exact hR.bal
    refine q_asgL (el_call (ea_cons (e_nodes T hN1 (ev_var rfl)) (ea_cons (kh (Ex.refl _) (ev_var rfl)) ea_nil)) (l_knots hN1.nodes hbl hBo.hl hnl)) fun ka H2 hka e2 h2 => ?_
    have hkm : ∀ j ∈ knotsM N.nodes b.hangs, b.hang j = true := fun j hj => (knot_is hj).2.1
    cases hl : knotsM N.nodes b.hangs with
    | nil =>
      rw [hl] at h2
      refine q_when (b := true) (et_is (et_test (ev_op (ev_len2 (ev_var rfl) h2 rfl) ev_c (rv_eq rfl))) rfl) (fun hb H3 e3 => ?_) (fun hb H3 e3 => by cases hb)
      refine ret1 ev_c fun p H4 e4 h4 => k p H4 (((e1.trans e2).trans e3).fr e4) ?_
      unfold lowestM
      dsimp only
      rw [hbm, hl]
      exact h4
    | cons i0 r =>
      rw [hl] at h2 hkm
      refine q_when (b := false) (et_is (et_test (ev_op (ev_len2 (ev_var rfl) h2 rfl) ev_c (rv_eq rfl))) (decide_eq_false (fun q => by injection q with q; simp at q; omega))) (fun hb H3 e3 => by cases hb) (fun hb H3 e3 => ?_)
      refine q_asg (v := natV i0) (ev_op (ev_var rfl) ev_c (rv_ixL (SqL.of (e3 _ _ h2)) (atI_nat (j := 0) rfl))) fun H4 e4 => ?_
      have e14 := (e2.trans e3).trans e4
      have pz : ∀ {σ' : L2.St} {H' : Hp} {t : TE} {m : Nat}, Ex H1 H' → b.hang m = true → σ'[2]? = some (some v) → Ev t σ' H' (natV m) → Ev (tOp (rIxL K) (tOp (rIxL K) (tFld K (tVar 2) "places") t) (tC (.int 2))) σ' H' (.int ((b.at_ m).getD 2 0)) := fun {σ' H' t m} e hm s2 ht => by
        obtain ⟨p1, p2⟩ := hBo.at_ hm
        obtain ⟨q, hq, kq⟩ := e_place T hB p1
        exact ev_op (kq e (ev_var s2) ht) ev_c (rv_ixL (SqL.of (hq.mono e)) (atI_nat (j := 2) (il_at (p2.get 2 (by decide)).1)))
      refine q_forLn (xs := (i0 :: r).map natV) (ev_var rfl) (SqL.of ((e3.trans e4) _ _ h2)) (fun j σ' H' => ∃ (c : Nat) (x : Option V), c = ((i0 :: r).take j).foldl (fun c k => if (b.at_ k).getD 2 0 < (b.at_ c).getD 2 0 then k else c) i0 ∧ b.hang c = true ∧ σ' = [some (.ref a), some (.ref na), some v, some (.ref ka), some (natV c), x] ∧ Ex H2 H')
        (fun H5 e5 => ⟨i0, none, rfl, hkm i0 (by simp), rfl, (e3.trans e4).trans e5⟩) (fun j σ' H' _ ⟨_, _, _, _, _, e⟩ => SqL.of (e _ _ h2)) ?_ ?_
      · rintro j x σ' H' hx ⟨c, x0, hc, hcb, rfl, e6⟩
        rw [List.getElem?_map] at hx
        cases hjj : (i0 :: r)[j]? with
        | none => rw [hjj] at hx; cases hx
        | some m =>
          rw [hjj] at hx
          cases hx
          have hmb := hkm m (List.mem_of_getElem? hjj)
          have step : ((i0 :: r).take (j + 1)).foldl (fun c k => if (b.at_ k).getD 2 0 < (b.at_ c).getD 2 0 then k else c) i0 = if (b.at_ m).getD 2 0 < (b.at_ c).getD 2 0 then m else c := by
            rw [take_snoc hjj, List.foldl_append, ← hc]
            rfl
          refine s_when (b := decide ((b.at_ m).getD 2 0 < (b.at_ c).getD 2 0)) (et_test (ev_op (pz (e2.trans e6) hmb rfl (ev_var rfl)) (pz (e2.trans e6) hcb rfl (ev_var rfl)) rv_I0)) (fun hb H7 e7 => ?_) (fun hb H7 e7 => ?_)
          · refine s_asg (ev_var rfl) fun H8 e8 => ⟨m, some (natV m), ?_, hmb, rfl, (e6.trans e7).trans e8⟩
            rw [step, if_pos (of_decide_eq_true hb)]
          · refine ⟨c, some (natV m), ?_, hcb, rfl, e6.trans e7⟩
            rw [step, if_neg (of_decide_eq_false hb)]
      · rintro σ' H' ⟨c, x0, hc, hcb, rfl, e6⟩
        rw [List.length_map, List.take_length] at hc
        have e26 := e2.trans e6
        refine s_retL (el_cat1 (ev_var (v := .int (c : Int)) rfl) (el_call (ea_cons (pz e26 hcb rfl (ev_var rfl)) (ea_cons (e_bottom T (BalR.mon _ _ _ _ e26 hB) (ev_var rfl)) ea_nil)) (l_told hBo.pos (hBo.bb.mono (by decide)))) (by show 2 ≤ 1000; decide)) fun p H7 n7 e7 h7 => k p H7 ((e1.trans e26).fr ⟨n7, e7⟩) ?_
        have e8 : lowestM N = (c : Int) :: toldM ((b.at_ c).getD 2 0) b.bottom := by
          unfold lowestM
          dsimp only
          rw [hbm, hl]
          dsimp only
          rw [← hc]
        rw [e8]
        exact h7
def relAll (N : MNet) (nums ans : List Int) : Prop := nums = [] ∧ ans = allM N
def spAll (K : PySem.W.Frag) : Sp := spAsk K relAll
theorem ok_all_forces (T : Tx K mg) : OkD P w K mg base 4 "all_forces" ["net", "numbers"] (spAll K) := by
  refine T.ok 59 39 "all_forces" 55 sc_all_forces (fun vs H Q E h => ?_) (fun _ _ _ _ _ _ us hl => match us, hl with | [_, _], _ => rfl) (fun cdv A outer s H vs Q E hr h => ?_)
  · obtain ⟨_, _, _, _, _, _, _, rfl, _⟩ := h
    rfl
  · obtain ⟨a, l1, l2, na, N, nums, ans, rfl, hN, hI, hO, hA, hrel, k⟩ := h
    refine ⟨_, (pss_cons (ps_set (i := 2) sc_all_forces.nd rfl (Or.inr rfl) (pe_callD (ok_balanced (K := K) T) (hr.mono (by decide)) (pa_cons (pe_fldK K (pv 0)) (pa_cons (pe_fldK K (pv 0)) pa_nil))))
        (pss_cons (ps_setLc (i := 3) (own := [("i", 5)]) (g := gName 5) rfl sc_all_forces.nd rfl rfl (sw_true rfl rfl rfl (by decide +kernel)) (pi_rangeK (T_range T) (pa_cons (pe_len K (T_len T) (pa_cons (pe_fldK K (pv 0)) pa_nil)) pa_nil)) (blkOk_by (own := [("i", 5)]) (N := N_all_forces) (sc := defScope (top 55)) (by decide +kernel)) (fun _ _ _ _ _ => (pg_name (i := 5) sc_all_forces.nd rfl (Or.inl rfl))) (fun _ _ _ _ _ => (pts_one (pt_val (pe_fldK K (pe_ixL K (pe_fldK K (pv 0)) (pv 5)))))) (fun _ _ _ _ _ => (pv 5)))
        (pss_cons (ps_set (i := 4) sc_all_forces.nd rfl (Or.inl rfl) (pe_callD (ok_summed (K := K) T) (hr.mono (by decide)) (pa_cons (pe_lc (own := [("i", 5)]) (g := gName 5) (tt := tYes) rfl sc_all_forces.nd (pi_listK K (pv 3)) (blkOk_by (own := [("i", 5)]) (N := N_all_forces) (sc := defScope (top 55)) (by decide +kernel)) (fun _ _ _ _ _ => (pg_name (i := 5) sc_all_forces.nd rfl (Or.inl rfl))) (fun _ _ _ _ _ => pts_nil) (fun _ _ _ _ _ => (pe_callD (ok_force_at (K := K) T) (hr.mono (by decide)) (pa_cons (pv 2) (pa_cons (pe_fldK K (pv 0)) (pa_cons (pv 5) pa_nil)))))) pa_nil)))
        (pss_one (ps_ret (pe_op op_cat (pe_lst (pa_cons pe_int pa_nil)) (pe_callD (ok_told_vector (K := K) T) (hr.mono (by decide)) (pa_cons (pv 4) (pa_cons (pe_callD (ok_force_bottom (K := K) T) (hr.mono (by decide)) (pa_cons (pv 2) pa_nil)) pa_nil))))))))), ?_⟩
    obtain ⟨rfl, rfl⟩ := hrel
    have hR := hA _ _ hO
    have hnl := hO.nl
    refine q_bal hN hO hA (e_nodes T hN (ev_var rfl)) (e_spans T hN (ev_var rfl)) fun v H1 e1 hB => ?_
    have hN1 := hN.mono e1
    have hbu := hN1.bundle hO hA hB
    generalize hbm : balancedM N.nodes N.spans = b at hB hbu
    have hBo : BalOk b N.nodes N.spans := by rw [← hbm]; exact hR.bal
    refine q_asgL (xs := ((List.range N.nodes.length).filter fun i => (N.nodes.getD i default).fixed).map natV) (el_lc (src_range (n := N.nodes.length) (ea_cons (e_nlen T hN1 (ev_var rfl)) ea_nil) (by omega)) (fun i => (N.nodes.getD i default).fixed) natV (gName_mono 5) (by rw [List.length_range]; omega) ?_) fun fx H2 hfx e2 h2 => ?_
    · rintro j i it H2 H3 H4 hx e2 e3 ⟨rfl, rfl⟩
      obtain ⟨u, hu, ku⟩ := e_node T hN1 (node_at (range_lt hx))
      have e := e2.trans e3
      obtain ⟨q, dx, t, rfl, hq, ht⟩ := NodeR.mon _ _ _ _ e hu
      exact ⟨Ex.refl _, rfl, et_B (ev_fld (ku e (ev_var rfl) (ev_var rfl)) hq (C_Node T) (F_Node_fixed T) (l_fixed _ _)), fun _ => ev_var rfl⟩
    have lfx : ((List.range N.nodes.length).filter fun i => (N.nodes.getD i default).fixed).length ≤ 24 := by
      have := List.length_filter_le (fun i => (N.nodes.getD i default).fixed) (List.range N.nodes.length)
      rw [List.length_range] at this
      exact Nat.le_trans this hnl
    have hfm : ∀ i ∈ (List.range N.nodes.length).filter fun i => (N.nodes.getD i default).fixed, b.hang i = true := fun i hi => by
      obtain ⟨f1, f2⟩ := List.mem_filter.mp hi
      exact hBo.fix i _ (node_at (by simpa using f1)) f2
    have hal : allM N = 0 :: toldVecM (summedM (((List.range N.nodes.length).filter fun i => (N.nodes.getD i default).fixed).map (forceM b N.spans))) b.fb := by
      unfold allM
      dsimp only
      rw [hbm]
    generalize hF : (List.range N.nodes.length).filter (fun i => (N.nodes.getD i default).fixed) = F at h2 lfx hfm hal
    have hN2 := hN1.mono e2
    refine q_asgL (xs := (summedM (F.map (forceM b N.spans))).map V.int) (el_callN (elp_lc (src_nats (ev_var rfl) h2) (fun _ => true) (fun H' i v => RowR H' (forceM b N.spans i) v) (fun _ _ _ _ e r => RowR.mon _ _ _ _ e r) (gName_mono 5) (by omega) ?_) fun p zs H3 e3 h3 hP => ?_) fun tt H3 htt e3 h3 => ?_
    · rintro j i it H3 H4 H5 D hx e3 e4 hD ⟨rfl, rfl⟩
      have e := (e2.trans e3).trans e4
      exact ⟨Ex.refl _, rfl, et_yes, fun _ => evd_l (el_call (ea_cons (ev_var rfl) (ea_cons (e_spans T (hN1.mono e) (ev_var rfl)) (ea_cons (ev_var rfl) ea_nil))) (l_force (BalR.mon _ _ _ _ e hB) (hbu.mono e).sps hO hBo (hfm i (List.mem_of_getElem? hx)))) fun p H' hp => ⟨p, rfl, hp⟩⟩
    · rw [filter_true] at hP
      refine l_summed (l := F.map (forceM b N.spans)) ⟨zs, h3, paired_map (Paired.imp (fun _ _ r => RowR.mon _ _ _ _ (hide_ex p H3) r) hP)⟩ ?_ (by rw [List.length_map]; omega)
      intro u hu
      obtain ⟨i, hi, rfl⟩ := List.mem_map.mp hu
      exact (force_v3 hO hBo (hfm i hi)).len
    · have hs3 : (summedM (F.map (forceM b N.spans))).length = 3 := fold_len _ rfl
      have hB3 := BalR.mon _ _ _ _ (e2.trans e3) hB
      refine s_retL (el_cat1 ev_c (el_call (ea_cons (ev_var rfl) (ea_cons (ev_call (ea_cons (ev_var rfl) ea_nil) (v_fb hB3 hBo.bb)) ea_nil)) (l_toldVec h3 (by omega) hBo.fbpos (hBo.fbb.mono (by decide)))) (by rw [toldVec_len, hs3]; decide)) fun p H4 n4 e4 h4 => k p H4 (((e1.trans e2).trans e3).fr ⟨n4, e4⟩) ?_
      rw [hal]
      exact h4
theorem src_newL {α : Type} {tl : TE} {xs : List α} {f : α → V} (h : EvL tl σ H (xs.map f)) : Src (iList K tl) σ H xs fun H2 H3 x it H4 => H4 = H3 ∧ it = f x :=
  src_new (R := fun _ x v => v = f x) (fun _ _ _ _ _ r => r) (EvL.lp h fun _ => Paired.of_map (R := fun x v => v = f x) (f := f) (fun _ => rfl) _)
def relCounts (N : MNet) (nums ans : List Int) : Prop := nums = [] ∧ ans = countsM N
def spCounts (K : PySem.W.Frag) : Sp := spAsk K relCounts
theorem ok_counts (T : Tx K mg) : OkD P w K mg base 6 "counts" ["net", "numbers"] (spCounts K) := by
  refine T.ok 60 40 "counts" 56 sc_counts (fun vs H Q E h => ?_) (fun _ _ _ _ _ _ us hl => match us, hl with | [_, _], _ => rfl) (fun cdv A outer s H vs Q E hr h => ?_)
  · obtain ⟨_, _, _, _, _, _, _, rfl, _⟩ := h
    rfl
  · obtain ⟨a, l1, l2, na, N, nums, ans, rfl, hN, hI, hO, hA, hrel, k⟩ := h
    refine ⟨_, (pss_cons (ps_set (i := 2) sc_counts.nd rfl (Or.inl rfl) (pe_callD (ok_balanced (K := K) T) (hr.mono (by decide)) (pa_cons (pe_fldK K (pv 0)) (pa_cons (pe_fldK K (pv 0)) pa_nil))))
        (pss_cons (ps_setLc (i := 3) (own := [("span", 6)]) (g := gName 6) rfl sc_counts.nd rfl rfl (sw_true rfl rfl rfl (by decide +kernel)) (pi_listK K (pe_fldK K (pv 0))) (blkOk_by (own := [("span", 6)]) (N := N_counts) (sc := defScope (top 56)) (by decide +kernel)) (fun _ _ _ _ _ => (pg_name (i := 6) sc_counts.nd rfl (Or.inl rfl))) (fun _ _ _ _ _ => (pts_one (pt_val (pe_fldK K (pv 6))))) (fun _ _ _ _ _ => (pv 6)))
        (pss_cons (ps_set (i := 4) sc_counts.nd rfl (Or.inl rfl) (pe_callD (ok_hanging_knots (K := K) T) (hr.mono (by decide)) (pa_cons (pe_fldK K (pv 0)) (pa_cons (pe_fldK K (pv 2)) pa_nil))))
        (pss_cons (ps_setLc (i := 5) (own := [("fails", 7)]) (g := gName 7) rfl sc_counts.nd rfl rfl (sw_true rfl rfl rfl (by decide +kernel)) (pi_listK K (pe_callD (ok_failing (K := K) T) (hr.mono (by decide)) (pa_cons (pv 2) (pa_cons (pe_fldK K (pv 0)) (pa_cons (pe_fldK K (pv 0)) pa_nil))))) (blkOk_by (own := [("fails", 7)]) (N := N_counts) (sc := defScope (top 56)) (by decide +kernel)) (fun _ _ _ _ _ => (pg_name (i := 7) sc_counts.nd rfl (Or.inl rfl))) (fun _ _ _ _ _ => (pts_one (pt_val (pv 7)))) (fun _ _ _ _ _ => (pv 7)))
        (pss_one (ps_ret (pe_lst (pa_cons pe_int (pa_cons (pe_len K (T_len T) (pa_cons (pe_fldK K (pv 0)) pa_nil)) (pa_cons (pe_len K (T_len T) (pa_cons (pv 3) pa_nil)) (pa_cons (pe_len K (T_len T) (pa_cons (pv 4) pa_nil)) (pa_cons (pe_len K (T_len T) (pa_cons (pv 5) pa_nil)) pa_nil)))))))))))), ?_⟩
    obtain ⟨rfl, rfl⟩ := hrel
    have hR := hA _ _ hO
    have hnl := hO.nl
    have hsl := hO.sl
    refine q_bal hN hO hA (e_nodes T hN (ev_var rfl)) (e_spans T hN (ev_var rfl)) fun v H1 e1 hB => ?_
    have hN1 := hN.mono e1
    have hbu := hN1.bundle hO hA hB
    obtain ⟨hq, hbl, kh⟩ := e_hangs T hB
    obtain ⟨ys, hy, hp⟩ := hN1.spans
    refine u_asg (elp_lc (src_list SpanR.mon (e_spans T hN1 (ev_var rfl)) (SqL.of hy) hp) (fun s => s.there) (SpanR K) SpanR.mon (gName_mono 6) (by omega) ?_ H1 (Ex.refl _) _ fun d zs H2 hd e2 h2 hz => ?_)
    · rintro j s it H2 H3 H4 D hs e2 e3 hD ⟨rfl, r⟩
      obtain ⟨q, dx, rfl, hq⟩ := SpanR.mon _ _ _ _ e3 r
      exact ⟨Ex.refl _, rfl, et_B (ev_fld (ev_var rfl) hq (C_Span T) (F_Span_there T) (l_there _)), fun _ => evd_v (ev_var rfl) e3 hD fun H' e => SpanR.mon _ _ _ _ e r⟩
    have hN2 := hN1.mono e2
    generalize hbm : balancedM N.nodes N.spans = b at hB hbl hbu
    have hBo : BalOk b N.nodes N.spans := by rw [← hbm]; exact hR.bal
    refine q_asgL (el_call (ea_cons (e_nodes T hN2 (ev_var rfl)) (ea_cons (kh e2 (ev_var rfl)) ea_nil)) (l_knots hN2.nodes (hbl.mono e2) hBo.hl hnl)) fun ka H3 hka e3 h3 => ?_
    have hN3 := hN2.mono e3
    refine q_asgL (xs := ((failingM b N.nodes N.spans).filter id).map V.bl) (el_lc (src_newL (el_call (ea_cons (ev_var rfl) (ea_cons (e_nodes T hN3 (ev_var rfl)) (ea_cons (e_spans T hN3 (ev_var rfl)) ea_nil))) (l_failing (hbu.mono (e2.trans e3))))) id V.bl (gName_mono 7) (by simp [failingM]; omega) ?_) fun fl H4 hfl e4 h4 => ?_
    · rintro j x it H5 H6 H7 hx e5 e6 ⟨rfl, rfl⟩
      exact ⟨Ex.refl _, rfl, et_B (ev_var rfl), fun _ => ev_var rfl⟩
    have hN4 := hN3.mono e4
    have e34 := e3.trans e4
    refine s_retL (el_lst (ea_cons ev_c (ea_cons (e_nlen T hN4 (ev_var rfl)) (ea_cons (ev_len2 (ev_var rfl) (e34 _ _ h2) rfl) (ea_cons (ev_len2 (ev_var rfl) (e4 _ _ h3) rfl) (ea_cons (ev_len2 (ev_var rfl) h4 rfl) ea_nil))))) (by show 5 ≤ 100000; decide)) fun p H5 n5 e5 h5 => k p H5 ((((e1.trans e2).trans e3).trans e4).fr ⟨n5, e5⟩) ?_
    have e8 : countsM N = [0, (N.nodes.length : Int), ((N.spans.filter (·.there)).length : Int), ((knotsM N.nodes b.hangs).length : Int), (((failingM b N.nodes N.spans).filter id).length : Int)] := by
      unfold countsM
      dsimp only
      rw [hbm]
    rw [e8]
    rw [← Paired.len hz, List.length_map, List.length_map] at h5
    exact h5
end
end Wp


namespace Wp
open PySem PySem.Spec PyProof.Rows L2 Evl
open He (ga ma Fa DefD SaysD)
theorem strOk_bits {d : Int} (h : strOk d = true) : 0 ≤ d ∧ Bits 20 d := by
  unfold strOk at h
  rw [Bool.and_eq_true, decide_eq_true_eq, decide_eq_true_eq] at h
  refine ⟨h.1, Bits.of_le (m := 999999) (by omega) (by decide)⟩
theorem partOk_bits {d : Int} (h : partOk d = true) : Bits 17 d := by
  unfold partOk at h
  rw [Bool.and_eq_true, decide_eq_true_eq, decide_eq_true_eq] at h
  exact Bits.of_le (m := 99999) (by omega) (by decide)
theorem NetOk.with_ {nodes : List MNode} {l : List MSpan} (N : NetOk nodes l) {s : Nat} (hs : isSpanM l s = true) {d : Int} (hd : strOk d = true) : NetOk nodes (withDensityM l s d) := by
  obtain ⟨h1, h2⟩ := isSpan_at hs
  obtain ⟨b1, b2⟩ := strOk_bits hd
  refine ⟨N.nl, ?_, N.node, ?_⟩
  · unfold withDensityM
    rw [List.length_set]
    exact N.sl
  · intro x hx
    unfold withDensityM at hx
    rcases List.mem_or_eq_of_mem_set hx with h | rfl
    · exact N.span x h
    · obtain ⟨a, b, c, _⟩ := N.span _ (List.mem_of_getElem? h1)
      exact ⟨a, b, c, b1, b2⟩
theorem NetOk.without_ {nodes : List MNode} {l : List MSpan} (N : NetOk nodes l) {s : Nat} (hs : isSpanM l s = true) : NetOk nodes (withoutM l s) := by
  obtain ⟨h1, h2⟩ := isSpan_at hs
  refine ⟨N.nl, ?_, N.node, ?_⟩
  · unfold withoutM
    rw [List.length_set]
    exact N.sl
  · intro x hx
    unfold withoutM at hx
    rcases List.mem_or_eq_of_mem_set hx with h | rfl
    · exact N.span x h
    · obtain ⟨a, b, c, _⟩ := N.span _ (List.mem_of_getElem? h1)
      exact ⟨a, b, c, Int.le_refl 0, Bits.zero _⟩
section
variable {P : Program} {w : World} {K : PySem.W.Frag} {mg : Str → Option Value} {base : Heap} {σ : L2.St} {H : Hp} {ta : TA} {te ti : TE}
theorem q_balW {a l1 l2 : Addr} {N : MNet} {i s : Nat} {d : Int} {D : Ends} {tz : TS} {tn : TE} (hN : NetAt K H a l1 l2 N) (hs : s < N.spans.length) (hO : NetOk N.nodes N.spans) (hO2 : NetOk N.nodes (withDensityM N.spans s d)) (hA : AllReady) (h1 : Ev tn σ H (.ref l1)) (h2 : EvA ta σ H [.ref l2, natV s, .int d])
    (k : ∀ v H1, Ex H H1 → BalR K H1 (balancedM N.nodes (withDensityM N.spans s d)) v → tz D (σ.set i (some v)) H1) : tSeq (tAsg (tCall (spBalanced K) [] E0 (tCons tn (tCons (tCall (spWith K) [] E0 ta) tNil))) (gName i)) tz D σ H :=
  h1 H (Ex.refl H) _ fun H1 e1 => h2 H1 e1 _ fun H2 e2 => ⟨l2, N.spans, s, d, rfl, hN.spans.mono SpanR.mon (e1.trans e2), hO.sl, hs, fun p H3 hp e3 h3 => ⟨l1, p, N.nodes, _, rfl, hN.nodes.mono NodeR.mon ((e1.trans e2).trans e3), h3, hA _ _ hO2, fun v H4 e4 hB => k v H4 (((e1.trans e2).trans e3).trans e4) hB⟩⟩
theorem e_at {b : MBal} {u : V} {nodes : List MNode} {l : List MSpan} (T : Tx K mg) (B : BalOk b nodes l) {i x : Nat} (hi : b.hang i = true) (hx : x < 3) {tb tk : TE} (h : BalR K H b u) (hb : Ev tb σ H u) (hi2 : Ev ti σ H (natV i)) (hk : Ev tk σ H (natV x)) :
    Ev (tOp (rIxL K) (tOp (rIxL K) (tFld K tb "places") ti) tk) σ H (.int ((b.at_ i).getD x 0)) := by
  obtain ⟨p1, p2⟩ := B.at_ hi
  obtain ⟨q, hq, kq⟩ := e_place T h p1
  exact ev_op (kq (Ex.refl _) hb hi2) hk (rv_ixL (SqL.of hq) (atI_nat (il_at (p2.get x hx).1)))
theorem e_hangX {b : MBal} {u : V} {nodes : List MNode} {l : List MSpan} (T : Tx K mg) (B : BalOk b nodes l) {i : Nat} (hi : i < nodes.length) {tb : TE} (h : BalR K H b u) (hb : Ev tb σ H u) (hi2 : Ev ti σ H (natV i)) :
    Ev (tOp (rIxL K) (tFld K tb "hangs") ti) σ H (.bl (b.hang i)) := e_hang T h (by rw [B.hl]; exact hi) hb hi2
theorem v3_len {f : Nat → Int} : ((List.range 3).map f).length = 3 := rfl
def relWould (N : MNet) (nums ans : List Int) : Prop := ∃ (s i : Nat) (d : Int), nums = [(s : Int), d, (i : Int)] ∧ ans = wouldM N s d i
def spWould (K : PySem.W.Frag) : Sp := spAsk K relWould
theorem ok_would (T : Tx K mg) : OkD P w K mg base 4 "would" ["net", "numbers"] (spWould K) := by
  refine T.ok 70 50 "would" 68 sc_would (fun vs H Q E h => ?_) (fun _ _ _ _ _ _ us hl => match us, hl with | [_, _], _ => rfl) (fun cdv A outer s H vs Q E hr h => ?_)
  · obtain ⟨_, _, _, _, _, _, _, rfl, _⟩ := h
    rfl
  · obtain ⟨a, l1, l2, na, N, nums, ans, rfl, hN, hI, hO, hA, hrel, k⟩ := h
    refine ⟨_, (pss_cons (ps_asg (pv 1) (pg_unlK K (n := 3) (pgs_cons (pg_name (i := 2) sc_would.nd rfl (Or.inl rfl)) (pgs_cons (pg_name (i := 3) sc_would.nd rfl (Or.inl rfl)) (pgs_cons (pg_name (i := 4) sc_would.nd rfl (Or.inr rfl)) pgs_nil)))))
        (pss_cons (ps_if (pt_not (pt_val (pe_callD (ok_strength_may_be (K := K) T) (hr.mono (by decide)) (pa_cons (pv 3) pa_nil)))) (pss_one (ps_ret (pe_lst (pa_cons (pe_const (T_NOT_SO T)) pa_nil)))) pss_nil)
        (pss_cons (ps_if (PW.pt (pw_or (pt_not (pt_val (pe_callD (ok_is_span (K := K) T) (hr.mono (by decide)) (pa_cons (pv 0) (pa_cons (pv 2) pa_nil))))) (pw_or1 (pt_not (pt_val (pe_callD (ok_is_node (K := K) T) (hr.mono (by decide)) (pa_cons (pv 0) (pa_cons (pv 4) pa_nil)))))))) (pss_one (ps_ret (pe_lst (pa_cons (pe_const (T_NO_SUCH T)) pa_nil)))) pss_nil)
        (pss_cons (ps_set (i := 5) sc_would.nd rfl (Or.inr rfl) (pe_callD (ok_balanced (K := K) T) (hr.mono (by decide)) (pa_cons (pe_fldK K (pv 0)) (pa_cons (pe_fldK K (pv 0)) pa_nil))))
        (pss_cons (ps_set (i := 6) sc_would.nd rfl (Or.inr rfl) (pe_callD (ok_balanced (K := K) T) (hr.mono (by decide)) (pa_cons (pe_fldK K (pv 0)) (pa_cons (pe_callD (ok_with_density (K := K) T) (hr.mono (by decide)) (pa_cons (pe_fldK K (pv 0)) (pa_cons (pv 2) (pa_cons (pv 3) pa_nil)))) pa_nil))))
        (pss_cons (ps_if (PW.pt (pw_or (pt_not (pt_val (pe_ixL K (pe_fldK K (pv 5)) (pv 4)))) (pw_or1 (pt_not (pt_val (pe_ixL K (pe_fldK K (pv 6)) (pv 4))))))) (pss_one (ps_ret (pe_lst (pa_cons (pe_const (T_AS_TOLD T)) pa_nil)))) pss_nil)
        (pss_cons (ps_setLc (i := 7) (own := [("axis", 8)]) (g := gName 8) (tt := tYes) rfl sc_would.nd rfl rfl (sw_true rfl rfl rfl (by decide +kernel)) (pi_rangeK (T_range T) (pa_cons pe_int pa_nil)) (blkOk_by (own := [("axis", 8)]) (N := N_would) (sc := defScope (top 68)) (by decide +kernel)) (fun _ _ _ _ _ => (pg_name (i := 8) sc_would.nd rfl (Or.inl rfl))) (fun _ _ _ _ _ => pts_nil) (fun _ _ _ _ _ => (pe_op op_sub (pe_op op_mulW (pe_ixL K (pe_ixL K (pe_fldK K (pv 6)) (pv 4)) (pv 8)) (pe_fldK K (pv 5))) (pe_op op_mulW (pe_ixL K (pe_ixL K (pe_fldK K (pv 5)) (pv 4)) (pv 8)) (pe_fldK K (pv 6))))))
        (pss_one (ps_ret (pe_op op_cat (pe_lst (pa_cons pe_int pa_nil)) (pe_callD (ok_told_vector (K := K) T) (hr.mono (by decide)) (pa_cons (pv 7) (pa_cons (pe_op op_mulW (pe_fldK K (pv 5)) (pe_fldK K (pv 6))) pa_nil))))))))))))), ?_⟩
    obtain ⟨s', i, d, rfl, rfl⟩ := hrel
    have hR := hA _ _ hO
    refine ⟨_, rfl, na, _, rfl, SqL.of hI, rfl, ?_⟩
    refine ⟨_, _, rfl, _, _, rfl, _, _, rfl, rfl, ?_⟩
    refine q_when (et_not (et_B (ev_call (ea_cons (ev_var rfl) ea_nil) v_strength))) (fun hb H1 e1 => ?_) (fun hb H1 e1 => ?_)
    · have hd : strOk d = false := by simpa using hb
      refine ret1 ev_c fun p H2 e2 h2 => k p H2 (e1.fr e2) ?_
      unfold wouldM
      rw [if_pos hd]
      exact h2
    have hd : strOk d = true := by simpa using hb
    have hN1 := hN.mono e1
    refine q_when (et_or (et_not (et_B (ev_call (ea_cons (ev_var rfl) (ea_cons (ev_var (v := natV s') rfl) ea_nil)) (v_isSpan hN1)))) fun _ => et_not (et_B (ev_call (ea_cons (ev_var rfl) (ea_cons (ev_var (v := natV i) rfl) ea_nil)) (v_isNode hN1)))) (fun hb2 H2 e2 => ?_) (fun hb2 H2 e2 => ?_)
    · have h1 : (isSpanM N.spans s' && decide (i < N.nodes.length)) = false := by
        cases h1 : isSpanM N.spans s' <;> cases h2 : decide (i < N.nodes.length) <;> simp_all
      refine ret1 ev_c fun p H3 e3 h3 => k p H3 ((e1.trans e2).fr e3) ?_
      unfold wouldM
      rw [if_neg (by rw [hd]; decide), if_pos h1]
      exact h3
    have h1 : isSpanM N.spans s' = true ∧ i < N.nodes.length := by simpa using hb2
    obtain ⟨hs, hi⟩ := h1
    obtain ⟨hsp, hsl⟩ := isSpan_at hs
    have hO2 := hO.with_ hs hd
    have hR2 := hA _ _ hO2
    have hN2 := hN1.mono e2
    have e12 := e1.trans e2
    refine q_bal hN2 hO hA (e_nodes T hN2 (ev_var rfl)) (e_spans T hN2 (ev_var rfl)) fun v H3 e3 hB => ?_
    have hN3 := hN2.mono e3
    refine q_balW (s := s') (d := d) hN3 hsl hO hO2 hA (e_nodes T hN3 (ev_var rfl)) (ea_cons (e_spans T hN3 (ev_var rfl)) (ea_cons (ev_var rfl) (ea_cons (ev_var rfl) ea_nil))) fun u H4 e4 hU => ?_
    have hwm : wouldM N s' d i = (let b := balancedM N.nodes N.spans
    let t := balancedM N.nodes (withDensityM N.spans s' d)
    if (b.hang i && t.hang i) = false then [-7] else
      0 :: toldVecM ((List.range 3).map fun k => (t.at_ i).getD k 0 * b.bottom - (b.at_ i).getD k 0 * t.bottom) (b.bottom * t.bottom)) := by
      unfold wouldM
      rw [if_neg (by rw [hd]; decide), if_neg (by rw [hs, decide_eq_true hi]; decide)]
    rw [hwm] at k
    dsimp only at k
    have hB4 := BalR.mon _ _ _ _ e4 hB
    have hb1 := hR.bal
    have hb2 := hR2.bal
    generalize balancedM N.nodes N.spans = b at hB hB4 hb1 k
    generalize balancedM N.nodes (withDensityM N.spans s' d) = t at hU hb2 k
    have e14 := (e12.trans e3).trans e4
    refine q_when (et_or (et_not (et_B (e_hangX T hb1 hi hB4 (ev_var rfl) (ev_var rfl)))) fun _ => et_not (et_B (e_hangX T hb2 hi hU (ev_var rfl) (ev_var rfl)))) (fun hc H5 e5 => ?_) (fun hc H5 e5 => ?_)
    · have h1 : (b.hang i && t.hang i) = false := by
        cases h1 : b.hang i <;> cases h2 : t.hang i <;> simp_all
      rw [if_pos h1] at k
      exact ret1 ev_c fun p H6 e6 h6 => k p H6 ((e14.trans e5).fr e6) h6
    have h1 : b.hang i = true ∧ t.hang i = true := by simpa using hc
    obtain ⟨g1, g2⟩ := h1
    rw [if_neg (by rw [g1, g2]; decide)] at k
    refine q_asgL (xs := ((List.range 3).map fun k => (t.at_ i).getD k 0 * b.bottom - (b.at_ i).getD k 0 * t.bottom).map V.int) (el_is (el_lc (src_range (n := 3) (ea_cons ev_c ea_nil) (by decide)) (fun _ => true) (fun x => V.int ((t.at_ i).getD x 0 * b.bottom - (b.at_ i).getD x 0 * t.bottom)) (gName_mono 8) (by decide) ?_) (by rw [filter_true, List.map_map]; rfl)) fun mv H6 hmv e6 h6 => ?_
    · rintro j x it H6 H7 H8 hx e6 e7 ⟨rfl, rfl⟩
      have hx3 := range_lt hx
      have e := (e5.trans e6).trans e7
      have hB8 := BalR.mon _ _ _ _ e hB4
      have hU8 := BalR.mon _ _ _ _ e hU
      exact ⟨Ex.refl _, rfl, et_yes, fun _ => ev_op (ev_op (e_at T hb2 g2 hx3 hU8 (ev_var rfl) (ev_var rfl) (ev_var rfl)) (e_bottom T hB8 (ev_var rfl)) (rv_I (mulW ((hb2.at_ g2).2.get x hx3).2 hb1.bb (by decide) (by decide) (by decide)))) (ev_op (e_at T hb1 g1 hx3 hB8 (ev_var rfl) (ev_var rfl) (ev_var rfl)) (e_bottom T hU8 (ev_var rfl)) (rv_I (mulW ((hb1.at_ g1).2.get x hx3).2 hb2.bb (by decide) (by decide) (by decide)))) rv_I0⟩
    · have e := e5.trans e6
      have hB6 := BalR.mon _ _ _ _ e hB4
      have hU6 := BalR.mon _ _ _ _ e hU
      refine s_retL (el_cat1 ev_c (el_call (ea_cons (ev_var rfl) (ea_cons (ev_op (e_bottom T hB6 (ev_var rfl)) (e_bottom T hU6 (ev_var rfl)) (rv_I (mulW hb1.bb hb2.bb (by decide) (by decide) (by decide)))) ea_nil)) (l_toldVec h6 (by rw [v3_len]; decide) (Int.mul_pos hb1.pos hb2.pos) ((hb1.bb.mul hb2.bb).mono (by decide)))) (by rw [toldVec_len, v3_len]; decide)) fun p H7 n7 e7 h7 => k p H7 ((e14.trans e).fr ⟨n7, e7⟩) h7
theorem foldSet_bits {k : Nat} (f : List Int → Int) : ∀ (l : List (Nat × List Int)) (p : List Int), (∀ x ∈ l, Bits k (f x.2)) → (∀ z ∈ p, Bits k z) → ∀ z ∈ l.foldl (fun p x => p.set x.1 (f x.2)) p, Bits k z
  | [], _, _, h => h
  | x :: l, p, h1, h => by
    rw [List.foldl_cons]
    refine foldSet_bits f l _ (fun y hy => h1 y (List.mem_cons_of_mem _ hy)) fun z hz => ?_
    rcases List.mem_or_eq_of_mem_set hz with h2 | rfl
    · exact h z h2
    · exact h1 x (by simp)
theorem getD_bits {k : Nat} {l : List Int} (h : ∀ z ∈ l, Bits k z) (i : Nat) : Bits k (l.getD i 0) := by
  by_cases hi : i < l.length
  · rw [show l.getD i 0 = l[i] by simp [List.getD, List.getElem?_eq_getElem hi]]
    exact h _ (List.getElem_mem hi)
  · rw [show l.getD i 0 = 0 by simp [List.getD, List.getElem?_eq_none (Nat.le_of_not_lt hi)]]
    exact Bits.zero _
theorem sways_len (nodes : List MNode) (l : List MSpan) (h : List Bool) (p : MSpan) : (swaysM nodes l h p).length = nodes.length := by
  unfold swaysM
  dsimp only
  rw [foldSet_len (fun (x : List Int) => x.getD 0 0), List.length_replicate]
theorem sways_bits {nodes : List MNode} {l : List MSpan} (R : Ready nodes l) (p : MSpan) (i : Nat) : Bits 2000 ((swaysM nodes l (hangM nodes l) p).getD i 0) := by
  refine getD_bits ?_ i
  have hS := R.sway p
  have hf := foldSet_bits (k := 2000) (fun x => x.getD 0 0) ((knotsM nodes (hangM nodes l)).zip (solvedM (swayRows nodes l (knotsM nodes (hangM nodes l)) p)).2) (List.replicate nodes.length 0) (fun x hx => ?_) (fun z hz => by rw [List.eq_of_mem_replicate hz]; exact Bits.zero _)
  · exact hf
  · have h2 := (List.of_mem_zip hx).2
    have hr' : x.2 ∈ (stateAt (swayRows nodes l (knotsM nodes (hangM nodes l)) p) (swayRows nodes l (knotsM nodes (hangM nodes l)) p).length).1.map fun row => row.drop (swayRows nodes l (knotsM nodes (hangM nodes l)) p).length := h2
    obtain ⟨r, hr, e⟩ := List.mem_map.mp hr'
    refine getD_bits (fun z hz => hS.bits _ (Nat.le_refl _) r hr z ?_) 0
    rw [← e] at hz
    exact List.mem_of_mem_drop hz
theorem nat_at {l : List Int} {i : Nat} (h : i < l.length) : l[i]? = some (l.getD i 0) := by simp [List.getD, List.getElem?_eq_getElem h]
theorem growth_bits {N : MNet} (R : Ready N.nodes N.spans) {p : MSpan} {i axis : Nat} {c : Int} (hx : axis < 3) (hi : (balancedM N.nodes N.spans).hang i = true) (ha : (balancedM N.nodes N.spans).hang p.a = true) (hb : (balancedM N.nodes N.spans).hang p.b = true) (hc : Bits 17 c) :
    Bits 2018 (c * (balancedM N.nodes N.spans).bottom) ∧ Bits 2019 (((balancedM N.nodes N.spans).at_ i).getD axis 0 - c * (balancedM N.nodes N.spans).bottom) ∧ Bits 2001 (((balancedM N.nodes N.spans).at_ p.a).getD axis 0 - ((balancedM N.nodes N.spans).at_ p.b).getD axis 0) := by
  have B := R.bal
  have h1 : Bits 2018 (c * (balancedM N.nodes N.spans).bottom) := (hc.mul B.bb).mono (by decide)
  exact ⟨h1, (((B.at_ hi).2.get axis hx).2.mono (by decide : 2000 ≤ 2018)).sub h1, ((B.at_ ha).2.get axis hx).2.sub ((B.at_ hb).2.get axis hx).2⟩
def spGrowth (K : PySem.W.Frag) : Sp := fun vs H Q _ => ∃ (a l1 l2 : Addr) (N : MNet) (v u : V) (p : MSpan) (i axis : Nat) (c : Int), vs = [.ref a, v, u, natV i, natV axis, .int c] ∧ NetAt K H a l1 l2 N ∧ NetOk N.nodes N.spans ∧ Ready N.nodes N.spans ∧ BalR K H (balancedM N.nodes N.spans) v ∧ SpanR K H p u ∧ p.a < N.nodes.length ∧ p.b < N.nodes.length ∧ i < N.nodes.length ∧ axis < 3 ∧ (balancedM N.nodes N.spans).hang i = true ∧ (balancedM N.nodes N.spans).hang p.a = true ∧ (balancedM N.nodes N.spans).hang p.b = true ∧ Bits 17 c ∧
  ∀ t H', Ex H H' → H' t = some (.tup [.int (growthM N (balancedM N.nodes N.spans) p i axis c).1, .int (growthM N (balancedM N.nodes N.spans) p i axis c).2]) → Q (.ref t) H'
theorem ok_growth (T : Tx K mg) : OkD P w K mg base 4 "growth" ["net", "balance", "span", "i", "axis", "c"] (spGrowth K) := by
  refine T.ok 72 52 "growth" 70 sc_growth (fun vs H Q E h => ?_) (fun _ _ _ _ _ _ us hl => match us, hl with | [_, _, _, _, _, _], _ => rfl) (fun cdv A outer s H vs Q E hr h => ?_)
  · obtain ⟨_, _, _, _, _, _, _, _, _, _, rfl, _⟩ := h
    rfl
  · obtain ⟨a, l1, l2, N, v, u, p, i, axis, c, rfl, hN, hO, hR, hB, hu, la, lb, li, lx, gi, ga, gb, hc, k⟩ := h
    refine ⟨_, (pss_cons (ps_set (i := 6) sc_growth.nd rfl (Or.inl rfl) (pe_callD (ok_sways (K := K) T) (hr.mono (by decide)) (pa_cons (pe_fldK K (pv 0)) (pa_cons (pe_fldK K (pv 0)) (pa_cons (pe_fldK K (pv 1)) (pa_cons (pv 2) pa_nil))))))
        (pss_cons (ps_set (i := 7) sc_growth.nd rfl (Or.inl rfl) (pe_op op_sub (pe_ixL K (pv 6) (pe_fldK K (pv 2))) (pe_ixL K (pv 6) (pe_fldK K (pv 2)))))
        (pss_cons (ps_set (i := 8) sc_growth.nd rfl (Or.inl rfl) (pe_op op_sub (pe_ixL K (pe_ixL K (pe_fldK K (pv 1)) (pe_fldK K (pv 2))) (pv 4)) (pe_ixL K (pe_ixL K (pe_fldK K (pv 1)) (pe_fldK K (pv 2))) (pv 4))))
        (pss_cons (ps_set (i := 9) sc_growth.nd rfl (Or.inl rfl) (pe_op op_sub (pe_ixL K (pe_ixL K (pe_fldK K (pv 1)) (pv 3)) (pv 4)) (pe_op op_mulW (pv 5) (pe_fldK K (pv 1)))))
        (pss_one (ps_ret (pe_tup (pa_cons (pe_op op_mulW (pv 9) (pe_fldK K (pv 1))) (pa_cons (pe_op op_sub (pe_op op_mulW (pe_ixL K (pv 6) (pv 3)) (pv 8)) (pe_op op_mulW (pv 7) (pv 9))) pa_nil))))))))), ?_⟩
    have B := hR.bal
    obtain ⟨q, dx, rfl, hq⟩ := hu
    obtain ⟨hh, hbl, kh⟩ := e_hangs T hB
    have hbh : BL H hh (hangM N.nodes N.spans) := hbl
    have hwl := sways_len N.nodes N.spans (hangM N.nodes N.spans) p
    have hwb := sways_bits hR p
    obtain ⟨c1, c2, c3⟩ := growth_bits hR lx gi ga gb hc
    refine q_asgL (el_call (ea_cons (e_nodes T hN (ev_var rfl)) (ea_cons (e_spans T hN (ev_var rfl)) (ea_cons (kh (Ex.refl _) (ev_var rfl)) (ea_cons (ev_var rfl) ea_nil)))) (l_sways hN.nodes hN.spans hbh ⟨q, dx, rfl, hq⟩ hR)) fun wl H1 hw e1 h1 => ?_
    have hgm : growthM N (balancedM N.nodes N.spans) p i axis c = ((((balancedM N.nodes N.spans).at_ i).getD axis 0 - c * (balancedM N.nodes N.spans).bottom) * (balancedM N.nodes N.spans).bottom, (swaysM N.nodes N.spans (hangM N.nodes N.spans) p).getD i 0 * (((balancedM N.nodes N.spans).at_ p.a).getD axis 0 - ((balancedM N.nodes N.spans).at_ p.b).getD axis 0) - ((swaysM N.nodes N.spans (hangM N.nodes N.spans) p).getD p.a 0 - (swaysM N.nodes N.spans (hangM N.nodes N.spans) p).getD p.b 0) * (((balancedM N.nodes N.spans).at_ i).getD axis 0 - c * (balancedM N.nodes N.spans).bottom)) := rfl
    rw [hgm] at k
    generalize swaysM N.nodes N.spans (hangM N.nodes N.spans) p = ways at hwl hwb h1 k
    have wat : ∀ {j : Nat}, j < N.nodes.length → ways[j]? = some (ways.getD j 0) := fun {j} hj => nat_at (by omega)
    generalize balancedM N.nodes N.spans = b at hB B gi ga gb c1 c2 c3 k
    have f1 : ∀ {σ' : L2.St} {H' : Hp}, Ex H H' → σ'[2]? = some (some (.ref q)) → Ev (tFld K (tVar 2) "first") σ' H' (natV p.a) := fun e s2 => ev_fld (ev_var s2) (e _ _ hq) (C_Span T) (F_Span_first T) (l_first _)
    have f2 : ∀ {σ' : L2.St} {H' : Hp}, Ex H H' → σ'[2]? = some (some (.ref q)) → Ev (tFld K (tVar 2) "second") σ' H' (natV p.b) := fun e s2 => ev_fld (ev_var s2) (e _ _ hq) (C_Span T) (F_Span_second T) (l_second _)
    refine q_asg (ev_op (ev_op (ev_var rfl) (f1 e1 rfl) (rv_ixL (SqL.of h1) (atI_nat (il_at (wat la))))) (ev_op (ev_var rfl) (f2 e1 rfl) (rv_ixL (SqL.of h1) (atI_nat (il_at (wat lb))))) rv_I0) fun H2 e2 => ?_
    have e12 := e1.trans e2
    have hB2 := BalR.mon _ _ _ _ e12 hB
    refine q_asg (ev_op (e_at T B ga lx hB2 (ev_var rfl) (f1 e12 rfl) (ev_var rfl)) (e_at T B gb lx hB2 (ev_var rfl) (f2 e12 rfl) (ev_var rfl)) rv_I0) fun H3 e3 => ?_
    have hB3 := BalR.mon _ _ _ _ e3 hB2
    refine q_asg (ev_op (e_at T B gi lx hB3 (ev_var rfl) (ev_var rfl) (ev_var rfl)) (ev_op (ev_var rfl) (e_bottom T hB3 (ev_var rfl)) (rv_I (mulW hc B.bb (by decide) (by decide) (by decide)))) rv_I0) fun H4 e4 => ?_
    have hB4 := BalR.mon _ _ _ _ e4 hB3
    have e24 := (e2.trans e3).trans e4
    refine s_retU (eu_tup (ea_cons (ev_op (ev_var rfl) (e_bottom T hB4 (ev_var rfl)) (rv_I (mulW c2 B.bb (by decide) (by decide) (by decide)))) (ea_cons (ev_op (ev_op (ev_op (ev_var rfl) (ev_var rfl) (rv_ixL (SqL.of (e24 _ _ h1)) (atI_nat (il_at (wat li))))) (ev_var rfl) (rv_I (mulW (hwb i) c3 (by decide) (by decide) (by decide)))) (ev_op (ev_var rfl) (ev_var rfl) (rv_I (mulW ((hwb p.a).sub (hwb p.b)) c2 (by decide) (by decide) (by decide)))) rv_I0) ea_nil)) (by show 2 ≤ 100000; decide)) fun t H5 _ e5 h5 => k t H5 ((e1.trans e24).trans e5) h5
theorem r_growth {a l1 l2 : Addr} {N : MNet} {v u : V} {p : MSpan} {i axis : Nat} {c : Int} (h : EvA ta σ H [.ref a, v, u, natV i, natV axis, .int c]) (hN : NetAt K H a l1 l2 N) (hO : NetOk N.nodes N.spans) (hR : Ready N.nodes N.spans) (hB : BalR K H (balancedM N.nodes N.spans) v) (hu : SpanR K H p u) (la : p.a < N.nodes.length) (lb : p.b < N.nodes.length) (li : i < N.nodes.length) (lx : axis < 3) (gi : (balancedM N.nodes N.spans).hang i = true) (g1 : (balancedM N.nodes N.spans).hang p.a = true) (gb : (balancedM N.nodes N.spans).hang p.b = true) (hc : Bits 17 c) :
    ∀ H1, Ex H H1 → ∀ Q : VK, (∀ t H2, Ex H1 H2 → H2 t = some (.tup [.int (growthM N (balancedM N.nodes N.spans) p i axis c).1, .int (growthM N (balancedM N.nodes N.spans) p i axis c).2]) → Q (.ref t) H2) → tCall (spGrowth K) [] E0 ta σ H1 Q := fun H1 e Q q => h H1 e _ fun H2 e2 =>
  ⟨a, l1, l2, N, v, u, p, i, axis, c, rfl, hN.mono (e.trans e2), hO, hR, BalR.mon _ _ _ _ (e.trans e2) hB, SpanR.mon _ _ _ _ (e.trans e2) hu, la, lb, li, lx, gi, g1, gb, hc, fun t H3 e3 h => q t H3 (e2.trans e3) h⟩
theorem growthM_bits {N : MNet} (R : Ready N.nodes N.spans) {p : MSpan} {i axis : Nat} {c : Int} (hx : axis < 3) (hi : (balancedM N.nodes N.spans).hang i = true) (ha : (balancedM N.nodes N.spans).hang p.a = true) (hb : (balancedM N.nodes N.spans).hang p.b = true) (hc : Bits 17 c) :
    Bits 4100 (growthM N (balancedM N.nodes N.spans) p i axis c).1 ∧ Bits 4100 (growthM N (balancedM N.nodes N.spans) p i axis c).2 := by
  obtain ⟨c1, c2, c3⟩ := growth_bits R hx hi ha hb hc
  have w := sways_bits R p
  exact ⟨(c2.mul R.bal.bb).mono (by decide), ((((w i).mul c3).mono (by decide : 2000 + 2001 ≤ 4090)).sub ((((w p.a).sub (w p.b)).mul c2).mono (by decide))).mono (by decide)⟩
theorem abs_nat (x : Int) : (if x < 0 then -x else x) = (x.natAbs : Int) := by split <;> omega
def relReach (N : MNet) (nums ans : List Int) : Prop := ∃ (s i axis : Nat) (c : Int), nums = [(s : Int), (i : Int), (axis : Int), c] ∧ ans = reachM N s i axis c
def spReach (K : PySem.W.Frag) : Sp := spAsk K relReach
theorem ok_reach (T : Tx K mg) : OkD P w K mg base 5 "reach" ["net", "numbers"] (spReach K) := by
  refine T.ok 71 51 "reach" 69 sc_reach (fun vs H Q E h => ?_) (fun _ _ _ _ _ _ us hl => match us, hl with | [_, _], _ => rfl) (fun cdv A outer s H vs Q E hr h => ?_)
  · obtain ⟨_, _, _, _, _, _, _, rfl, _⟩ := h
    rfl
  · obtain ⟨a, l1, l2, na, N, nums, ans, rfl, hN, hI, hO, hA, hrel, k⟩ := h
    refine ⟨_, (pss_cons (ps_asg (pv 1) (pg_unlK K (n := 4) (pgs_cons (pg_name (i := 2) sc_reach.nd rfl (Or.inl rfl)) (pgs_cons (pg_name (i := 3) sc_reach.nd rfl (Or.inl rfl)) (pgs_cons (pg_name (i := 4) sc_reach.nd rfl (Or.inl rfl)) (pgs_cons (pg_name (i := 5) sc_reach.nd rfl (Or.inl rfl)) pgs_nil))))))
        (pss_cons (ps_if (PW.pt (pw_or (pt_cmpR op_gt (pv 4) pe_int (nomark _)) (pw_or1 (pt_not (pt_val (pe_callD (ok_part_may_be (K := K) T) (hr.mono (by decide)) (pa_cons (pv 5) pa_nil))))))) (pss_one (ps_ret (pe_lst (pa_cons (pe_const (T_NOT_SO T)) pa_nil)))) pss_nil)
        (pss_cons (ps_if (PW.pt (pw_or (pt_not (pt_val (pe_callD (ok_is_span (K := K) T) (hr.mono (by decide)) (pa_cons (pv 0) (pa_cons (pv 2) pa_nil))))) (pw_or1 (pt_not (pt_val (pe_callD (ok_is_node (K := K) T) (hr.mono (by decide)) (pa_cons (pv 0) (pa_cons (pv 3) pa_nil)))))))) (pss_one (ps_ret (pe_lst (pa_cons (pe_const (T_NO_SUCH T)) pa_nil)))) pss_nil)
        (pss_cons (ps_set (i := 6) sc_reach.nd rfl (Or.inl rfl) (pe_callD (ok_balanced (K := K) T) (hr.mono (by decide)) (pa_cons (pe_fldK K (pv 0)) (pa_cons (pe_fldK K (pv 0)) pa_nil))))
        (pss_cons (ps_set (i := 7) sc_reach.nd rfl (Or.inl rfl) (pe_ixL K (pe_fldK K (pv 0)) (pv 2)))
        (pss_cons (ps_if (PW.pt (pw_or (pt_not (pt_val (pe_ixL K (pe_fldK K (pv 6)) (pv 3)))) (pw_or (pt_not (pt_val (pe_ixL K (pe_fldK K (pv 6)) (pe_fldK K (pv 7))))) (pw_or1 (pt_not (pt_val (pe_ixL K (pe_fldK K (pv 6)) (pe_fldK K (pv 7))))))))) (pss_one (ps_ret (pe_lst (pa_cons (pe_const (T_AS_TOLD T)) pa_nil)))) pss_nil)
        (pss_cons (ps_if (pt_cmpR op_eq (pe_ixL K (pe_ixL K (pe_fldK K (pv 6)) (pv 3)) (pv 4)) (pe_op op_mulW (pv 5) (pe_fldK K (pv 6))) (nomark _)) (pss_one (ps_ret (pe_lst (pa_cons pe_int (pa_cons pe_int (pa_cons pe_int pa_nil)))))) pss_nil)
        (pss_cons (ps_asg (pe_callD (ok_growth (K := K) T) (hr.mono (by decide)) (pa_cons (pv 0) (pa_cons (pv 6) (pa_cons (pv 7) (pa_cons (pv 3) (pa_cons (pv 4) (pa_cons (pv 5) pa_nil))))))) (pg_tupK K (n := 2) (pgs_cons (pg_name (i := 8) sc_reach.nd rfl (Or.inl rfl)) (pgs_cons (pg_name (i := 9) sc_reach.nd rfl (Or.inl rfl)) pgs_nil))))
        (pss_cons (ps_if (PW.pt (pw_or (pt_cmpR op_eq (pv 9) pe_int (nomark _)) (pw_or1 (pt_cmpR op_lt (pe_op op_mulW (pv 8) (pv 9)) pe_int (nomark _))))) (pss_one (ps_ret (pe_lst (pa_cons (pe_const (T_AS_TOLD T)) pa_nil)))) pss_nil)
        (pss_one (ps_ret (pe_op op_cat (pe_lst (pa_cons pe_int pa_nil)) (pe_callD (ok_told (K := K) T) (hr.mono (by decide)) (pa_cons (pe_abs (T_abs T) (pa_cons (pv 8) pa_nil)) (pa_cons (pe_abs (T_abs T) (pa_cons (pv 9) pa_nil)) pa_nil))))))))))))))), ?_⟩
    obtain ⟨s', i, axis, c, rfl, rfl⟩ := hrel
    have hR := hA _ _ hO
    refine ⟨_, rfl, na, _, rfl, SqL.of hI, rfl, ?_⟩
    refine ⟨_, _, rfl, _, _, rfl, _, _, rfl, _, _, rfl, rfl, ?_⟩
    refine q_when (b := decide (axis > 2) || !partOk c) (et_or (et_is (et_test (ev_op (ev_var rfl) ev_c rv_I0)) ?_) fun _ => et_not (et_B (ev_call (ea_cons (ev_var rfl) ea_nil) v_part))) (fun hb H1 e1 => ?_) (fun hb H1 e1 => ?_)
    · simp
      omega
    · refine ret1 ev_c fun p H2 e2 h2 => k p H2 (e1.fr e2) ?_
      unfold reachM
      rw [if_pos hb]
      exact h2
    have hd : axis < 3 ∧ partOk c = true := by
      simp at hb
      exact ⟨by omega, hb.2⟩
    obtain ⟨lx, hpc⟩ := hd
    have hc := partOk_bits hpc
    have hN1 := hN.mono e1
    refine q_when (et_or (et_not (et_B (ev_call (ea_cons (ev_var rfl) (ea_cons (ev_var (v := natV s') rfl) ea_nil)) (v_isSpan hN1)))) fun _ => et_not (et_B (ev_call (ea_cons (ev_var rfl) (ea_cons (ev_var (v := natV i) rfl) ea_nil)) (v_isNode hN1)))) (fun hb2 H2 e2 => ?_) (fun hb2 H2 e2 => ?_)
    · have h1 : (isSpanM N.spans s' && decide (i < N.nodes.length)) = false := by
        cases h1 : isSpanM N.spans s' <;> cases h2 : decide (i < N.nodes.length) <;> simp_all
      refine ret1 ev_c fun p H3 e3 h3 => k p H3 ((e1.trans e2).fr e3) ?_
      unfold reachM
      rw [if_neg (by rw [hb]; decide), if_pos h1]
      exact h3
    have h1 : isSpanM N.spans s' = true ∧ i < N.nodes.length := by simpa using hb2
    obtain ⟨hs, hi⟩ := h1
    obtain ⟨hsp, hsl⟩ := isSpan_at hs
    obtain ⟨na1, nb1, hdb⟩ := span_bits hO hsl
    have hN2 := hN1.mono e2
    have e12 := e1.trans e2
    refine q_bal hN2 hO hA (e_nodes T hN2 (ev_var rfl)) (e_spans T hN2 (ev_var rfl)) fun v H3 e3 hB => ?_
    have hN3 := hN2.mono e3
    have hrm : reachM N s' i axis c = (let b := balancedM N.nodes N.spans
    let p := N.spans.getD s' default
    if (b.hang i && (b.hang p.a && b.hang p.b)) = false then [-7] else
      if (b.at_ i).getD axis 0 = c * b.bottom then [0, 0, 1] else
        let g := growthM N b p i axis c
        if g.2 = 0 ∨ g.1 * g.2 < 0 then [-7] else 0 :: toldM (g.1.natAbs : Int) (g.2.natAbs : Int)) := by
      unfold reachM
      rw [if_neg (by rw [hb]; decide), if_neg (by rw [hs, decide_eq_true hi]; decide)]
    rw [hrm] at k
    dsimp only at k
    obtain ⟨u, hu, ku⟩ := e_span T hN3 hsp
    refine q_asg (ku (Ex.refl _) (ev_var rfl) (ev_var rfl)) fun H4 e4 => ?_
    have hu4 := SpanR.mon _ _ _ _ e4 hu
    obtain ⟨q, dx, rfl, hq⟩ := id hu4
    have hB4 := BalR.mon _ _ _ _ e4 hB
    have hN4 := hN3.mono e4
    generalize N.spans.getD s' default = p at hsp na1 nb1 hdb hu hu4 hq k
    have B := hR.bal
    have e14 := (e12.trans e3).trans e4
    refine q_when (b := !((balancedM N.nodes N.spans).hang i && ((balancedM N.nodes N.spans).hang p.a && (balancedM N.nodes N.spans).hang p.b))) (et_is (et_or (et_not (et_B (e_hangX T B hi hB4 (ev_var rfl) (ev_var rfl)))) fun _ => et_or (et_not (et_B (e_hangX T B na1 hB4 (ev_var rfl) (ev_fld (ev_var rfl) hq (C_Span T) (F_Span_first T) (l_first _))))) fun _ => et_not (et_B (e_hangX T B nb1 hB4 (ev_var rfl) (ev_fld (ev_var rfl) hq (C_Span T) (F_Span_second T) (l_second _))))) ?_) (fun hc2 H5 e5 => ?_) (fun hc2 H5 e5 => ?_)
    · cases (balancedM N.nodes N.spans).hang i <;> cases (balancedM N.nodes N.spans).hang p.a <;> cases (balancedM N.nodes N.spans).hang p.b <;> rfl
    · have h1 : ((balancedM N.nodes N.spans).hang i && ((balancedM N.nodes N.spans).hang p.a && (balancedM N.nodes N.spans).hang p.b)) = false := by rw [Bool.not_eq_true'] at hc2; exact hc2
      rw [if_pos h1] at k
      exact ret1 ev_c fun p H6 e6 h6 => k p H6 ((e14.trans e5).fr e6) h6
    have h1 : (balancedM N.nodes N.spans).hang i = true ∧ (balancedM N.nodes N.spans).hang p.a = true ∧ (balancedM N.nodes N.spans).hang p.b = true := by simpa using hc2
    obtain ⟨gi, g1, g2⟩ := h1
    rw [if_neg (by rw [gi, g1, g2]; decide)] at k
    have hB5 := BalR.mon _ _ _ _ e5 hB4
    have hN5 := hN4.mono e5
    have hu5 := SpanR.mon _ _ _ _ e5 hu4
    refine q_when (b := decide (((balancedM N.nodes N.spans).at_ i).getD axis 0 = c * (balancedM N.nodes N.spans).bottom)) (et_is (et_test (ev_op (e_at T B gi lx hB5 (ev_var rfl) (ev_var rfl) (ev_var rfl)) (ev_op (ev_var rfl) (e_bottom T hB5 (ev_var rfl)) (rv_I (mulW hc B.bb (by decide) (by decide) (by decide)))) (rv_eq rfl))) intV_eq) (fun hc3 H6 e6 => ?_) (fun hc3 H6 e6 => ?_)
    · rw [if_pos (of_decide_eq_true hc3)] at k
      exact s_retL (el_lst (ea_cons ev_c (ea_cons ev_c (ea_cons ev_c ea_nil))) (by show 3 ≤ 100000; decide)) fun p H7 n7 e7 h7 => k p H7 (((e14.trans e5).trans e6).fr ⟨n7, e7⟩) h7
    rw [if_neg (of_decide_eq_false hc3)] at k
    have e56 := e5.trans e6
    obtain ⟨gb1, gb2⟩ := growthM_bits hR lx gi g1 g2 hc
    refine u_asg (r_growth (ea_cons (ev_var rfl) (ea_cons (ev_var rfl) (ea_cons (ev_var rfl) (ea_cons (ev_var rfl) (ea_cons (ev_var rfl) (ea_cons (ev_var rfl) ea_nil)))))) (hN5.mono e6) hO hR (BalR.mon _ _ _ _ e6 hB5) (SpanR.mon _ _ _ _ e6 hu5) na1 nb1 hi lx gi g1 g2 hc H6 (Ex.refl _) _ fun t H7 e7 h7 => ?_)
    refine ⟨t, _, rfl, SqT.of h7, rfl, _, _, rfl, _, _, rfl, rfl, ?_⟩
    generalize growthM N (balancedM N.nodes N.spans) p i axis c = g at gb1 gb2 h7 k
    have e17 := (e14.trans e56).trans e7
    refine q_when (b := decide (g.2 = 0 ∨ g.1 * g.2 < 0)) (et_is (et_or (b := decide (g.1 * g.2 < 0)) (a := decide (g.2 = 0)) (et_is (et_test (ev_op (ev_var rfl) ev_c (rv_eq rfl))) intV_eq) fun _ => et_test (ev_op (ev_op (ev_var rfl) (ev_var rfl) (rv_I (mulW gb1 gb2 (by decide) (by decide) (by decide)))) ev_c rv_I0)) ?_) (fun hc4 H8 e8 => ?_) (fun hc4 H8 e8 => ?_)
    · simp
    · rw [if_pos (of_decide_eq_true hc4)] at k
      exact ret1 ev_c fun p H9 e9 h9 => k p H9 ((e17.trans e8).fr e9) h9
    · have hn := of_decide_eq_false hc4
      rw [if_neg hn] at k
      have hn2 : g.2 ≠ 0 := fun e => hn (Or.inl e)
      exact s_retL (el_cat1 ev_c (el_call (ea_cons (ev_is (ev_abs (ev_var rfl)) (congrArg V.int (abs_nat g.1))) (ea_cons (ev_is (ev_abs (ev_var rfl)) (congrArg V.int (abs_nat g.2))) ea_nil)) (l_told (by omega) (Nat.lt_of_lt_of_le (show (g.2.natAbs : Int).natAbs < 2 ^ 4100 from gb2) (Nat.pow_le_pow_right (by decide) (by decide))))) (by show 2 ≤ 1000; decide)) fun p H9 n9 e9 h9 => k p H9 ((e17.trans e8).fr ⟨n9, e9⟩) h9
end
end Wp


namespace Wp
open PySem PySem.Spec PyProof.Rows L2 Evl
open He (ga ma Fa DefD SaysD)
def FrR (H : Hp) (f : Fr) (v : V) : Prop := ∃ t, v = .ref t ∧ H t = some (.tup [.int f.1, .int f.2])
def PlaceF (H : Hp) (o : Option (List Fr)) (v : V) : Prop := match o with
  | none => v = .non
  | some r => ∃ p, v = .ref p ∧ ListOf FrR H p r
theorem FrR.mon : Mon FrR := fun _ _ _ _ e ⟨t, h1, h2⟩ => ⟨t, h1, e _ _ h2⟩
theorem PlaceF.mon : Mon PlaceF := fun H H' o v e h => by
  cases o with
  | none => exact h
  | some r =>
    obtain ⟨p, h1, h2⟩ := h
    exact ⟨p, h1, h2.mono FrR.mon e⟩
section
variable {P : Program} {w : World} {K : PySem.W.Frag} {mg : Str → Option Value} {base : Heap} {σ : L2.St} {H : Hp} {ta : TA} {te ti : TE}

/-- [..] + a list that stands -/
theorem rcat_src {xs ys : List V} {p : Addr} {ta tb : TE} (ha : EvL ta σ H xs) (hb : Ev tb σ H (.ref p)) (hp : H p = some (.lst ys)) (hz : xs.length + ys.length ≤ 100000) : EvL (tOp rCat ta tb) σ H (xs ++ ys) := fun H1 e Q q =>
  ha H1 e _ fun l H2 hl e2 h2 => hb H2 (e.trans e2) _ fun H3 e3 => ⟨l, p, xs, ys, rfl, rfl, e3 _ _ h2, ((e.trans e2).trans e3) _ _ hp, sz_of hz, fun p' hp' => q p' _ (fresh_back (e2.trans e3) hp') ((e2.trans e3).trans (Ex.new hp')) upd_same⟩
theorem rcat_new {xs ys : List V} {ta tb : TE} (ha : EvL ta σ H xs) (hb : EvL tb σ H ys) (hz : xs.length + ys.length ≤ 100000) : EvL (tOp rCat ta tb) σ H (xs ++ ys) := el_cat ha hb hz
/-! ### breaks -/
def relBreaks (N : MNet) (nums ans : List Int) : Prop := ∃ s : Nat, nums = [(s : Int)] ∧ ans = breaksM N s
def spBreaks (K : PySem.W.Frag) : Sp := spAsk K relBreaks
theorem v_failing_at {b : MBal} {nodes : List MNode} {l : List MSpan} {i : Nat} (h : i < nodes.length) : ((failingM b nodes l).map V.bl)[i]? = some (.bl ((failingM b nodes l).getD i false)) := by
  have hl : i < (failingM b nodes l).length := by simpa [failingM] using h
  rw [List.getElem?_map, List.getElem?_eq_getElem hl]
  simp [List.getD, List.getElem?_eq_getElem hl]
theorem ok_breaks (T : Tx K mg) : OkD P w K mg base 6 "breaks" ["net", "numbers"] (spBreaks K) := by
  refine T.ok 76 56 "breaks" 74 sc_breaks (fun vs H Q E h => ?_) (fun _ _ _ _ _ _ us hl => match us, hl with | [_, _], _ => rfl) (fun cdv A outer s H vs Q E hr h => ?_)
  · obtain ⟨_, _, _, _, _, _, _, rfl, _⟩ := h
    rfl
  · obtain ⟨a, l1, l2, na, N, nums, ans, rfl, hN, hI, hO, hA, hrel, k⟩ := h
    refine ⟨_, (pss_cons (ps_set (i := 2) sc_breaks.nd rfl (Or.inl rfl) (pe_ixL K (pv 1) pe_int))
        (pss_cons (ps_if (pt_not (pt_val (pe_callD (ok_is_span (K := K) T) (hr.mono (by decide)) (pa_cons (pv 0) (pa_cons (pv 2) pa_nil))))) (pss_one (ps_ret (pe_lst (pa_cons (pe_const (T_NO_SUCH T)) pa_nil)))) pss_nil)
        (pss_cons (ps_set (i := 3) sc_breaks.nd rfl (Or.inl rfl) (pe_callD (ok_without (K := K) T) (hr.mono (by decide)) (pa_cons (pe_fldK K (pv 0)) (pa_cons (pv 2) pa_nil))))
        (pss_cons (ps_set (i := 4) sc_breaks.nd rfl (Or.inr rfl) (pe_callD (ok_balanced (K := K) T) (hr.mono (by decide)) (pa_cons (pe_fldK K (pv 0)) (pa_cons (pe_fldK K (pv 0)) pa_nil))))
        (pss_cons (ps_set (i := 5) sc_breaks.nd rfl (Or.inr rfl) (pe_callD (ok_balanced (K := K) T) (hr.mono (by decide)) (pa_cons (pe_fldK K (pv 0)) (pa_cons (pv 3) pa_nil))))
        (pss_cons (ps_set (i := 6) sc_breaks.nd rfl (Or.inr rfl) (pe_callD (ok_failing (K := K) T) (hr.mono (by decide)) (pa_cons (pv 4) (pa_cons (pe_fldK K (pv 0)) (pa_cons (pe_fldK K (pv 0)) pa_nil)))))
        (pss_cons (ps_set (i := 7) sc_breaks.nd rfl (Or.inr rfl) (pe_callD (ok_failing (K := K) T) (hr.mono (by decide)) (pa_cons (pv 5) (pa_cons (pe_fldK K (pv 0)) (pa_cons (pv 3) pa_nil)))))
        (pss_cons (ps_setLc (i := 8) (own := [("i", 10)]) (g := gName 10) rfl sc_breaks.nd rfl rfl (sw_true rfl rfl rfl (by decide +kernel)) (pi_rangeK (T_range T) (pa_cons (pe_len K (T_len T) (pa_cons (pe_fldK K (pv 0)) pa_nil)) pa_nil)) (blkOk_by (own := [("i", 10)]) (N := N_breaks) (sc := defScope (top 74)) (by decide +kernel)) (fun _ _ _ _ _ => (pg_name (i := 10) sc_breaks.nd rfl (Or.inl rfl))) (fun _ _ _ _ _ => (pts_one (PW.pt (pw_and (pt_val (pe_ixL K (pe_fldK K (pv 4)) (pv 10))) (pw_and1 (pt_not (pt_val (pe_ixL K (pe_fldK K (pv 5)) (pv 10))))))))) (fun _ _ _ _ _ => (pv 10)))
        (pss_cons (ps_setLc (i := 9) (own := [("i", 10)]) (g := gName 10) rfl sc_breaks.nd rfl rfl (sw_true rfl rfl rfl (by decide +kernel)) (pi_rangeK (T_range T) (pa_cons (pe_len K (T_len T) (pa_cons (pe_fldK K (pv 0)) pa_nil)) pa_nil)) (blkOk_by (own := [("i", 10)]) (N := N_breaks) (sc := defScope (top 74)) (by decide +kernel)) (fun _ _ _ _ _ => (pg_name (i := 10) sc_breaks.nd rfl (Or.inl rfl))) (fun _ _ _ _ _ => (pts_one (PW.pt (pw_and (pt_val (pe_ixL K (pv 7) (pv 10))) (pw_and1 (pt_not (pt_val (pe_ixL K (pv 6) (pv 10))))))))) (fun _ _ _ _ _ => (pv 10)))
        (pss_one (ps_ret (pe_op op_cat (pe_op op_cat (pe_op op_cat (pe_lst (pa_cons pe_int (pa_cons (pe_len K (T_len T) (pa_cons (pv 8) pa_nil)) pa_nil))) (pv 8)) (pe_lst (pa_cons (pe_len K (T_len T) (pa_cons (pv 9) pa_nil)) pa_nil))) (pv 9))))))))))))), ?_⟩
    obtain ⟨s', rfl, rfl⟩ := hrel
    have hR := hA _ _ hO
    have hnl := hO.nl
    refine q_asg (v := natV s') (ev_op (ev_var rfl) ev_c (rv_ixL (SqL.of hI) (atI_nat (j := 0) rfl))) fun H1 e1 => ?_
    refine q_when (et_not (et_B (ev_call (ea_cons (ev_var rfl) (ea_cons (ev_var rfl) ea_nil)) (v_isSpan (hN.mono e1))))) (fun hb H2 e2 => ?_) (fun hb H2 e2 => ?_)
    · have hlt : isSpanM N.spans s' = false := by simpa using hb
      refine ret1 ev_c fun p H3 e3 h3 => k p H3 ((e1.trans e2).fr e3) ?_
      unfold breaksM
      rw [if_pos hlt]
      exact h3
    have hs : isSpanM N.spans s' = true := by simpa using hb
    obtain ⟨hsp, hsl⟩ := isSpan_at hs
    have hO2 := hO.without_ hs
    have hR2 := hA _ _ hO2
    have e12 := e1.trans e2
    have hN2 := hN.mono e12
    have hbm : breaksM N s' = (let sp := withoutM N.spans s'
    let b := balancedM N.nodes N.spans
    let t := balancedM N.nodes sp
    let fn := failingM b N.nodes N.spans
    let ft := failingM t N.nodes sp
    let fallen := (List.range N.nodes.length).filter fun i => b.hang i && !t.hang i
    let broken := (List.range N.nodes.length).filter fun i => ft.getD i false && !fn.getD i false
    0 :: (fallen.length : Int) :: (fallen.map fun (i : Nat) => (i : Int)) ++ (broken.length : Int) :: broken.map fun (i : Nat) => (i : Int)) := by
      unfold breaksM
      rw [if_neg (by rw [hs]; decide)]
    rw [hbm] at k
    dsimp only at k
    refine u_asg ((ea_cons (e_spans T hN2 (ev_var rfl)) (ea_cons (ev_var rfl) ea_nil)) H2 (Ex.refl H2) _ fun H3 e3 => ⟨l2, N.spans, s', rfl, hN2.spans.mono SpanR.mon e3, hO.sl, hsl, fun p H4 hp e4 h4 => ?_⟩)
    have hN4 := hN2.mono (e3.trans e4)
    have e14 := (e12.trans e3).trans e4
    refine q_bal hN4 hO hA (e_nodes T hN4 (ev_var rfl)) (e_spans T hN4 (ev_var rfl)) fun v H5 e5 hB => ?_
    have hN5 := hN4.mono e5
    have hL5 := h4.mono SpanR.mon e5
    refine u_asg (r_balanced (ea_cons (e_nodes T hN5 (ev_var rfl)) (ea_cons (ev_var rfl) ea_nil)) hN5.nodes hL5 hR2 H5 (Ex.refl _) _ fun u H6 e6 hU => ?_)
    have hN6 := hN5.mono e6
    have hL6 := hL5.mono SpanR.mon e6
    have hB6 := BalR.mon _ _ _ _ e6 hB
    have hbu := hN6.bundle hO hA hB6
    have hbt : Bundle K H6 u (balancedM N.nodes (withoutM N.spans s')) l1 p N.nodes (withoutM N.spans s') := ⟨hU, hN6.nodes, hL6, hO2, hR2.bal⟩
    have hb1 := hR.bal
    have hb2 := hR2.bal
    generalize balancedM N.nodes N.spans = b at hB hB6 hbu hb1 k
    generalize hwo : withoutM N.spans s' = sp at hL5 hL6 hbt hb2 hU k
    generalize balancedM N.nodes sp = t at hbt hb2 hU k
    refine q_asgL (el_call (ea_cons (ev_var rfl) (ea_cons (e_nodes T hN6 (ev_var rfl)) (ea_cons (e_spans T hN6 (ev_var rfl)) ea_nil))) (l_failing hbu)) fun fn H7 hfn e7 h7 => ?_
    have hN7 := hN6.mono e7
    refine q_asgL (el_call (ea_cons (ev_var rfl) (ea_cons (e_nodes T hN7 (ev_var rfl)) (ea_cons (ev_var rfl) ea_nil))) (l_failing (hbt.mono e7))) fun ft H8 hft e8 h8 => ?_
    have hN8 := hN7.mono e8
    have e78 := e7.trans e8
    refine q_asgL (el_lc (src_range (n := N.nodes.length) (ea_cons (e_nlen T hN8 (ev_var rfl)) ea_nil) (by omega)) (fun i => b.hang i && !t.hang i) natV (gName_mono 10) (by rw [List.length_range]; omega) ?_) fun fa H9 hfa e9 h9 => ?_
    · rintro j x it H9 H10 H11 hx e9 e10 ⟨rfl, rfl⟩
      have hi := range_lt hx
      have e := e78.trans (e9.trans e10)
      exact ⟨Ex.refl _, rfl, et_and (et_B (e_hangX T hb1 hi (BalR.mon _ _ _ _ e hB6) (ev_var rfl) (ev_var rfl))) fun _ => et_not (et_B (e_hangX T hb2 hi (BalR.mon _ _ _ _ e hU) (ev_var rfl) (ev_var rfl))), fun _ => ev_var rfl⟩
    have hN9 := hN8.mono e9
    have e89 := e8.trans e9
    refine q_asgL (el_lc (src_range (n := N.nodes.length) (ea_cons (e_nlen T hN9 (ev_var rfl)) ea_nil) (by omega)) (fun i => (failingM t N.nodes sp).getD i false && !(failingM b N.nodes N.spans).getD i false) natV (gName_mono 10) (by rw [List.length_range]; omega) ?_) fun br H10 hbr e10 h10 => ?_
    · rintro j x it H10 H11 H12 hx e10 e11 ⟨rfl, rfl⟩
      have hi := range_lt hx
      have e := e9.trans (e10.trans e11)
      exact ⟨Ex.refl _, rfl, et_and (et_B (ev_op (ev_var rfl) (ev_var rfl) (rv_ixL (SqL.of (e _ _ h8)) (atI_nat (v_failing_at hi))))) fun _ => et_not (et_B (ev_op (ev_var rfl) (ev_var rfl) (rv_ixL (SqL.of ((e8.trans e) _ _ h7)) (atI_nat (v_failing_at hi))))), fun _ => ev_var rfl⟩
    have fl : ∀ f : Nat → Bool, ((List.range N.nodes.length).filter f).length ≤ 24 := fun f => by
      have := List.length_filter_le f (List.range N.nodes.length)
      rw [List.length_range] at this
      omega
    have lf := fl (fun i => b.hang i && !t.hang i)
    have lb := fl (fun i => (failingM t N.nodes sp).getD i false && !(failingM b N.nodes N.spans).getD i false)
    generalize (List.range N.nodes.length).filter (fun i => b.hang i && !t.hang i) = fallen at h9 lf k
    generalize (List.range N.nodes.length).filter (fun i => (failingM t N.nodes sp).getD i false && !(failingM b N.nodes N.spans).getD i false) = broken at h10 lb k
    have mm : ∀ l : List Nat, l.map natV = (l.map fun (i : Nat) => (i : Int)).map V.int := fun l => by rw [List.map_map]; rfl
    have h9' := e10 _ _ h9
    have ln : ∀ l : List Nat, ((l.map natV).length : Int) = (l.length : Int) := fun l => by rw [List.length_map]
    have h9i := h9'
    have h10i := h10
    rw [mm] at h9i h10i
    have lF : ((fallen.map fun (i : Nat) => (i : Int))).length ≤ 24 := by rw [List.length_map]; exact lf
    have lB : ((broken.map fun (i : Nat) => (i : Int))).length ≤ 24 := by rw [List.length_map]; exact lb
    have q1 : ∀ (D : Ends) (σ' : L2.St), σ'[8]? = some (some (.ref fa)) → σ'[9]? = some (some (.ref br)) → (∀ p H1, ExF p H10 H1 → IL H1 p (([0, (fallen.length : Int)] ++ (fallen.map fun (i : Nat) => (i : Int)) ++ [(broken.length : Int)]) ++ (broken.map fun (i : Nat) => (i : Int))) → D.rt (.ref p) H1) → tRet (tOp rCat (tOp rCat (tOp rCat (tLst (tCons (tC (.int 0)) (tCons (tCB (rLenS K) (tCons (tVar 8) tNil)) tNil))) (tVar 8)) (tLst (tCons (tCB (rLenS K) (tCons (tVar 9) tNil)) tNil))) (tVar 9)) D σ' H10 := by
      intro D σ' s8 s9 kk
      have w8 : ∀ {H'}, Ex H10 H' → Ev (tVar 8) σ' H' (.ref fa) := fun _ => ev_var s8
      refine u_ret (rcat_src (rcat_new (rcat_src (el_lst (ea_cons ev_c (ea_cons (ev_len2 (ev_var s8) h9' (ln fallen)) ea_nil)) (by show 2 ≤ 100000; decide)) (ev_var s8) h9i (ys := (fallen.map fun (i : Nat) => (i : Int)).map V.int) (by show 2 + _ ≤ _; rw [List.length_map]; omega)) (el_lst (ea_cons (ev_len2 (ev_var s9) h10 (ln broken)) ea_nil) (by show 1 ≤ 100000; decide)) (by simp only [List.length_append, List.length_map]; show 2 + _ + 1 ≤ _; omega)) (ev_var s9) h10i (by simp only [List.length_append, List.length_map]; show 2 + _ + 1 + _ ≤ _; omega) H10 (Ex.refl _) _ fun p H1 n1 e1 h1 => kk p H1 ⟨n1, e1⟩ ?_)
      show H1 p = _
      rw [h1]
      simp
    refine q1 _ _ rfl rfl fun p H11 e11 h11 => k p H11 (((((e14.trans e5).trans e6).trans e7).trans (e89.trans e10)).fr e11) ?_
    have e0 : (0 :: (fallen.length : Int) :: (fallen.map fun (i : Nat) => (i : Int)) ++ (broken.length : Int) :: broken.map fun (i : Nat) => (i : Int)) = (([0, (fallen.length : Int)] ++ (fallen.map fun (i : Nat) => (i : Int)) ++ [(broken.length : Int)]) ++ (broken.map fun (i : Nat) => (i : Int))) := by simp
    rw [e0]
    exact h11
end
end Wp


namespace Wp
open PySem PySem.Spec PyProof.Rows L2 Evl
open He (ga ma Fa DefD SaysD)
section
variable {P : Program} {w : World} {K : PySem.W.Frag} {mg : Str → Option Value} {base : Heap} {σ : L2.St} {H : Hp} {ta : TA} {te ti : TE}
def rowFr (row : List Int) (x : Nat) : List Fr := (List.range 3).map fun k => (row.getD (6 * x + 2 * k) 0, row.getD (6 * x + 2 * k + 1) 0)
def fixFr (n : MNode) : List Fr := n.vec.map fun q => (q, 1)
def rowFix (nodes : List MNode) (m : Nat) : List (Option (List Fr)) := (List.range m).foldl (fun p i => if (nodes.getD i default).fixed = true then p.set i (some (fixFr (nodes.getD i default))) else p) (List.replicate nodes.length none)
def rowKn (knots : List Nat) (row : List Int) (m : Nat) (p : List (Option (List Fr))) : List (Option (List Fr)) := ((knots.zipIdx).take m).foldl (fun p x => p.set x.1 (some (rowFr row x.2))) p
theorem rowPlaces_is (nodes : List MNode) (knots : List Nat) (row : List Int) : rowPlacesM nodes knots row = rowKn knots row knots.length (rowFix nodes nodes.length) := by
  unfold rowKn
  rw [List.take_of_length_le (by rw [List.length_zipIdx]; omega)]
  rfl
theorem rowFix_len (nodes : List MNode) (m : Nat) : (rowFix nodes m).length = nodes.length := fold_set_len _ _ _
theorem foldSet_len2 {α : Type} (f : Nat → α) : ∀ (l : List (Nat × Nat)) (p : List α), (l.foldl (fun p x => p.set x.1 (f x.2)) p).length = p.length
  | [], _ => rfl
  | x :: l, p => by rw [List.foldl_cons, foldSet_len2 f l, List.length_set]
theorem rowKn_len (knots : List Nat) (row : List Int) (m : Nat) (p : List (Option (List Fr))) : (rowKn knots row m p).length = p.length := foldSet_len2 (fun x => some (rowFr row x)) _ _
theorem smallW {x y : Int} (hx : x.natAbs < 2 ^ 100) (hy : y.natAbs < 2 ^ 100) : CMulW x y := mulW (k := 100) (l := 100) hx hy (by decide) (by decide) (by decide)
theorem ev_mulN {a b : Nat} {ta tb : TE} (ha : Ev ta σ H (natV a)) (hb : Ev tb σ H (natV b)) (la : a < 1000) (lb : b < 1000) : Ev (tOp (rI CMulW fun i j => V.int (i * j)) ta tb) σ H (natV (a * b)) := 
  have p : 1000 < 2 ^ 100 := by decide
  ev_is (ev_op ha hb (rv_I (smallW (by show ((a : Int)).natAbs < _; rw [Int.natAbs_natCast]; omega) (by show ((b : Int)).natAbs < _; rw [Int.natAbs_natCast]; omega)))) (congrArg V.int (by push_cast; rfl))
theorem ev_addN {a b : Nat} {ta tb : TE} (ha : Ev ta σ H (natV a)) (hb : Ev tb σ H (natV b)) : Ev (tOp (rI0 fun i j => V.int (i + j)) ta tb) σ H (natV (a + b)) := ev_is (ev_op ha hb rv_I0) (congrArg V.int (by push_cast; rfl))
def spRowPl (K : PySem.W.Frag) : Sp := fun vs H Q _ => ∃ (an ka na : Addr) (nodes : List MNode) (knots : List Nat) (nums : List Int), vs = [.ref an, .ref ka, .ref na] ∧ ListOf (NodeR K) H an nodes ∧ KL H ka knots ∧ IL H na nums ∧ nodes.length ≤ 24 ∧ (∀ k ∈ knots, k < nodes.length) ∧ nums.length = 6 * knots.length ∧ knots.length ≤ 24 ∧
  ∀ p H', Ex H H' → ListOf PlaceF H' p (rowPlacesM nodes knots nums) → Q (.ref p) H'
theorem ok_row_places (T : Tx K mg) : OkD P w K mg base 1 "row_places" ["nodes", "knots", "numbers"] (spRowPl K) := by
  refine T.ok 74 54 "row_places" 72 sc_row_places (fun vs H Q E h => ?_) (fun _ _ _ _ _ _ us hl => match us, hl with | [_, _, _], _ => rfl) (fun cdv A outer s H vs Q E hr h => ?_)
  · obtain ⟨_, _, _, _, _, _, rfl, _⟩ := h
    rfl
  · obtain ⟨an, ka, na, nodes, knots, nums, rfl, hn, hk, hI, hnl, hkl, hlen, hk24, k⟩ := h
    refine ⟨_, (pss_cons (ps_set (i := 3) sc_row_places.nd rfl (Or.inl rfl) (pe_op op_rep (pe_lst (pa_cons pe_non pa_nil)) (pe_len K (T_len T) (pa_cons (pv 0) pa_nil))))
        (pss_cons (ps_for PassesOwn.never rfl (pi_enumK K (T_enumerate T) (pa_cons (pv 0) pa_nil)) (pg_tupK K (n := 2) (pgs_cons (pg_name (i := 4) sc_row_places.nd rfl (Or.inl rfl)) (pgs_cons (pg_name (i := 5) sc_row_places.nd rfl (Or.inl rfl)) pgs_nil))) (pss_one (ps_if (pt_val (pe_fldK K (pv 5))) (pss_one (ps_asg (pe_lc (own := [("part", 8)]) (g := gName 8) (tt := tYes) rfl sc_row_places.nd (pi_tupK K (pe_fldK K (pv 5))) (blkOk_by (own := [("part", 8)]) (N := N_row_places) (sc := defScope (top 72)) (by decide +kernel)) (fun _ _ _ _ _ => (pg_name (i := 8) sc_row_places.nd rfl (Or.inl rfl))) (fun _ _ _ _ _ => pts_nil) (fun _ _ _ _ _ => (pe_tup (pa_cons (pv 8) (pa_cons pe_int pa_nil))))) (pg_sub (pv 3) (pv 4) set_list))) pss_nil)))
        (pss_cons (ps_for PassesOwn.never rfl (pi_enumK K (T_enumerate T) (pa_cons (pv 1) pa_nil)) (pg_tupK K (n := 2) (pgs_cons (pg_name (i := 6) sc_row_places.nd rfl (Or.inr rfl)) (pgs_cons (pg_name (i := 7) sc_row_places.nd rfl (Or.inl rfl)) pgs_nil))) (pss_one (ps_asg (pe_lc (own := [("axis", 9)]) (g := gName 9) (tt := tYes) rfl sc_row_places.nd (pi_rangeK (T_range T) (pa_cons pe_int pa_nil)) (blkOk_by (own := [("axis", 9)]) (N := N_row_places) (sc := defScope (top 72)) (by decide +kernel)) (fun _ _ _ _ _ => (pg_name (i := 9) sc_row_places.nd rfl (Or.inl rfl))) (fun _ _ _ _ _ => pts_nil) (fun _ _ _ _ _ => (pe_tup (pa_cons (pe_ixL K (pv 2) (pe_op op_add (pe_op op_mulW pe_int (pv 6)) (pe_op op_mulW pe_int (pv 9)))) (pa_cons (pe_ixL K (pv 2) (pe_op op_add (pe_op op_add (pe_op op_mulW pe_int (pv 6)) (pe_op op_mulW pe_int (pv 9))) pe_int)) pa_nil))))) (pg_sub (pv 3) (pv 7) set_list))))
        (pss_one (ps_ret (pv 3)))))), ?_⟩
    obtain ⟨ns, hns, hpn⟩ := id hn
    have lns : ns.length = nodes.length := (Paired.len hpn).symm
    refine q_asgL (el_is (el_rep (n := nodes.length) (el_lst (ea_cons ev_c ea_nil) (by show 1 ≤ 100000; decide)) (ev_len2 (ev_var rfl) hns (by rw [lns])) (by omega) (by show 1 * _ ≤ _; omega)) (rep_flat _ _)) fun pl H4 hpl e4 h4 => ?_
    have bh : (hide pl H4) pl = none := if_pos rfl
    have eb0 : Ex H (hide pl H4) := hide_base e4 hpl
    refine q_forEnum2 (ys := ns) (ea_cons (ev_var rfl) ea_nil) (SqL.of (e4 _ _ hns)) (fun i σ' H' => ∃ (x y : Option V) (zs : List V), σ' = [some (.ref an), some (.ref ka), some (.ref na), some (.ref pl), x, y, none, none, none, none] ∧ Ex (hide pl H4) H' ∧ H' pl = some (.lst zs) ∧ Paired (PlaceF (hide pl H')) (rowFix nodes i) zs)
      (fun H5 e5 => ⟨none, none, _, rfl, (hide_ex pl H4).trans e5, e5 _ _ h4, paired_rep nodes.length rfl⟩) (fun i σ' H' _ ⟨_, _, _, _, e, _⟩ => SqL.of (e _ _ (eb0 _ _ hns))) ?_ ?_
    · rintro i v σ' H' T' hv ⟨x, y, zs, rfl, e5, h5, hp5⟩ hT
      obtain ⟨n, hni, q, dx, tv, rfl, hq, htv⟩ := Paired.back hpn hv
      have eN : nodes.getD i default = n := getD_at hni
      have hin : i < nodes.length := (List.getElem?_eq_some_iff.mp hni).1
      have e6 : Ex (hide pl H4) (upd H' T' (.tup [natV i, .ref q])) := e5.trans (Ex.new hT)
      have hTp : pl ≠ T' := fun z => by
        rw [← z, h5] at hT
        cases hT
      have hpl6 : (upd H' T' (.tup [natV i, .ref q])) pl = some (.lst zs) := by rw [upd_ne hTp]; exact h5
      have zl : zs.length = nodes.length := by
        rw [← Paired.len hp5]
        exact rowFix_len _ _
      have step : rowFix nodes (i + 1) = if n.fixed = true then (rowFix nodes i).set i (some (fixFr n)) else rowFix nodes i := by
        unfold rowFix
        rw [List.range_succ, List.foldl_append, List.foldl_cons, List.foldl_nil, eN]
      refine s_when (b := n.fixed) (et_B (ev_fld (ev_var rfl) (e6 _ _ (eb0 _ _ hq)) (C_Node T) (F_Node_fixed T) (l_fixed _ _))) (fun hf H6 e7 => ?_) (fun hf H6 e7 => ⟨some (natV i), some (.ref q), zs, rfl, e6.trans e7, e7 _ _ hpl6, ?_⟩)
      · have e8 := e6.trans e7
        refine u_asg1 (elp_lc (src_tup (xs := n.vec) (R := fun _ z v => v = V.int z) (fun _ _ _ _ _ r => r) (ev_fld (ev_var rfl) (e8 _ _ (eb0 _ _ hq)) (C_Node T) (F_Node_vector T) (l_vector _ _)) (SqT.of (e8 _ _ (eb0 _ _ htv))) (Paired.of_map (R := fun z v => v = V.int z) (f := V.int) (fun _ => rfl) _)) (fun _ => true) (fun H' z v => FrR H' (z, 1) v) (fun _ _ _ _ e r => FrR.mon _ _ _ _ e r) (gName_mono 8) (by show 3 ≤ 40000; decide) ?_ H6 (Ex.refl _) _ fun p us H7 hp7 e9 h7 hP => ?_)
        · rintro j z it H7 H8 H9 D hz e10 e11 hD ⟨rfl, rfl⟩
          exact ⟨Ex.refl _, rfl, et_yes, fun _ => evd_u (eu_tup (ea_cons (ev_var rfl) (ea_cons ev_c ea_nil)) (by show 2 ≤ 100000; decide)) fun p H' hp => ⟨p, rfl, hp⟩⟩
        · rw [filter_true] at hP
          have hpl7 := e9 _ _ (e7 _ _ hpl6)
          have hppl : p ≠ pl := fun z => by
            rw [z, e7 _ _ hpl6] at hp7
            cases hp7
          refine ⟨_, rfl, _, rfl, pl, zs, (i : Int), i, rfl, rfl, hpl7, ixN_nat (by omega), some (natV i), some (.ref q), zs.set i (.ref p), rfl, Ex.mut (e8.trans e9) bh, upd_same, ?_⟩
          rw [step, if_pos hf, hide_upd]
          refine Paired.setAt ⟨p, rfl, us, ?_, ?_⟩ i (Paired.imp (fun _ _ r => PlaceF.mon _ _ _ _ (hide_mono (((Ex.new hT).trans e7).trans e9)) r) hp5)
          · show hide pl H7 p = _
            rw [hide_ne hppl, h7]
          · unfold fixFr
            refine paired_map (f := fun q => (q, (1 : Int))) (paired_mem hP fun z v hv ⟨t, ht1, ht2⟩ => ⟨t, ht1, ?_⟩)
            have ht3 := hide_ex p H7 _ _ ht2
            have : t ≠ pl := fun e => by
              rw [e, hpl7] at ht3
              cases ht3
            rw [hide_ne this]
            exact ht3
      · rw [step, if_neg (by rw [hf]; decide)]
        exact Paired.imp (fun _ _ r => PlaceF.mon _ _ _ _ (hide_mono ((Ex.new hT).trans e7)) r) hp5
    · rintro σ' H' ⟨x, y, zs, rfl, e5, h5, hp5⟩
      rw [lns] at hp5
      refine q_forEnum2 (ys := knots.map natV) (ea_cons (ev_var rfl) ea_nil) (SqL.of (e5 _ _ (eb0 _ _ hk))) 
        (fun i σ' H' => ∃ (x y u v : Option V) (zs : List V), σ' = [some (.ref an), some (.ref ka), some (.ref na), some (.ref pl), x, y, u, v, none, none] ∧ Ex (hide pl H4) H' ∧ H' pl = some (.lst zs) ∧ Paired (PlaceF (hide pl H')) (rowKn knots nums i (rowFix nodes nodes.length)) zs)
        (fun H6 e6 => ⟨x, y, none, none, zs, rfl, e5.trans e6, e6 _ _ h5, Paired.imp (fun _ _ r => PlaceF.mon _ _ _ _ (hide_mono e6) r) hp5⟩) (fun i σ' H' _ ⟨_, _, _, _, _, _, e, _⟩ => SqL.of (e _ _ (eb0 _ _ hk))) ?_ ?_
      · rintro i v σ' H' T' hv ⟨x, y, u0, v0, zs, rfl, e6, h6, hp6⟩ hT
        rw [List.getElem?_map] at hv
        cases hkk : knots[i]? with
        | none => rw [hkk] at hv; cases hv
        | some kn =>
          rw [hkk] at hv
          cases hv
          have hlt := hkl kn (List.mem_of_getElem? hkk)
          have hik : i < knots.length := (List.getElem?_eq_some_iff.mp hkk).1
          have hTp : pl ≠ T' := fun z => by
            rw [← z, h6] at hT
            cases hT
          have zl : zs.length = nodes.length := by
            rw [← Paired.len hp6, rowKn_len, rowFix_len]
          have step : rowKn knots nums (i + 1) (rowFix nodes nodes.length) = (rowKn knots nums i (rowFix nodes nodes.length)).set kn (some (rowFr nums i)) := by
            unfold rowKn
            rw [take_snoc (show (knots.zipIdx)[i]? = some (kn, i) by rw [List.getElem?_zipIdx, hkk]; simp), List.foldl_append]
            rfl
          have e7 : Ex (hide pl H4) (upd H' T' (.tup [natV i, natV kn])) := e6.trans (Ex.new hT)
          have hI7 := e7 _ _ (eb0 _ _ hI)
          have hpl7 : (upd H' T' (.tup [natV i, natV kn])) pl = some (.lst zs) := by rw [upd_ne hTp]; exact h6
          refine u_asg1 (elp_lc (src_range (n := 3) (ea_cons ev_c ea_nil) (by decide)) (fun _ => true) (fun H' j v => FrR H' (nums.getD (6 * i + 2 * j) 0, nums.getD (6 * i + 2 * j + 1) 0) v) (fun _ _ _ _ e r => FrR.mon _ _ _ _ e r) (gName_mono 9) (by show 3 ≤ 40000; decide) ?_ _ (Ex.refl _) _ fun p us H8 hp8 e9 h8 hP => ?_)
          · rintro j z it H8 H9 H10 D hz e10 e11 hD ⟨rfl, rfl⟩
            have hz3 := range_lt hz
            have hI9 := (e10.trans e11) _ _ hI7
            exact ⟨Ex.refl _, rfl, et_yes, fun _ => evd_u (eu_tup (ea_cons (ev_op (ev_var rfl) (ev_addN (ev_mulN (a := 6) ev_c (ev_var rfl) (by decide) (by omega)) (ev_mulN (a := 2) ev_c (ev_var rfl) (by decide) (by omega))) (rv_ixL (SqL.of hI9) (atI_nat (il_at (nat_at (by omega)))))) (ea_cons (ev_op (ev_var rfl) (ev_addN (b := 1) (ev_addN (ev_mulN (a := 6) ev_c (ev_var rfl) (by decide) (by omega)) (ev_mulN (a := 2) ev_c (ev_var rfl) (by decide) (by omega))) ev_c) (rv_ixL (SqL.of hI9) (atI_nat (il_at (nat_at (by omega)))))) ea_nil)) (by show 2 ≤ 100000; decide)) fun p H' hp => ⟨p, rfl, hp⟩⟩
          · rw [filter_true] at hP
            have hpl8 := e9 _ _ hpl7
            have hppl : p ≠ pl := fun z => by
              rw [z, hpl7] at hp8
              cases hp8
            refine ⟨_, rfl, _, rfl, pl, zs, (kn : Int), kn, rfl, rfl, hpl8, ixN_nat (by omega), x, y, some (natV i), some (natV kn), zs.set kn (.ref p), rfl, Ex.mut (e7.trans e9) bh, upd_same, ?_⟩
            rw [step, hide_upd]
            refine Paired.setAt ⟨p, rfl, us, ?_, ?_⟩ kn (Paired.imp (fun _ _ r => PlaceF.mon _ _ _ _ (hide_mono ((Ex.new hT).trans e9)) r) hp6)
            · show hide pl H8 p = _
              rw [hide_ne hppl, h8]
            · refine paired_map (f := fun k => (nums.getD (6 * i + 2 * k) 0, nums.getD (6 * i + 2 * k + 1) 0)) (paired_mem hP fun z v hv ⟨t, ht1, ht2⟩ => ⟨t, ht1, ?_⟩)
              have ht3 := hide_ex p H8 _ _ ht2
              have : t ≠ pl := fun e => by
                rw [e, hpl8] at ht3
                cases ht3
              rw [hide_ne this]
              exact ht3
      · rintro σ' H' ⟨x, y, u0, v0, zs, rfl, e6, h6, hp6⟩
        rw [List.length_map] at hp6
        refine s_ret (ev_var rfl) fun H7 e7 => k pl H7 ((eb0.trans e6).trans e7) ⟨zs, e7 _ _ h6, ?_⟩
        rw [rowPlaces_is]
        exact Paired.imp (fun _ _ r => PlaceF.mon _ _ _ _ ((hide_ex pl H').trans e7) r) hp6

def RetU (xs : List V) (H : Hp) (Q : VK) : Prop := ∀ p H', H p = none → Ex H H' → H' p = some (.tup xs) → Q (.ref p) H'
theorem u_forL {tl : TE} {j : Nat} {tu tz : TS} {D : Ends} {Pz : Hp → List V → Prop} (h : EvLP tl σ H Pz)
    (k : ∀ p zs H1, Ex H H1 → H1 p = some (.lst zs) → Pz (hide p H1) zs → ∃ Pv : Nat → L2.St → Hp → Prop, Pv 0 σ H1 ∧ (∀ i σ' H', Pv i σ' H' → Ex H1 H') ∧ (∀ i x σ' H', zs[i]? = some x → Pv i σ' H' → tu { D with nx := Pv (i + 1), ct := Pv (i + 1), bk := tz D } (σ'.set j (some x)) H') ∧ (∀ σ' H', Pv zs.length σ' H' → tz D σ' H')) :
    tSeq (tFor (iList K tl) (gName j) tu) tz D σ H := h H (Ex.refl H) _ fun p zs H1 hp e1 h1 hP => by
  obtain ⟨Pv, p0, pe, turn, hd⟩ := k p zs H1 e1 h1 hP
  exact ⟨p, rfl, ⟨zs, SqL.of h1⟩, for_it (D := { D with nx := tz D }) (walk_list (xs := zs)) Pv p0 (fun i σ' H' _ q => SqL.of (pe i σ' H' q _ _ h1)) (fun i x σ' H' H'' hi q y => by
    obtain ⟨rfl, hit⟩ := y
    exact turn i x σ' H'' hit q) hd⟩
/-! ### what is left over at a knot -/
def FrOk (places : List (Option (List Fr))) (i : Nat) : Prop := ∃ frs, places[i]? = some (some frs) ∧ frs.length = 3 ∧ ∀ f ∈ frs, Bits 60 f.1 ∧ Bits 60 f.2 ∧ 0 < f.2
theorem FrOk.at_ {places : List (Option (List Fr))} {i x : Nat} (h : FrOk places i) (hx : x < 3) : Bits 60 (frAt places i x).1 ∧ Bits 60 (frAt places i x).2 ∧ 0 < (frAt places i x).2 := by
  obtain ⟨frs, h1, h2, h3⟩ := h
  unfold frAt
  rw [show places.getD i none = some frs from getD_at h1]
  have hx' : x < frs.length := by omega
  rw [show (some frs).getD [] = frs from rfl, show frs.getD x (0, 1) = frs[x] by simp [List.getD, List.getElem?_eq_getElem hx']]
  exact h3 _ (List.getElem_mem hx')
theorem FrOk.in_ {places : List (Option (List Fr))} {i x : Nat} (h : FrOk places i) (hx : x < 3) {pl : Addr} (hp : ListOf PlaceF H pl places) : ∃ ys q us t, H pl = some (.lst ys) ∧ ys[i]? = some (.ref q) ∧ H q = some (.lst us) ∧ us[x]? = some (.ref t) ∧ H t = some (.tup [.int (frAt places i x).1, .int (frAt places i x).2]) := by
  obtain ⟨frs, h1, h2, h3⟩ := h
  obtain ⟨ys, hy, hpp⟩ := hp
  obtain ⟨v, hv, q, rfl, us, hus, hpu⟩ := Paired.at hpp h1
  have hx' : frs[x]? = some (frs[x]'(by omega)) := List.getElem?_eq_getElem (by omega)
  obtain ⟨v2, hv2, t, rfl, ht⟩ := Paired.at hpu hx'
  refine ⟨ys, q, us, t, hy, hv, hus, hv2, ?_⟩
  unfold frAt
  rw [show places.getD i none = some frs from getD_at h1, show (some frs).getD [] = frs from rfl, show frs.getD x (0, 1) = frs[x] from getD_at hx']
  exact ht
def spLeft (K : PySem.W.Frag) : Sp := fun vs H Q _ => ∃ (a l1 l2 pl : Addr) (N : MNet) (places : List (Option (List Fr))) (kn ax : Nat), vs = [.ref a, .ref pl, natV kn, natV ax] ∧ NetAt K H a l1 l2 N ∧ NetOk N.nodes N.spans ∧ ListOf PlaceF H pl places ∧ kn < N.nodes.length ∧ ax < 3 ∧ FrOk places kn ∧ (∀ s ∈ drawingAtM N.spans kn, FrOk places (otherEndM s kn)) ∧
  RetU [.int (leftOverM N places kn ax).1, .int (leftOverM N places kn ax).2] H Q
def LeftB (j : Nat) (t : Fr) : Prop := Bits (150 + 131 * j) t.1 ∧ Bits (1 + 130 * j) t.2 ∧ 0 < t.2
theorem left_step {places : List (Option (List Fr))} {kn ax j : Nat} {t : Fr} {s : MSpan} (hx : ax < 3) (hd : Bits 20 s.d) (h1 : FrOk places kn) (h2 : FrOk places (otherEndM s kn)) (h : LeftB j t) :
    Bits 141 (s.d * ((frAt places (otherEndM s kn) ax).1 * (frAt places kn ax).2 - (frAt places kn ax).1 * (frAt places (otherEndM s kn) ax).2)) ∧ Bits 130 (1000 * (frAt places (otherEndM s kn) ax).2 * (frAt places kn ax).2) ∧ LeftB (j + 1) (leftStep places kn ax t s) := by
  obtain ⟨a1, a2, a3⟩ := h1.at_ hx
  obtain ⟨b1, b2, b3⟩ := h2.at_ hx
  obtain ⟨t1, t2, t3⟩ := h
  have p1 := hd.mul ((b1.mul a2).sub (a1.mul b2))
  have p2 : Bits (10 + 60 + 60) (1000 * (frAt places (otherEndM s kn) ax).2 * (frAt places kn ax).2) := ((show Bits 10 1000 by unfold Bits; decide).mul b2).mul a2
  refine ⟨p1, p2, ?_, ?_, ?_⟩
  · have q1 := (t1.mul p2).mono (show 150 + 131 * j + (10 + 60 + 60) ≤ 280 + 131 * j by omega)
    have q2 := (p1.mul t2).mono (show 20 + (60 + 60 + 1) + (1 + 130 * j) ≤ 280 + 131 * j by omega)
    exact (q1.add q2).mono (by omega)
  · exact (t2.mul p2).mono (by omega)
  · exact Int.mul_pos t3 (Int.mul_pos (Int.mul_pos (by decide) b3) a3)
theorem left_bits {N : MNet} (O : NetOk N.nodes N.spans) {places : List (Option (List Fr))} {kn ax : Nat} (hk : kn < N.nodes.length) (hx : ax < 3) (h1 : FrOk places kn) (h2 : ∀ s ∈ drawingAtM N.spans kn, FrOk places (otherEndM s kn)) :
    ∀ j, j ≤ (drawingAtM N.spans kn).length → LeftB j (((drawingAtM N.spans kn).take j).foldl (leftStep places kn ax) ((N.nodes.getD kn default).vec.getD ax 0, 1))
  | 0, _ => by
    obtain ⟨_, nv, _⟩ := nodeOk O (node_at hk)
    refine ⟨((nv.get ax hx).2).mono (by omega), ?_, show (0 : Int) < 1 by decide⟩
    show Bits (1 + 130 * 0) 1
    unfold Bits
    decide
  | j + 1, hj => by
    have ih := left_bits O hk hx h1 h2 j (by omega)
    have hjj := List.getElem?_eq_getElem (show j < (drawingAtM N.spans kn).length by omega)
    have hm := List.mem_of_getElem? hjj
    rw [take_snoc hjj, List.foldl_append]
    have hd : Bits 20 ((drawingAtM N.spans kn)[j]).d := (O.span _ (List.mem_filter.mp hm).1).2.2.2.2
    exact (left_step hx hd h1 (h2 _ hm) ih).2.2
theorem ok_left_over (T : Tx K mg) : OkD P w K mg base 3 "left_over" ["net", "places", "knot", "axis"] (spLeft K) := by
  refine T.ok 75 55 "left_over" 73 sc_left_over (fun vs H Q E h => ?_) (fun _ _ _ _ _ _ us hl => match us, hl with | [_, _, _, _], _ => rfl) (fun cdv A outer s H vs Q E hr h => ?_)
  · obtain ⟨_, _, _, _, _, _, _, _, rfl, _⟩ := h
    rfl
  · obtain ⟨a, l1, l2, pl, N, places, kn, ax, rfl, hN, hO, hpl, hkn, hx, h1, h2, k⟩ := h
    refine ⟨_, (pss_cons (ps_set (i := 4) sc_left_over.nd rfl (Or.inl rfl) (pe_ixT K (pe_fldK K (pe_ixL K (pe_fldK K (pv 0)) (pv 2))) (pv 3)))
        (pss_cons (ps_set (i := 5) sc_left_over.nd rfl (Or.inl rfl) pe_int)
        (pss_cons (ps_asg (pe_ixL K (pe_ixL K (pv 1) (pv 2)) (pv 3)) (pg_tupK K (n := 2) (pgs_cons (pg_name (i := 6) sc_left_over.nd rfl (Or.inl rfl)) (pgs_cons (pg_name (i := 7) sc_left_over.nd rfl (Or.inl rfl)) pgs_nil))))
        (pss_cons (ps_for PassesOwn.never rfl (pi_listK K (pe_callD (ok_drawing_at (K := K) T) (hr.mono (by decide)) (pa_cons (pe_fldK K (pv 0)) (pa_cons (pv 2) pa_nil)))) (pg_name (i := 8) sc_left_over.nd rfl (Or.inl rfl)) (pss_cons (ps_asg (pe_ixL K (pe_ixL K (pv 1) (pe_callD (ok_other_end (K := K) T) (hr.mono (by decide)) (pa_cons (pv 8) (pa_cons (pv 2) pa_nil)))) (pv 3)) (pg_tupK K (n := 2) (pgs_cons (pg_name (i := 9) sc_left_over.nd rfl (Or.inl rfl)) (pgs_cons (pg_name (i := 10) sc_left_over.nd rfl (Or.inl rfl)) pgs_nil))))
        (pss_cons (ps_set (i := 11) sc_left_over.nd rfl (Or.inl rfl) (pe_op op_mulW (pe_fldK K (pv 8)) (pe_op op_sub (pe_op op_mulW (pv 9) (pv 7)) (pe_op op_mulW (pv 6) (pv 10)))))
        (pss_cons (ps_set (i := 12) sc_left_over.nd rfl (Or.inl rfl) (pe_op op_mulW (pe_op op_mulW (pe_const (T_THOUSAND T)) (pv 10)) (pv 7)))
        (pss_one (ps_par (i := 4) (j := 5) (by rfl) sc_left_over.nd rfl rfl (by decide) rfl rfl (pa_cons (pe_op op_add (pe_op op_mulW (pv 4) (pv 12)) (pe_op op_mulW (pv 11) (pv 5))) (pa_cons (pe_op op_mulW (pv 5) (pv 12)) pa_nil)) (by rfl)))))))
        (pss_one (ps_ret (pe_tup (pa_cons (pv 4) (pa_cons (pv 5) pa_nil))))))))), ?_⟩
    obtain ⟨u, hu, ku⟩ := e_node T hN (node_at hkn)
    obtain ⟨_, nv, _⟩ := nodeOk hO (node_at hkn)
    obtain ⟨q, dx, t, rfl, hq, ht⟩ := id hu
    obtain ⟨ys, q1, us, t1, o1, o2, o3, o4, o5⟩ := h1.in_ hx hpl
    obtain ⟨a1, a2, a3⟩ := h1.at_ hx
    refine q_asg (v := .int ((N.nodes.getD kn default).vec.getD ax 0)) (ev_op (ev_fld (ku (Ex.refl _) (ev_var rfl) (ev_var rfl)) hq (C_Node T) (F_Node_vector T) (l_vector _ _)) (ev_var rfl) (rv_ixT (SqT.of ht) (atI_nat (il_at (nv.get ax hx).1)))) fun H1 e1 => ?_
    refine q_asg ev_c fun H2 e2 => ?_
    have e12 := e1.trans e2
    refine u_asg ((ev_op (ev_op (ev_var rfl) (ev_var rfl) (rv_ixL (SqL.of (e12 _ _ o1)) (atI_nat o2))) (ev_var rfl) (rv_ixL (SqL.of (e12 _ _ o3)) (atI_nat o4))) H2 (Ex.refl _) _ fun H3 e3 => ?_)
    refine ⟨t1, _, rfl, SqT.of ((e12.trans e3) _ _ o5), rfl, _, _, rfl, _, _, rfl, rfl, ?_⟩
    have e13 := e12.trans e3
    have hN3 := hN.mono e13
    refine u_forL (Pz := fun H' zs => Paired (SpanR K H') (drawingAtM N.spans kn) zs) (elp_call (ea_cons (e_spans T hN3 (ev_var rfl)) (ea_cons (ev_var rfl) ea_nil)) fun H4 e4 Q' E' k' => ⟨l2, N.spans, kn, rfl, hN3.spans.mono SpanR.mon e4, hO.sl, k'⟩) fun dp zs H4 e4 h4 hP => ?_
    have lz := Paired.len hP
    have hP4 : Paired (SpanR K H4) (drawingAtM N.spans kn) zs := Paired.imp (fun _ _ r => SpanR.mon _ _ _ _ (hide_ex dp H4) r) hP
    refine ⟨fun j σ' H' => ∃ (c : Fr) (x y z u v : Option V), c = ((drawingAtM N.spans kn).take j).foldl (leftStep places kn ax) ((N.nodes.getD kn default).vec.getD ax 0, 1) ∧ σ' = [some (.ref a), some (.ref pl), some (natV kn), some (natV ax), some (.int c.1), some (.int c.2), some (.int (frAt places kn ax).1), some (.int (frAt places kn ax).2), x, y, z, u, v] ∧ Ex H4 H', ⟨((N.nodes.getD kn default).vec.getD ax 0, 1), none, none, none, none, none, rfl, rfl, Ex.refl _⟩, fun j σ' H' ⟨_, _, _, _, _, _, _, _, e⟩ => e, ?_, ?_⟩
    · rintro j x σ' H' hx' ⟨c, x0, x1, x2, x3, x4, hc, rfl, e5⟩
      obtain ⟨s, hs, r⟩ := Paired.back hP4 hx'
      have hm := List.mem_of_getElem? hs
      have hj : j < (drawingAtM N.spans kn).length := (List.getElem?_eq_some_iff.mp hs).1
      have r5 := SpanR.mon _ _ _ _ e5 r
      obtain ⟨sq, sdx, rfl, hsq⟩ := id r5
      have hd : Bits 20 s.d := (hO.span _ (List.mem_filter.mp hm).1).2.2.2.2
      have hB := left_bits hO hkn hx h1 h2 j (by omega)
      rw [← hc] at hB
      obtain ⟨p1, p2, hB2⟩ := left_step hx hd h1 (h2 s hm) hB
      obtain ⟨c1, c2, c3⟩ := hB
      obtain ⟨b1, b2, b3⟩ := (h2 s hm).at_ hx
      obtain ⟨ys', q2, us2, t2, w1, w2, w3, w4, w5⟩ := (h2 s hm).in_ hx hpl
      have e15 := (e13.trans e4).trans e5
      refine u_asg ((ev_op (ev_op (ev_var rfl) (ev_call (ea_cons (ev_var rfl) (ea_cons (ev_var rfl) ea_nil)) (v_other r5)) (rv_ixL (SqL.of (e15 _ _ w1)) (atI_nat w2))) (ev_var rfl) (rv_ixL (SqL.of (e15 _ _ w3)) (atI_nat w4))) H' (Ex.refl _) _ fun H6 e6 => ?_)
      refine ⟨t2, _, rfl, SqT.of ((e15.trans e6) _ _ w5), rfl, _, _, rfl, _, _, rfl, rfl, ?_⟩
      refine q_asg (ev_op (ev_fld (ev_var rfl) (e6 _ _ hsq) (C_Span T) (F_Span_density T) (l_density _)) (ev_op (ev_op (ev_var rfl) (ev_var rfl) (rv_I (mulW b1 a2 (by decide) (by decide) (by decide)))) (ev_op (ev_var rfl) (ev_var rfl) (rv_I (mulW a1 b2 (by decide) (by decide) (by decide)))) rv_I0) (rv_I (mulW hd ((b1.mul a2).sub (a1.mul b2)) (by decide) (by decide) (by decide)))) fun H7 e7 => ?_
      refine q_asg (ev_op (ev_op ev_c (ev_var rfl) (rv_I (mulW (k := 10) (show Bits 10 1000 by unfold Bits; decide) b2 (by decide) (by decide) (by decide)))) (ev_var rfl) (rv_I (mulW ((show Bits 10 1000 by unfold Bits; decide).mul b2) a2 (by decide) (by decide) (by decide)))) fun H8 e8 => ?_
      have hj40 : j < 40 := by
        have := drawingAt_len (spans := N.spans) kn
        have := hO.sl
        omega
      refine (ea_cons (ev_op (ev_op (ev_var rfl) (ev_var rfl) (rv_I (mulW c1 p2 (by omega) (by decide) (by omega)))) (ev_op (ev_var rfl) (ev_var rfl) (rv_I (mulW p1 c2 (by decide) (by omega) (by omega)))) rv_I0) (ea_cons (ev_op (ev_var rfl) (ev_var rfl) (rv_I (mulW c2 p2 (by omega) (by decide) (by omega)))) ea_nil)) H8 (Ex.refl _) _ fun H9 e9 => ?_
      refine ⟨_, _, rfl, leftStep places kn ax c s, _, _, _, _, _, ?_, rfl, (((e5.trans e6).trans e7).trans e8).trans e9⟩
      rw [take_snoc hs, List.foldl_append, ← hc]
      rfl
    · rintro σ' H' ⟨c, x0, x1, x2, x3, x4, hc, rfl, e5⟩
      rw [← lz, List.take_length] at hc
      refine s_retU (eu_tup (ea_cons (ev_var rfl) (ea_cons (ev_var rfl) ea_nil)) (by show 2 ≤ 100000; decide)) fun p H6 hp e6 h6 => k p H6 (fresh_back ((e13.trans e4).trans e5) hp) (((e13.trans e4).trans e5).trans e6) ?_
      rw [h6, hc]
      rfl
end
end Wp


namespace Wp
open PySem PySem.Spec PyProof.Rows L2 Evl
open He (ga ma Fa DefD SaysD)
/-! ### xs[1::2] -/
def evensA {α : Type} : List α → List α
  | _ :: b :: r => b :: evensA r
  | _ => []
theorem evensA_rel : ∀ {xs : List V} {ys : List Value}, Vals xs ys → Vals (evensA xs) (evensA ys)
  | _, _, .nil => .nil
  | _, _, .cons _ .nil => .nil
  | _, _, .cons _ (.cons h t) => .cons h (evensA_rel t)
theorem evensA_len {α : Type} : ∀ xs : List α, (evensA xs).length ≤ xs.length
  | [] => Nat.le_refl _
  | [_] => Nat.zero_le _
  | _ :: _ :: r => by
    have := evensA_len r
    show (evensA r).length + 1 ≤ r.length + 2
    omega
theorem evensA_map {α β : Type} (f : α → β) : ∀ xs : List α, evensA (xs.map f) = (evensA xs).map f
  | [] => rfl
  | [_] => rfl
  | _ :: b :: r => by
    show f b :: evensA (r.map f) = f b :: (evensA r).map f
    rw [evensA_map f r]
theorem evensA_int : ∀ xs : List Int, evensA xs = evens xs
  | [] => rfl
  | [_] => rfl
  | _ :: b :: r => by
    show b :: evensA r = b :: evens r
    rw [evensA_int r]
theorem evensA_pick {α : Type} : ∀ l : List α, ((List.range (l.length / 2)).map fun k => 1 + 2 * k).filterMap (l[·]?) = evensA l
  | [] => by simp [evensA]
  | [_] => by simp [evensA]
  | a :: b :: r => by
    have e : (a :: b :: r).length / 2 = r.length / 2 + 1 := by
      show (r.length + 1 + 1) / 2 = _
      omega
    rw [e, List.range_succ_eq_map, List.map_cons, List.filterMap_cons]
    show b :: _ = b :: _
    congr 1
    rw [← evensA_pick r, List.map_map, List.filterMap_map, List.filterMap_map]
    congr 1
theorem slicePick_evens (its : List Value) : slicePick its.toArray (some 1) none (some 2) = (evensA its).toArray := by
  unfold slicePick
  congr 1
  rw [← evensA_pick its]
  have e : (sliceRange (sliceBounds (some 1) none (some 2) its.toArray.size).1 (sliceBounds (some 1) none (some 2) its.toArray.size).2.1 (sliceBounds (some 1) none (some 2) its.toArray.size).2.2) = (List.range (its.length / 2)).map fun k => 1 + 2 * k := by
    rw [List.size_toArray]
    have b1 : (sliceBounds (some 1) none (some 2) its.length).1 = max 0 (min 1 (its.length : Int)) := rfl
    have b2 : (sliceBounds (some 1) none (some 2) its.length).2.1 = its.length := rfl
    have b3 : (sliceBounds (some 1) none (some 2) its.length).2.2 = 2 := rfl
    rw [b1, b2, b3]
    unfold sliceRange
    dsimp only
    rw [if_pos (show (2 : Int) > 0 by decide)]
    have h1 : (if max 0 (min 1 (its.length : Int)) < (its.length : Int) then (((its.length : Int) - max 0 (min 1 (its.length : Int)) + 2 - 1) / 2) else 0).toNat = its.length / 2 := by
      split <;> omega
    rw [h1]
    refine List.map_congr_left fun k hk => ?_
    have hk' : k < its.length / 2 := by simpa using hk
    omega
  rw [e]
  simp
/-- te[1::2] -/
def tSl12 (K : PySem.W.Frag) (te : TE) : TE := fun σ H Q => te σ H fun x H1 => ∃ a xs, x = .ref a ∧ SqL K H1 a xs ∧ ∀ p, H1 p = none → Q (.ref p) (upd H1 p (.lst (evensA xs)))
theorem pe_slice12 (K : PySem.W.Frag) {X : Cx} {e : Expr} {te : TE} {pos p1 p2 p3 : Pos} {k1 k2 : Nat} (he : PE X e te) (hK : X.K = K := by rfl) :
    PE X (.Subscript e (.Slice (some (.Constant (.int 1) k1 p1)) none (some (.Constant (.int 2) k2 p3)) p2) pos) (tSl12 K te) := by
  subst hK
  refine ⟨fun pins s σ H Q I h => ?_⟩
  refine Subscript_ (thn (he.run pins s σ H _ I h) fun v s1 ⟨x, H1, I1, r1, q1⟩ => ?_)
  refine wpAny_Slice (thn ((po_some (X := X) (pe_int (i := 1) (j := k1) (pos := p1))).run pins s1 σ H1 (fun o H' => o = some 1 ∧ H' = H1) I1 ⟨1, rfl, rfl, rfl⟩) fun vl s2 ⟨l, H2, I2, pl, e1, e2⟩ => ?_)
  subst e1 e2
  rw [evalPart_none]
  refine wpAny_pure (thn ((po_some (X := X) (pe_int (i := 2) (j := k2) (pos := p3))).run pins s2 σ H2 (fun o H' => o = some 2 ∧ H' = H2) I2 ⟨2, rfl, rfl, rfl⟩) fun vs s3 ⟨l, H3, I3, ps, e1, e2⟩ => ?_)
  subst e1 e2
  have I4 : Inv X pins σ H3 { s3 with heap := s3.heap.push { cls := .type "slice", data := .fields #[vl, .none, vs] } } := I3.kept (t' := s3.toks) fun b ob q => Heap.get?_push_of_some _ q
  obtain ⟨a, xs, rfl, hx, q⟩ := q1
  cases r1
  obtain ⟨its, r, ht, hz⟩ := I4.list hx
  refine tail_any (ops := [.ref a, .ref s3.heap.objs.size]) ht.isList.typeIs slot_list_getitem.lookup ?_ (by with_unfolding_all rfl)
  have hlen := r.length
  refine wpAny_getItem_list_slice ht.isList (Heap.IsSliceOf.new ..) pl .none ps (by simp) ?_ (by rw [List.size_toArray] <;> omega)
  rw [slicePick_evens]
  refine ⟨.ref _, _, I4.laid (t' := s3.toks) (o := .lst (evensA xs)) (fun b ob q => Heap.get?_push_of_some _ q) (Nat.le_refl _) ?_, rfl, q _ (I4.hok.fresh (Nat.le_refl _))⟩
  exact ⟨Nat.le_trans (evensA_len xs) hz, _, 0, evensA_rel r, Heap.get?_push_size _ rfl⟩
end Wp


namespace Wp
open PySem PySem.Spec PyProof.Rows L2 Evl
open He (ga ma Fa DefD SaysD)
/-! ### the row's places -/
theorem told_flat_len : ∀ L : List Fr, (L.flatMap fun f => toldM f.1 f.2).length = 2 * L.length
  | [] => rfl
  | f :: r => by
    rw [List.flatMap_cons, List.length_append, told_flat_len r]
    show 2 + 2 * r.length = 2 * (r.length + 1)
    omega
theorem evens_at : ∀ (l : List Int) (j : Nat), (evens l)[j]? = l[2 * j + 1]?
  | [], j => by simp [evens]
  | [_], j => by simp [evens]
  | a :: b :: r, 0 => rfl
  | a :: b :: r, j + 1 => by
    show (b :: evens r)[j + 1]? = (a :: b :: r)[2 * (j + 1) + 1]?
    rw [List.getElem?_cons_succ, evens_at r j, show 2 * (j + 1) + 1 = (2 * j + 1) + 1 + 1 by omega, List.getElem?_cons_succ, List.getElem?_cons_succ]
theorem rowKn_at {knots : List Nat} {row : List Int} {p : List (Option (List Fr))} {i : Nat} (hi : i < p.length) : ∀ m, m ≤ knots.length → (i ∉ knots.take m ∧ (rowKn knots row m p)[i]? = p[i]?) ∨ ∃ x, x < m ∧ knots[x]? = some i ∧ (rowKn knots row m p)[i]? = some (some (rowFr row x))
  | 0, _ => Or.inl ⟨by simp, rfl⟩
  | m + 1, hm => by
    have hm' : m < knots.length := by omega
    have hk := List.getElem?_eq_getElem hm'
    have step : rowKn knots row (m + 1) p = (rowKn knots row m p).set (knots[m]) (some (rowFr row m)) := by
      unfold rowKn
      rw [take_snoc (show (knots.zipIdx)[m]? = some (knots[m], m) by rw [List.getElem?_zipIdx, hk]; simp), List.foldl_append]
      rfl
    rw [step]
    by_cases e : knots[m] = i
    · have h1 : (rowKn knots row m p).length = p.length := rowKn_len _ _ _ _
      refine Or.inr ⟨m, by omega, by rw [hk, e], ?_⟩
      rw [e, List.getElem?_set_self (by omega)]
    · rw [List.getElem?_set_ne e]
      rcases rowKn_at (knots := knots) (row := row) hi m (Nat.le_of_lt hm') with ⟨h1, h2⟩ | ⟨x, h1, h2, h3⟩
      · refine Or.inl ⟨?_, h2⟩
        rw [take_snoc hk]
        intro h
        rcases List.mem_append.mp h with h | h
        · exact h1 h
        · exact e (by have h2 : i = knots[m] := by simpa using h
                      exact h2.symm)
      · exact Or.inr ⟨x, by omega, h2, h3⟩
theorem rowFix_at {nodes : List MNode} {i : Nat} (hi : i < nodes.length) (hf : (nodes.getD i default).fixed = true) : ∀ m, i < m → (rowFix nodes m)[i]? = some (some (fixFr (nodes.getD i default)))
  | m + 1, hm => by
    have step : rowFix nodes (m + 1) = if (nodes.getD m default).fixed = true then (rowFix nodes m).set m (some (fixFr (nodes.getD m default))) else rowFix nodes m := by
      unfold rowFix
      rw [List.range_succ, List.foldl_append, List.foldl_cons, List.foldl_nil]
    rw [step]
    by_cases e : m = i
    · subst e
      rw [if_pos hf, List.getElem?_set_self (by rw [rowFix_len]; exact hi)]
    · split
      · rw [List.getElem?_set_ne e]
        exact rowFix_at hi hf m (by omega)
      · exact rowFix_at hi hf m (by omega)
theorem row_ok {nodes : List MNode} {l : List MSpan} (O : NetOk nodes l) {h : List Bool} {row : List Int} (hb : ∀ z ∈ row, Bits 60 z) (hl : row.length = 6 * (knotsM nodes h).length) (hp : (evens row).any (fun b => decide (b < 1)) = false) {i : Nat} (hi : i < nodes.length) (hh : h.getD i false = true) : FrOk (rowPlacesM nodes (knotsM nodes h) row) i := by
  rw [rowPlaces_is]
  have hgt : ∀ j, j < 3 * (knotsM nodes h).length → Bits 60 (row.getD (2 * j) 0) ∧ Bits 60 (row.getD (2 * j + 1) 0) ∧ 0 < row.getD (2 * j + 1) 0 := fun j hj => by
    refine ⟨getD_bits hb _, getD_bits hb _, ?_⟩
    have h1 : (evens row)[j]? = some (row.getD (2 * j + 1) 0) := by rw [evens_at]; exact nat_at (by omega)
    have h2 := List.any_eq_false.mp hp _ (List.mem_of_getElem? h1)
    rw [decide_eq_true_eq] at h2
    omega
  rcases rowKn_at (knots := knotsM nodes h) (row := row) (p := rowFix nodes nodes.length) (i := i) (by rw [rowFix_len]; exact hi) (knotsM nodes h).length (Nat.le_refl _) with ⟨h1, h2⟩ | ⟨x, h1, h2, h3⟩
  · rw [List.take_length] at h1
    have hf : (nodes.getD i default).fixed = true := by
      cases hf : (nodes.getD i default).fixed with
      | true => rfl
      | false =>
        refine absurd ?_ h1
        unfold knotsM
        refine List.mem_filter.mpr ⟨by simpa using hi, ?_⟩
        rw [hh, hf]
        rfl
    refine ⟨fixFr (nodes.getD i default), by rw [h2]; exact rowFix_at hi hf _ hi, rfl, fun f hf => ?_⟩
    obtain ⟨_, nv, _⟩ := nodeOk O (node_at hi)
    unfold fixFr at hf
    obtain ⟨z, hz, rfl⟩ := List.mem_map.mp hf
    obtain ⟨j, hj, e⟩ := List.getElem_of_mem hz
    have h4 := (nv.get j hj).2
    rw [show (nodes.getD i default).vec.getD j 0 = z from getD_at (by rw [List.getElem?_eq_getElem hj, e])] at h4
    exact ⟨h4.mono (by decide), show Bits 60 1 by unfold Bits; decide, show (0 : Int) < 1 by decide⟩
  · refine ⟨rowFr row x, h3, rfl, fun f hf => ?_⟩
    unfold rowFr at hf
    obtain ⟨k, hk, rfl⟩ := List.mem_map.mp hf
    have hk3 : k < 3 := by simpa using hk
    have := hgt (3 * x + k) (by omega)
    rw [show 2 * (3 * x + k) = 6 * x + 2 * k by omega] at this
    exact this
theorem find_at {α : Type} {p : α → Bool} {l : List α} {j : Nat} {x : α} (h : l[j]? = some x) (hx : p x = true) (hn : ∀ y ∈ l.take j, p y = false) : l.find? p = some x := by
  have e : l = l.take j ++ l.drop j := (List.take_append_drop j l).symm
  rw [e, List.find?_append, List.find?_eq_none.mpr (fun y hy => by rw [hn y hy]; decide)]
  have hj := (List.getElem?_eq_some_iff.mp h).1
  rw [List.drop_eq_getElem_cons hj]
  have e2 : l[j] = x := (List.getElem?_eq_some_iff.mp h).2
  rw [e2]
  simp [hx]
section
variable {P : Program} {w : World} {K : PySem.W.Frag} {mg : Str → Option Value} {base : Heap} {σ : L2.St} {H : Hp} {ta : TA} {te ti tf : TE}
theorem el_callVL {sp : Sp} {x : V} {xs ys : List V} (h1 : Ev te σ H x) (h : EvL tf σ H xs) (hs : ∀ p H1, Ex H H1 → H1 p = some (.lst xs) → SpL sp [x, .ref p] H1 ys) : EvL (tCall sp [] E0 (tCons te (tCons tf tNil))) σ H ys := fun H1 e Q q =>
  h1 H1 e _ fun H2 e2 => h H2 (e.trans e2) _ fun p H3 hp e3 h3 => hs p H3 ((e.trans e2).trans e3) h3 H3 (Ex.refl H3) Q (fun p2 H4 hp2 e4 h4 => q p2 H4 (fresh_back (e2.trans e3) hp2) ((e2.trans e3).trans e4) h4) E0
theorem el_sl12 {a : Addr} {xs : List V} (h : Ev te σ H (.ref a)) (hs : SqL K H a xs) : EvL (tSl12 K te) σ H (evensA xs) := fun H1 e _ q =>
  h H1 e _ fun H2 e2 => ⟨a, xs, rfl, ex_l (e.trans e2) hs, fun p hp => q p _ (fresh_back e2 hp) (e2.trans (Ex.new hp)) upd_same⟩
theorem eu_call {sp : Sp} {vs xs : List V} (h : EvA ta σ H vs) (hs : ∀ H1, Ex H H1 → ∀ Q E, RetU xs H1 Q → sp vs H1 Q E) : EvU (tCall sp [] E0 ta) σ H xs := fun H1 e Q q =>
  h H1 e _ fun H2 e2 => by
    show sp (vs ++ []) H2 Q E0
    rw [List.append_nil]
    exact hs H2 (e.trans e2) Q E0 fun p H3 hp e3 h3 => q p H3 (fresh_back e2 hp) (e2.trans e3) h3
/-- for x, y in a list of pairs -/
theorem q_forT2 {a : Addr} {i j : Nat} {ys : List V} {fs : List Fr} {tl : TE} {tu tz : TS} {D : Ends} (h : Ev tl σ H (.ref a)) (hs : H a = some (.lst ys)) (hp : Paired (FrR H) fs ys) (Pv : Nat → L2.St → Hp → Prop) (h0 : ∀ H1, Ex H H1 → Pv 0 σ H1) (hl : ∀ k σ' H', Pv k σ' H' → H' a = some (.lst ys) ∧ Paired (FrR H') fs ys)
    (turn : ∀ (k : Nat) f σ' H', fs[k]? = some f → Pv k σ' H' → tu { D with nx := Pv (k + 1), ct := Pv (k + 1), bk := tz D } ((σ'.set i (some (.int f.1))).set j (some (.int f.2))) H')
    (hd : ∀ σ' H', Pv fs.length σ' H' → tz D σ' H') : tSeq (tFor (iList K tl) (gTup K 2 (gCons (gName i) (gCons (gName j) gNil))) tu) tz D σ H :=
  h H (Ex.refl H) _ fun H1 e1 => ⟨a, rfl, ⟨ys, SqL.of (e1 _ _ hs)⟩, for_it (D := { D with nx := tz D }) (walk_list (xs := ys)) Pv (h0 H1 e1) (fun k σ' H' _ q => SqL.of (hl k σ' H' q).1) (fun k it σ' H' H'' hk p y => by
    obtain ⟨rfl, hit⟩ := y
    obtain ⟨f, hf, t, rfl, ht⟩ := Paired.back (hl k σ' _ p).2 hit
    exact ⟨t, _, rfl, SqT.of ht, rfl, _, _, rfl, _, _, rfl, rfl, turn k f σ' _ hf p⟩) (fun σ' H' q => hd σ' H' (by rw [Paired.len hp]; exact q))⟩
def relJudge (N : MNet) (nums ans : List Int) : Prop := (∀ z ∈ nums, Bits 60 z) ∧ ans = judgeM N nums
def spJudge (K : PySem.W.Frag) : Sp := spAsk K relJudge
def badAt (N : MNet) (places : List (Option (List Fr))) (k : Nat) : Bool := ((List.range 3).map (leftOverM N places k)).any fun f => decide (f.1 ≠ 0)
theorem judge_is {N : MNet} {row : List Int} {knots : List Nat} (hk : knotsM N.nodes (hangM N.nodes N.spans) = knots) : judgeM N row =
  if row.length ≠ 6 * knots.length then [-1] else if (evens row).any (fun b => decide (b < 1)) = true then [-1] else
    match knots.find? (badAt N (rowPlacesM N.nodes knots row)) with
    | none => [0]
    | some k => 1 :: (k : Int) :: ((List.range 3).map (leftOverM N (rowPlacesM N.nodes knots row) k)).flatMap fun f => toldM f.1 f.2 := by
  subst hk
  rfl
theorem ok_judge (T : Tx K mg) : OkD P w K mg base 4 "judge" ["net", "numbers"] (spJudge K) := by
  refine T.ok 73 53 "judge" 71 sc_judge (fun vs H Q E h => ?_) (fun _ _ _ _ _ _ us hl => match us, hl with | [_, _], _ => rfl) (fun cdv A outer s H vs Q E hr h => ?_)
  · obtain ⟨_, _, _, _, _, _, _, rfl, _⟩ := h
    rfl
  · obtain ⟨a, l1, l2, na, N, nums, ans, rfl, hN, hI, hO, hA, hrel, k⟩ := h
    refine ⟨_, (pss_cons (ps_set (i := 2) sc_judge.nd rfl (Or.inl rfl) (pe_callD (ok_hanging_knots (K := K) T) (hr.mono (by decide)) (pa_cons (pe_fldK K (pv 0)) (pa_cons (pe_callD (ok_hanging (K := K) T) (hr.mono (by decide)) (pa_cons (pe_fldK K (pv 0)) (pa_cons (pe_fldK K (pv 0)) pa_nil))) pa_nil))))
        (pss_cons (ps_if (pt_cmpR op_ne (pe_len K (T_len T) (pa_cons (pv 1) pa_nil)) (pe_op op_mulW pe_int (pe_len K (T_len T) (pa_cons (pv 2) pa_nil))) (nomark _)) (pss_one (ps_ret (pe_lst (pa_cons (pe_const (T_NOT_SO T)) pa_nil)))) pss_nil)
        (pss_cons (ps_if (pt_val (pe_any K (T_any T) (pa_cons (pe_lc (own := [("bottom", 8)]) (g := gName 8) (tt := tYes) rfl sc_judge.nd (pi_listK K (pe_slice12 K (pv 1))) (blkOk_by (own := [("bottom", 8)]) (N := N_judge) (sc := defScope (top 71)) (by decide +kernel)) (fun _ _ _ _ _ => (pg_name (i := 8) sc_judge.nd rfl (Or.inl rfl))) (fun _ _ _ _ _ => pts_nil) (fun _ _ _ _ _ => (pe_cmpR op_lt (pv 8) pe_int (nomark _)))) pa_nil))) (pss_one (ps_ret (pe_lst (pa_cons (pe_const (T_NOT_SO T)) pa_nil)))) pss_nil)
        (pss_cons (ps_set (i := 3) sc_judge.nd rfl (Or.inr rfl) (pe_callD (ok_row_places (K := K) T) (hr.mono (by decide)) (pa_cons (pe_fldK K (pv 0)) (pa_cons (pv 2) (pa_cons (pv 1) pa_nil)))))
        (pss_cons (ps_for PassesOwn.never rfl (pi_listK K (pv 2)) (pg_name (i := 4) sc_judge.nd rfl (Or.inr rfl)) (pss_cons (ps_setLc (i := 5) (own := [("axis", 9)]) (g := gName 9) (tt := tYes) rfl sc_judge.nd rfl rfl (sw_true rfl rfl rfl (by decide +kernel)) (pi_rangeK (T_range T) (pa_cons pe_int pa_nil)) (blkOk_by (own := [("axis", 9)]) (N := N_judge) (sc := defScope (top 71)) (by decide +kernel)) (fun _ _ _ _ _ => (pg_name (i := 9) sc_judge.nd rfl (Or.inl rfl))) (fun _ _ _ _ _ => pts_nil) (fun _ _ _ _ _ => (pe_callD (ok_left_over (K := K) T) (hr.mono (by decide)) (pa_cons (pv 0) (pa_cons (pv 3) (pa_cons (pv 4) (pa_cons (pv 9) pa_nil)))))))
        (pss_one (ps_if (pt_val (pe_any K (T_any T) (pa_cons (pe_lc (own := [("top", 7), ("bottom", 8)]) (tt := tYes) rfl sc_judge.nd (pi_listK K (pv 5)) (blkOk_by (own := [("top", 7), ("bottom", 8)]) (N := N_judge) (sc := defScope (top 71)) (by decide +kernel)) (fun _ _ _ _ _ => (pg_tupK K (n := 2) (pgs_cons (pg_name (i := 7) sc_judge.nd rfl (Or.inl rfl)) (pgs_cons (pg_name (i := 8) sc_judge.nd rfl (Or.inl rfl)) pgs_nil)))) (fun _ _ _ _ _ => pts_nil) (fun _ _ _ _ _ => (pe_cmpR op_ne (pv 7) pe_int (nomark _)))) pa_nil))) (pss_cons (ps_set (i := 6) sc_judge.nd rfl (Or.inl rfl) (pe_lst (pa_cons pe_int (pa_cons (pv 4) pa_nil))))
        (pss_cons (ps_for PassesOwn.never rfl (pi_listK K (pv 5)) (pg_tupK K (n := 2) (pgs_cons (pg_name (i := 7) sc_judge.nd rfl (Or.inl rfl)) (pgs_cons (pg_name (i := 8) sc_judge.nd rfl (Or.inl rfl)) pgs_nil))) (pss_one (ps_expr (pe_lm K PySem.F.slot_list_extend PySem.F.type_list_extend mt_extend (pv 6) (pa_cons (pe_callD (ok_told (K := K) T) (hr.mono (by decide)) (pa_cons (pv 7) (pa_cons (pv 8) pa_nil))) pa_nil)))))
        (pss_one (ps_ret (pv 6))))) pss_nil))))
        (pss_one (ps_ret (pe_lst (pa_cons pe_int pa_nil))))))))), ?_⟩
    obtain ⟨hbits, rfl⟩ := hrel
    have hR := hA _ _ hO
    have hnl := hO.nl
    refine q_asgL (el_callVL (e_nodes T hN (ev_var rfl)) (el_call (ea_cons (e_nodes T hN (ev_var rfl)) (ea_cons (e_spans T hN (ev_var rfl)) ea_nil)) (l_hanging hN.nodes hN.spans hO)) fun p H1 e1 h1 => l_knots (hN.nodes.mono NodeR.mon e1) h1 (hangM_len _ _) hnl) fun ka H1 hka e1 h1 => ?_
    have hkl := hR.knots.len
    have hklt : ∀ j ∈ knotsM N.nodes (hangM N.nodes N.spans), j < N.nodes.length ∧ (hangM N.nodes N.spans).getD j false = true := fun j hj => ⟨(knot_is hj).1, (knot_is hj).2.1⟩
    have hrow := fun (hl : nums.length = 6 * (knotsM N.nodes (hangM N.nodes N.spans)).length) (hp : (evens nums).any (fun b => decide (b < 1)) = false) (i : Nat) (hi : i < N.nodes.length) hh => row_ok hO hbits hl hp (i := i) hi hh
    generalize hkn : knotsM N.nodes (hangM N.nodes N.spans) = knots at h1 hkl hklt hrow
    rw [judge_is hkn] at k
    refine q_when (b := decide (nums.length ≠ 6 * knots.length)) (et_is (et_test (ev_op (ev_len2 (n := (nums.length : Int)) (ev_var rfl) (e1 _ _ hI) (by rw [List.length_map])) (ev_op ev_c (ev_len2 (n := (knots.length : Int)) (ev_var rfl) h1 (by rw [List.length_map])) (rv_I (smallW (by decide) (by rw [Int.natAbs_natCast]; exact Nat.lt_of_le_of_lt hkl (by decide))))) (rv_ne rfl))) ?_) (fun hb H2 e2 => ?_) (fun hb H2 e2 => ?_)
    · rw [intV_eq]
      by_cases h : nums.length = 6 * knots.length
      · rw [decide_eq_true (show (nums.length : Int) = 6 * (knots.length : Int) by omega), decide_eq_false (by simpa using h)]
        rfl
      · rw [decide_eq_false (show ¬ (nums.length : Int) = 6 * (knots.length : Int) by omega), decide_eq_true h]
        rfl
    · rw [if_pos (of_decide_eq_true hb)] at k
      exact ret1 ev_c fun p H3 e3 h3 => k p H3 ((e1.trans e2).fr e3) h3
    rw [if_neg (of_decide_eq_false hb)] at k
    have hlen : nums.length = 6 * knots.length := by simpa using hb
    have e12 := e1.trans e2
    refine q_when (b := (evens nums).any (fun b => decide (b < 1))) (et_B (ev_is (ev_anyL (bs := (evens nums).map fun b => decide (b < 1)) (el_is (el_lc (src_newL (f := V.int) (xs := evens nums) (el_is (el_sl12 (ev_var rfl) (SqL.of (e12 _ _ hI))) (by rw [evensA_map, evensA_int]))) (fun _ => true) (fun b => V.bl (decide (b < 1))) (gName_mono 8) ?_ ?_) ?_)) ?_)) (fun hb2 H3 e3 => ?_) (fun hb2 H3 e3 => ?_)
    · have := evensA_len nums
      rw [evensA_int] at this
      omega
    · rintro j x it H3 H4 H5 hx e3 e4 ⟨rfl, rfl⟩
      exact ⟨Ex.refl _, rfl, et_yes, fun _ => ev_op (ev_var rfl) ev_c rv_I0⟩
    · rw [filter_true, List.map_map]
      rfl
    · rw [List.any_map]
      rfl
    · rw [if_pos hb2] at k
      exact ret1 ev_c fun p H4 e4 h4 => k p H4 ((e12.trans e3).fr e4) h4
    rw [if_neg (by rw [hb2]; decide)] at k
    have e13 := e12.trans e3
    have hN3 := hN.mono e13
    have hfr := hrow hlen hb2
    refine u_asg ((ea_cons (e_nodes T hN3 (ev_var rfl)) (ea_cons (ev_var rfl) (ea_cons (ev_var rfl) ea_nil))) H3 (Ex.refl _) _ fun H4 e4 => ⟨l1, ka, na, N.nodes, knots, nums, rfl, hN3.nodes.mono NodeR.mon e4, ((e2.trans e3).trans e4) _ _ h1, hI.mono (e13.trans e4), hnl, fun j hj => (hklt j hj).1, hlen, hkl, fun pl H5 e5 h5 => ?_⟩)
    generalize rowPlacesM N.nodes knots nums = places at hfr h5 k
    have e15 := (e13.trans e4).trans e5
    have hN5 := hN.mono e15
    have hB := hR.bal
    have hbad : ∀ j ∈ knots, ∀ x, x < 3 → LeftB (drawingAtM N.spans j).length (leftOverM N places j x) := fun j hj x hx => by
      obtain ⟨q1, q2⟩ := hklt j hj
      have := left_bits hO q1 hx (hfr j q1 q2) (fun s hs => by
        obtain ⟨r1, _, r3⟩ := drawn_other hO hB (i := j) q2 hs
        exact hfr _ r3 r1) _ (Nat.le_refl _)
      rw [List.take_length] at this
      exact this
    have e25 : Ex H1 H5 := ((e2.trans e3).trans e4).trans e5
    refine q_forLn (xs := knots.map natV) (ev_var rfl) (SqL.of (e25 _ _ h1)) (fun j σ' H' => ∃ (x y z u v w2 : Option V), (∀ i ∈ knots.take j, badAt N places i = false) ∧ σ' = [some (.ref a), some (.ref na), some (.ref ka), some (.ref pl), x, y, z, u, v, w2] ∧ Ex H5 H')
      (fun H6 e6 => ⟨none, none, none, none, none, none, by simp, rfl, e6⟩) (fun j σ' H' _ ⟨_, _, _, _, _, _, _, _, e⟩ => SqL.of (e _ _ (e25 _ _ h1))) ?_ ?_
    · rintro j x σ' H' hx ⟨x0, y0, z0, u0, v0, w0, hg, rfl, e6⟩
      rw [List.getElem?_map] at hx
      cases hjj : knots[j]? with
      | none => rw [hjj] at hx; cases hx
      | some kn =>
        rw [hjj] at hx
        cases hx
        have hm := List.mem_of_getElem? hjj
        obtain ⟨q1, q2⟩ := hklt kn hm
        refine u_asg (elp_lc (src_range (n := 3) (ea_cons ev_c ea_nil) (by decide)) (fun _ => true) (fun H' x v => FrR H' (leftOverM N places kn x) v) (fun _ _ _ _ e r => FrR.mon _ _ _ _ e r) (gName_mono 9) (by show 3 ≤ 40000; decide) ?_ H' (Ex.refl _) _ fun lp zs H7 hlp e7 h7 hz => ?_)
        · rintro i z it H7 H8 H9 D hz e7 e8 hD ⟨rfl, rfl⟩
          have e79 := (e6.trans e7).trans e8
          exact ⟨Ex.refl _, rfl, et_yes, fun _ => evd_u (eu_call (ea_cons (ev_var rfl) (ea_cons (ev_var rfl) (ea_cons (ev_var rfl) (ea_cons (ev_var rfl) ea_nil)))) fun H10 e10 Q' E' k' => ⟨a, l1, l2, pl, N, places, kn, z, rfl, (hN5.mono e79).mono e10, hO, (h5.mono PlaceF.mon e79).mono PlaceF.mon e10, q1, range_lt hz, hfr kn q1 q2, fun s hs => by
            obtain ⟨r1, _, r3⟩ := drawn_other hO hB (i := kn) q2 hs
            exact hfr _ r3 r1, k'⟩) fun p H' hp => ⟨p, rfl, hp⟩⟩
        · rw [filter_true] at hz
          have hzL : Paired (FrR H7) ((List.range 3).map (leftOverM N places kn)) zs := paired_map (Paired.imp (fun _ _ r => FrR.mon _ _ _ _ (hide_ex lp H7) r) hz)
          have hlb : ∀ f ∈ (List.range 3).map (leftOverM N places kn), 0 < f.2 ∧ f.2.natAbs < 2 ^ 8999 := fun f hf => by
            obtain ⟨x, hx, rfl⟩ := List.mem_map.mp hf
            obtain ⟨_, b2, b3⟩ := hbad kn hm x (by simpa using hx)
            refine ⟨b3, Bits.mono b2 ?_⟩
            have := drawingAt_len (spans := N.spans) kn
            have := hO.sl
            omega
          have hl3 : ((List.range 3).map (leftOverM N places kn)).length = 3 := rfl
          have hbd : badAt N places kn = ((List.range 3).map (leftOverM N places kn)).any fun f => decide (f.1 ≠ 0) := rfl
          have hkn2 := k
          generalize hLL : (List.range 3).map (leftOverM N places kn) = L at hzL hlb hl3 hbd
          have e67 := e6.trans e7
          refine s_when (b := badAt N places kn) (et_B (ev_is (ev_anyL (bs := L.map fun f => decide (f.1 ≠ 0)) (el_is (el_lc (src_list (xs := L) FrR.mon (ev_var rfl) (SqL.of h7) hzL) (fun _ => true) (fun f => V.bl (decide (f.1 ≠ 0))) (gTup2_mono 7 8) (by omega) ?_) ?_)) ?_)) (fun hb3 H8 e8 => ?_) (fun hb3 H8 e8 => ?_)
          · rintro i f it H8 H9 H10 hf e8 e9 ⟨rfl, t, rfl, ht⟩
            exact ⟨t, _, rfl, SqT.of (e9 _ _ ht), rfl, _, _, rfl, _, _, rfl, rfl, Ex.refl _, rfl, et_yes, fun _ => ev_is (ev_op (ev_var rfl) ev_c (rv_ne rfl)) (by rw [intV_eq]; simp)⟩
          · rw [filter_true, List.map_map]
            rfl
          · rw [List.any_map, hbd]
            rfl
          · have hfind : knots.find? (badAt N places) = some kn := find_at hjj hb3 hg
            rw [hfind] at k
            dsimp only at k
            rw [hLL] at k
            refine q_asgL (xs := ([1, (kn : Int)].map V.int)) (el_is (el_lst (ea_cons ev_c (ea_cons (ev_var rfl) ea_nil)) (by show 2 ≤ 100000; decide)) rfl) fun an H9 han e9 h9 => ?_
            have e89 := e8.trans e9
            have bh : (hide an H9) an = none := if_pos rfl
            have eb : Ex H8 (hide an H9) := hide_base e9 han
            refine q_forT2 (fs := L) (ys := zs) (ev_var rfl) (e89 _ _ h7) (Paired.imp (fun _ _ r => FrR.mon _ _ _ _ e89 r) hzL) (fun i σ' H' => ∃ (u v w2 : Option V), σ' = [some (.ref a), some (.ref na), some (.ref ka), some (.ref pl), some (natV kn), some (.ref lp), some (.ref an), u, v, w2] ∧ Ex (hide an H9) H' ∧ H' an = some (.lst ((1 :: (kn : Int) :: (L.take i).flatMap fun f => toldM f.1 f.2).map V.int))) (fun H10 e10 => ⟨_, _, _, rfl, (hide_ex an H9).trans e10, e10 _ _ h9⟩) ?_ ?_ ?_
            · rintro i σ' H10 ⟨u, v, w2, rfl, e10, h10⟩
              exact ⟨(eb.trans e10) _ _ (e8 _ _ h7), Paired.imp (fun _ _ r => FrR.mon _ _ _ _ ((e8.trans eb).trans e10) r) hzL⟩
            · rintro i f σ' H10 hf ⟨u, v, w2, rfl, e10, h10⟩
              obtain ⟨b1, b2⟩ := hlb f (List.mem_of_getElem? hf)
              refine s_extL h10 (ev_var rfl) (el_call (ea_cons (ev_var rfl) (ea_cons (ev_var rfl) ea_nil)) (l_told b1 b2)) ?_ fun p H11 hp e11 h11 => ⟨_, _, _, rfl, Ex.mut (e10.trans e11) bh, ?_⟩
              · rw [List.length_map, List.length_cons, List.length_cons, told_flat_len, List.length_take]
                show _ + 2 ≤ _
                omega
              · rw [upd_same, take_snoc hf, List.flatMap_append]
                simp
            · rintro σ' H10 ⟨u, v, w2, rfl, e10, h10⟩
              rw [List.take_length] at h10
              exact s_ret (ev_var rfl) fun H11 e11 => k an H11 ⟨fresh_back ((e15.trans e67).trans e8) han, ((((e15.trans e67).trans e8).trans eb).trans e10).trans e11⟩ (e11 _ _ h10)
          · exact ⟨_, _, _, _, _, _, fun i hi => by
              rw [take_snoc hjj] at hi
              rcases List.mem_append.mp hi with h | h
              · exact hg i h
              · rw [show i = kn by simpa using h]; exact hb3, rfl, e67.trans e8⟩
    · rintro σ' H' ⟨x0, y0, z0, u0, v0, w0, hg, rfl, e6⟩
      rw [List.length_map, List.take_length] at hg
      rw [List.find?_eq_none.mpr (fun y hy => by rw [hg y hy]; decide)] at k
      exact ret1 ev_c fun p H7 e7 h7 => k p H7 ((e15.trans e6).fr e7) h7
end
end Wp


namespace Wp
open PySem PySem.Spec PyProof.Rows L2 Evl
open He (ga ma Fa DefD SaysD)
/-- all stands but the net and its lists -/
structure Keep (a l1 l2 : Addr) (H H' : Hp) : Prop where
  n : ∀ b, H' b = none → H b = none
  k : ∀ b o, H b = some o → b ≠ a → b ≠ l1 → b ≠ l2 → H' b = some o
theorem ex_none {H H' : Hp} (e : Ex H H') {b : Addr} (h : H' b = none) : H b = none := fresh_back e h
theorem Keep.of {a l1 l2 : Addr} {H H' : Hp} (e : Ex H H') : Keep a l1 l2 H H' := ⟨fun _ h => ex_none e h, fun b o h _ _ _ => e b o h⟩
theorem Keep.ex {a l1 l2 : Addr} {H H1 H2 : Hp} (k : Keep a l1 l2 H H1) (e : Ex H1 H2) : Keep a l1 l2 H H2 := ⟨fun b h => k.n b (ex_none e h), fun b o h n1 n2 n3 => e b o (k.k b o h n1 n2 n3)⟩
theorem Keep.upd {a l1 l2 b : Addr} {o : HO} {H H1 : Hp} (k : Keep a l1 l2 H H1) (hb : b = a ∨ b = l1 ∨ b = l2 ∨ H b = none) : Keep a l1 l2 H (upd H1 b o) := ⟨fun c h => by
  by_cases e : c = b
  · subst e
    rw [upd_same] at h
    cases h
  · rw [upd_ne e] at h
    exact k.n c h, fun c p h n1 n2 n3 => by
  have e : c ≠ b := fun e => by
    subst e
    rcases hb with e | e | e | e
    · exact n1 e
    · exact n2 e
    · exact n3 e
    · rw [e] at h; cases h
  rw [upd_ne e]
  exact k.k c p h n1 n2 n3⟩
section
variable {K : PySem.W.Frag} {H H' H1 : Hp}
theorem NodeR.kp {a l : Addr} {n : MNode} {v : V} (ha : ∃ C dx x y, H a = some (.ins C dx (netF x y))) (hl : ∃ ys, H l = some (.lst ys)) (kp : ∀ b o, H b = some o → b ≠ a → b ≠ l → H' b = some o) (r : NodeR K H n v) : NodeR K H' n v := by
  obtain ⟨p, dx, t, h1, h2, h3⟩ := r
  obtain ⟨C, dx', x, y, ha⟩ := ha
  obtain ⟨ys, hl⟩ := hl
  refine ⟨p, dx, t, h1, kp _ _ h2 (fun e => ?_) (fun e => ?_), kp _ _ h3 (fun e => ?_) (fun e => ?_)⟩
  · rw [e, ha] at h2; cases h2
  · rw [e, hl] at h2; cases h2
  · rw [e, ha] at h3; cases h3
  · rw [e, hl] at h3; cases h3
theorem SpanR.kp {a l : Addr} {n : MSpan} {v : V} (ha : ∃ C dx x y, H a = some (.ins C dx (netF x y))) (hl : ∃ ys, H l = some (.lst ys)) (kp : ∀ b o, H b = some o → b ≠ a → b ≠ l → H' b = some o) (r : SpanR K H n v) : SpanR K H' n v := by
  obtain ⟨p, dx, h1, h2⟩ := r
  obtain ⟨C, dx', x, y, ha⟩ := ha
  obtain ⟨ys, hl⟩ := hl
  refine ⟨p, dx, h1, kp _ _ h2 (fun e => ?_) (fun e => ?_)⟩
  · rw [e, ha] at h2; cases h2
  · rw [e, hl] at h2; cases h2
theorem NetAt.ha {a l1 l2 : Addr} {N : MNet} (h : NetAt K H a l1 l2 N) : ∃ C dx x y, H a = some (.ins C dx (netF x y)) := by
  obtain ⟨dx, hi⟩ := h.ins
  exact ⟨_, dx, l1, l2, hi⟩
theorem NetAt.apart {a l1 l2 : Addr} {N : MNet} (h : NetAt K H a l1 l2 N) : a ≠ l1 ∧ a ≠ l2 := by
  obtain ⟨dx, hi⟩ := h.ins
  obtain ⟨ys, hy, _⟩ := h.nodes
  obtain ⟨zs, hz, _⟩ := h.spans
  refine ⟨fun e => ?_, fun e => ?_⟩
  · rw [e, hy] at hi; cases hi
  · rw [e, hz] at hi; cases hi
/-- the list of nodes changed -/
theorem NetAt.setNodes {a l1 l2 : Addr} {N : MNet} {nodes : List MNode} {ys : List V} (h : NetAt K H a l1 l2 N) (hp : Paired (NodeR K H) nodes ys) : NetAt K (upd H l1 (.lst ys)) a l1 l2 { N with nodes := nodes } := by
  obtain ⟨n1, n2⟩ := h.apart
  obtain ⟨zs, hz, hzp⟩ := h.spans
  have hl : ∃ ys, H l1 = some (.lst ys) := by
    obtain ⟨ys, hy, _⟩ := h.nodes
    exact ⟨ys, hy⟩
  have kp : ∀ b o, H b = some o → b ≠ a → b ≠ l1 → (upd H l1 (.lst ys)) b = some o := fun b o hb _ n => by rw [upd_ne n]; exact hb
  obtain ⟨dx, hi⟩ := id h.ins
  exact ⟨⟨dx, by rw [upd_ne n1]; exact hi⟩, h.ne, ⟨ys, upd_same, Paired.imp (fun _ _ r => NodeR.kp h.ha hl kp r) hp⟩, ⟨zs, by rw [upd_ne h.ne.symm]; exact hz, Paired.imp (fun _ _ r => SpanR.kp h.ha hl kp r) hzp⟩⟩
theorem NetAt.setSpans {a l1 l2 : Addr} {N : MNet} {spans : List MSpan} {ys : List V} (h : NetAt K H a l1 l2 N) (hp : Paired (SpanR K H) spans ys) : NetAt K (upd H l2 (.lst ys)) a l1 l2 { N with spans := spans } := by
  obtain ⟨n1, n2⟩ := h.apart
  obtain ⟨zs, hz, hzp⟩ := h.nodes
  have hl : ∃ ys, H l2 = some (.lst ys) := by
    obtain ⟨ys, hy, _⟩ := h.spans
    exact ⟨ys, hy⟩
  have kp : ∀ b o, H b = some o → b ≠ a → b ≠ l2 → (upd H l2 (.lst ys)) b = some o := fun b o hb _ n => by rw [upd_ne n]; exact hb
  obtain ⟨dx, hi⟩ := id h.ins
  exact ⟨⟨dx, by rw [upd_ne n2]; exact hi⟩, h.ne, ⟨zs, by rw [upd_ne h.ne]; exact hz, Paired.imp (fun _ _ r => NodeR.kp h.ha hl kp r) hzp⟩, ⟨ys, upd_same, Paired.imp (fun _ _ r => SpanR.kp h.ha hl kp r) hp⟩⟩
/-- a field changed -/
theorem NetAt.newSpans {a l1 l2 p dx : Addr} {N : MNet} {spans : List MSpan} (h : NetAt K H a l1 l2 N) (hp : ListOf (SpanR K) H p spans) (hn : p ≠ l1) : NetAt K (L2.upd H a (.ins (ga K "Net") dx (netF l1 p))) a l1 p { N with spans := spans } := by
  obtain ⟨n1, n2⟩ := h.apart
  obtain ⟨ys, hy, hyp⟩ := h.nodes
  obtain ⟨zs, hz, hzp⟩ := hp
  have kp : ∀ b o, H b = some o → b ≠ a → b ≠ l1 → (L2.upd H a (.ins (ga K "Net") dx (netF l1 p))) b = some o := fun b o hb n _ => by rw [upd_ne n]; exact hb
  have pa : p ≠ a := fun e => by
    obtain ⟨dx, hi⟩ := h.ins
    rw [e, hi] at hz
    cases hz
  exact ⟨⟨dx, upd_same⟩, hn.symm, ⟨ys, by rw [upd_ne n1.symm]; exact hy, Paired.imp (fun _ _ r => NodeR.kp h.ha ⟨ys, hy⟩ kp r) hyp⟩, ⟨zs, by rw [upd_ne pa]; exact hz, Paired.imp (fun _ _ r => SpanR.kp h.ha ⟨ys, hy⟩ kp r) hzp⟩⟩
end
/-- what a deed promises -/
def DeedK (K : PySem.W.Frag) (a l1 l2 : Addr) (N' : MNet) (ans : List Int) (H : Hp) (Q : VK) : Prop := ∀ p l1' l2' H', H p = none → Keep a l1 l2 H H' → NetAt K H' a l1' l2' N' → IL H' p ans → (l1' = l1 ∨ H l1' = none) → (l2' = l2 ∨ H l2' = none) → Q (.ref p) H'
def spDeed (K : PySem.W.Frag) (rel : MNet → List Int → MNet → List Int → Prop) : Sp := fun vs H Q _ => ∃ (a l1 l2 na : Addr) (N N' : MNet) (nums ans : List Int), vs = [.ref a, .ref na] ∧ NetAt K H a l1 l2 N ∧ IL H na nums ∧ na ≠ l1 ∧ na ≠ l2 ∧ NetOk N.nodes N.spans ∧ AllReady ∧ rel N nums N' ans ∧ DeedK K a l1 l2 N' ans H Q
section
variable {P : Program} {w : World} {K : PySem.W.Frag} {mg : Str → Option Value} {base : Heap} {σ : L2.St} {H H1 : Hp} {ta tv : TA} {te ti tf tb : TE}
theorem DeedK.go {a l1 l2 : Addr} {N' : MNet} {ans : List Int} {Q : VK} (k : DeedK K a l1 l2 N' ans H Q) (e : Ex H H1) : DeedK K a l1 l2 N' ans H1 Q := fun p l1' l2' H' hp kp hN hI c1 c2 =>
  k p l1' l2' H' (ex_none e hp) ⟨fun b h => ex_none e (kp.n b h), fun b o h => kp.k b o (e b o h)⟩ hN hI (c1.imp id fun h => ex_none e h) (c2.imp id fun h => ex_none e h)
theorem spAsk.deed {rel : MNet → List Int → List Int → Prop} {vs : List V} {Q : VK} {E : XK} (h : spDeed K (fun N nums N' ans => N' = N ∧ rel N nums ans) vs H Q E) : spAsk K rel vs H Q E := by
  obtain ⟨a, l1, l2, na, N, N', nums, ans, rfl, hN, hI, _, _, hO, hA, ⟨rfl, hr⟩, k⟩ := h
  exact ⟨a, l1, l2, na, N', nums, ans, rfl, hN, hI, hO, hA, hr, fun p H' f hp => k p l1 l2 H' f.n (Keep.of f.e) (hN.mono f.e) hp (Or.inl rfl) (Or.inl rfl)⟩
theorem deed_ret {a l1 l2 l1' l2' : Addr} {N' : MNet} {z : Int} {D : Ends} {H0 : Hp} (k : DeedK K a l1 l2 N' [z] H0 D.rt) (kp : Keep a l1 l2 H0 H) (hN : NetAt K H a l1' l2' N') (c1 : l1' = l1 ∨ H0 l1' = none) (c2 : l2' = l2 ∨ H0 l2' = none) (h : Ev te σ H (.int z)) : tRet (tLst (tCons te tNil)) D σ H :=
  ret1 h fun p H1 f h1 => k p l1' l2' H1 (kp.n p f.n) (kp.ex f.e) (hN.mono f.e) h1 c1 c2
theorem evm_node {n : MNode} (hf : Ev tf σ H (.bl n.fixed)) (hv : EvA tv σ H [.int n.x, .int n.y, .int n.z]) (hb : Ev tb σ H (.int n.bound)) : ∀ H1, Ex H H1 → ∀ Q : VK, (∀ v H2, Ex H1 H2 → NodeR K H2 n v → Q v H2) → tMake (ga K "Node") (spNode K) [] E0 (tCons tf (tCons (tTup tv) (tCons tb tNil))) σ H1 Q := fun H1 e Q q =>
  hf H1 e _ fun H2 e2 => (eu_tup hv (by show 3 ≤ 100000; decide)) H2 (e.trans e2) _ fun t H3 ht e3 h3 => hb H3 ((e.trans e2).trans e3) _ fun H4 e4 x dx nx nd ne =>
    ⟨x, dx, t, n.fixed, n.bound, rfl, upd_same, fun H5 h5 kp => ⟨rfl, q (.ref x) H5 (((e2.trans e3).trans e4).trans fun b o hb => kp b o (by rw [upd_ne (ne_of_none hb nx), upd_ne (ne_of_none hb nd)]; exact hb) (ne_of_none hb nx)) ⟨x, dx, t, rfl, h5, kp t _ (by rw [upd_ne (ne_of_none (e4 _ _ h3) nx), upd_ne (ne_of_none (e4 _ _ h3) nd)]; exact e4 _ _ h3) (ne_of_none (e4 _ _ h3) nx)⟩⟩⟩
theorem ev_vecOk {x y z : Int} (hv : EvA tv σ H [.int x, .int y, .int z]) : Ev (tCall (spVecOk K) [] E0 (tCons (tTup tv) tNil)) σ H (.bl (vecOk x y z)) := fun H1 e Q q => by
  refine (eu_tup hv (by show 3 ≤ 100000; decide)) H1 e (fun v H2 => spVecOk K ([v] ++ []) H2 Q E0) fun p H2 hp e2 h2 => ?_
  exact ⟨p, x, y, z, rfl, h2, fun H3 e3 => q H3 (e2.trans e3)⟩
/-! ### Net, begin -/
def spNet (K : PySem.W.Frag) : Sp := fun vs H Q _ => ∃ (p dx : Addr), vs = [.ref p] ∧ H p = some (.ins (ga K "Net") dx []) ∧
  ∀ H' l1 l2, NetAt K H' p l1 l2 ⟨[], []⟩ → H l1 = none → H l2 = none → (∀ b o, H b = some o → b ≠ p → H' b = some o) → Q .non H'
theorem okM_Net (T : Tx K mg) : OkM P w K mg base 1 "Net" ["self"] (spNet K) := by
  refine T.okM 13 15 2 "Net" "Net.__init__" 3 0 sc_Net (fun vs H Q E h => ?_) (fun _ _ _ _ _ _ us hl => match us, hl with | [_], _ => rfl) (fun cdv A outer s H vs Q E hr h => ?_)
  · obtain ⟨_, _, rfl, _⟩ := h
    rfl
  · obtain ⟨p, dx, rfl, hp, k⟩ := h
    refine ⟨_, (pss_cons (ps_fldK K (pv 0) (pe_lst pa_nil))
        (pss_one (ps_fldK K (pv 0) (pe_lst pa_nil)))), ?_⟩
    refine ⟨by decide, fun l1 h1 => ?_⟩
    have n1 : p ≠ l1 := ne_of_none hp h1
    refine ⟨_, rfl, p, _, dx, [], rfl, by rw [upd_ne n1]; exact hp, C_Net T, F_Net_nodes T, (by show 0 < 1000; decide), ?_⟩
    refine ⟨by decide, fun l2 h2 => ?_⟩
    have n2 : p ≠ l2 := fun e => by
      rw [← e, upd_same] at h2
      cases h2
    rw [upd_ne n2.symm] at h2
    have n3 : l1 ≠ l2 := fun e => by
      rw [← e, upd_same] at h2
      cases h2
    rw [upd_ne n3.symm] at h2
    refine ⟨_, rfl, p, _, dx, _, rfl, by rw [upd_ne n2]; exact upd_same, C_Net T, F_Net_spans T, (by show 1 < 1000; decide), ?_⟩
    refine k _ l1 l2 ⟨⟨dx, ?_⟩, n3, ⟨[], ?_, .nil⟩, ⟨[], ?_, .nil⟩⟩ h1 h2 fun b o hb n => ?_
    · rw [upd_same, put2 (f := "spans") (g := "nodes") (by decide +kernel)]
      rfl
    · rw [upd_ne n1.symm, upd_ne n3, upd_ne n1.symm, upd_same]
    · rw [upd_ne n2.symm, upd_same]
    · rw [upd_ne n, upd_ne (ne_of_none hb h2), upd_ne n, upd_ne (ne_of_none hb h1)]
      exact hb
def relBegin (N : MNet) (nums : List Int) (N' : MNet) (ans : List Int) : Prop := nums = [] ∧ N' = ⟨[], []⟩ ∧ ans = [0]
def spBegin (K : PySem.W.Frag) : Sp := spDeed K relBegin
theorem ok_begin (T : Tx K mg) : OkD P w K mg base 1 "begin" ["net", "numbers"] (spBegin K) := by
  refine T.ok 61 41 "begin" 58 sc_begin (fun vs H Q E h => ?_) (fun _ _ _ _ _ _ us hl => match us, hl with | [_, _], _ => rfl) (fun cdv A outer s H vs Q E hr h => ?_)
  · obtain ⟨_, _, _, _, _, _, _, _, rfl, _⟩ := h
    rfl
  · obtain ⟨a, l1, l2, na, N, N', nums, ans, rfl, hN, hI, hn1, hn2, hO, hA, hrel, k⟩ := h
    refine ⟨_, (pss_cons (ps_fldK K (pv 0) (pe_lst pa_nil))
        (pss_cons (ps_fldK K (pv 0) (pe_lst pa_nil))
        (pss_one (ps_ret (pe_lst (pa_cons pe_int pa_nil)))))), ?_⟩
    obtain ⟨rfl, rfl, rfl⟩ := hrel
    obtain ⟨dx, hi⟩ := id hN.ins
    obtain ⟨na1, na2⟩ := hN.apart
    refine ⟨by decide, fun p1 h1 => ?_⟩
    have n1 : a ≠ p1 := ne_of_none hi h1
    refine ⟨_, rfl, a, _, dx, _, rfl, by rw [upd_ne n1]; exact hi, C_Net T, F_Net_nodes T, (by show 2 < 1000; decide), ?_⟩
    rw [show putF "nodes" (.ref p1) (netF l1 l2) = netF p1 l2 from put_here]
    refine ⟨by decide, fun p2 h2 => ?_⟩
    have n2 : a ≠ p2 := fun e => by
      rw [← e, upd_same] at h2
      cases h2
    rw [upd_ne n2.symm] at h2
    have n3 : p1 ≠ p2 := fun e => by
      rw [← e, upd_same] at h2
      cases h2
    rw [upd_ne n3.symm] at h2
    refine ⟨_, rfl, a, _, dx, _, rfl, by rw [upd_ne n2]; exact upd_same, C_Net T, F_Net_spans T, (by show 2 < 1000; decide), ?_⟩
    rw [show putF "spans" (.ref p2) (netF p1 l2) = netF p1 p2 from (put_past (by decide +kernel)).trans (congrArg _ put_here)]
    refine deed_ret (σ := [some (.ref a), some (.ref na)]) k (((((Keep.of (Ex.refl H)).upd (Or.inr (Or.inr (Or.inr h1)))).upd (Or.inl rfl)).upd (Or.inr (Or.inr (Or.inr h2)))).upd (Or.inl rfl)) ⟨⟨dx, upd_same⟩, n3, ⟨[], ?_, .nil⟩, ⟨[], ?_, .nil⟩⟩ (Or.inr h1) (Or.inr h2) ev_c
    · rw [upd_ne n1.symm, upd_ne n3, upd_ne n1.symm, upd_same]
    · rw [upd_ne n2.symm, upd_same]

/-! ### a node more -/
def spAdd (K : PySem.W.Frag) : Sp := fun vs H Q _ => ∃ (a l1 l2 : Addr) (v : V) (N : MNet) (n : MNode), vs = [.ref a, v] ∧ NetAt K H a l1 l2 N ∧ NodeR K H n v ∧ N.nodes.length ≤ 24 ∧ DeedK K a l1 l2 (addNodeM N n).1 (addNodeM N n).2 H Q
theorem ok_added_node (T : Tx K mg) : OkD P w K mg base 1 "added_node" ["net", "node"] (spAdd K) := by
  refine T.ok 62 42 "added_node" 59 sc_added_node (fun vs H Q E h => ?_) (fun _ _ _ _ _ _ us hl => match us, hl with | [_, _], _ => rfl) (fun cdv A outer s H vs Q E hr h => ?_)
  · obtain ⟨_, _, _, _, _, _, rfl, _⟩ := h
    rfl
  · obtain ⟨a, l1, l2, v, N, n, rfl, hN, hv, hnl, k⟩ := h
    refine ⟨_, (pss_cons (ps_if (pt_cmpR op_ge (pe_len K (T_len T) (pa_cons (pe_fldK K (pv 0)) pa_nil)) (pe_const (T_MOST_NODES T)) (nomark _)) (pss_one (ps_ret (pe_lst (pa_cons (pe_const (T_NO_ROOM T)) pa_nil)))) pss_nil)
        (pss_cons (ps_expr (pe_lm K PySem.F.slot_list_append PySem.F.type_list_append mt_append (pe_fldK K (pv 0)) (pa_cons (pv 1) pa_nil)))
        (pss_one (ps_ret (pe_lst (pa_cons (pe_op op_sub (pe_len K (T_len T) (pa_cons (pe_fldK K (pv 0)) pa_nil)) pe_int) pa_nil)))))), ?_⟩
    refine q_when (b := decide (N.nodes.length ≥ 24)) (et_is (et_test (ev_op (e_nlen T hN (ev_var rfl)) ev_c rv_I0)) ?_) (fun hb H1 e1 => ?_) (fun hb H1 e1 => ?_)
    · simp
      omega
    · have hge := of_decide_eq_true hb
      unfold addNodeM at k
      rw [if_pos hge] at k
      exact deed_ret k (Keep.of e1) (hN.mono e1) (Or.inl rfl) (Or.inl rfl) ev_c
    · have hge := of_decide_eq_false hb
      unfold addNodeM at k
      rw [if_neg hge] at k
      have hN1 := hN.mono e1
      obtain ⟨ys, hy, hp⟩ := id hN1.nodes
      have ly := Paired.len hp
      refine q_app (xs := ys) (v := v) hy (e_nodes T hN1 (ev_var rfl)) (ev_var rfl) (by omega) fun H2 e2 => ?_
      have hN2 := hN1.mono e2
      have hp2 : Paired (NodeR K H2) (N.nodes ++ [n]) (ys ++ [v]) := Paired.snoc (Paired.imp (fun _ _ r => NodeR.mon _ _ _ _ e2 r) hp) (NodeR.mon _ _ _ _ (e1.trans e2) hv)
      have hN3 := hN2.setNodes hp2
      refine deed_ret k ((Keep.of (e1.trans e2)).upd (Or.inr (Or.inl rfl))) hN3 (Or.inl rfl) (Or.inl rfl) (ev_is (ev_op (e_nlen T hN3 (ev_var rfl)) ev_c rv_I0) ?_)
      show V.int (((N.nodes ++ [n]).length : Int) - 1) = _
      rw [List.length_append]
      congr 1
      show ((N.nodes.length + 1 : Nat) : Int) - 1 = _
      omega
theorem r_add {a l1 l2 : Addr} {N : MNet} {n : MNode} {Q : VK} (ha : Ev te σ H (.ref a)) (hm : ∀ H1, Ex H H1 → ∀ Q : VK, (∀ v H2, Ex H1 H2 → NodeR K H2 n v → Q v H2) → ti σ H1 Q) (hN : NetAt K H a l1 l2 N) (hnl : N.nodes.length ≤ 24) (k : DeedK K a l1 l2 (addNodeM N n).1 (addNodeM N n).2 H Q) : tCall (spAdd K) [] E0 (tCons te (tCons ti tNil)) σ H Q :=
  ha H (Ex.refl H) (fun v H1 => ti σ H1 fun u H2 => spAdd K ([v, u] ++ []) H2 Q E0) fun H1 e1 => hm H1 e1 _ fun v H2 e2 r => ⟨a, l1, l2, v, N, n, rfl, hN.mono (e1.trans e2), r, hnl, k.go (e1.trans e2)⟩
def relFix (N : MNet) (nums : List Int) (N' : MNet) (ans : List Int) : Prop := ∃ x y z b, nums = [x, y, z, b] ∧ (N', ans) = fixM N x y z b
def spFix (K : PySem.W.Frag) : Sp := spDeed K relFix
theorem ok_fix (T : Tx K mg) : OkD P w K mg base 3 "fix" ["net", "numbers"] (spFix K) := by
  refine T.ok 63 43 "fix" 60 sc_fix (fun vs H Q E h => ?_) (fun _ _ _ _ _ _ us hl => match us, hl with | [_, _], _ => rfl) (fun cdv A outer s H vs Q E hr h => ?_)
  · obtain ⟨_, _, _, _, _, _, _, _, rfl, _⟩ := h
    rfl
  · obtain ⟨a, l1, l2, na, N, N', nums, ans, rfl, hN, hI, hn1, hn2, hO, hA, hrel, k⟩ := h
    refine ⟨_, (pss_cons (ps_asg (pv 1) (pg_unlK K (n := 4) (pgs_cons (pg_name (i := 2) sc_fix.nd rfl (Or.inl rfl)) (pgs_cons (pg_name (i := 3) sc_fix.nd rfl (Or.inl rfl)) (pgs_cons (pg_name (i := 4) sc_fix.nd rfl (Or.inl rfl)) (pgs_cons (pg_name (i := 5) sc_fix.nd rfl (Or.inl rfl)) pgs_nil))))))
        (pss_cons (ps_if (PW.pt (pw_or (pt_not (pt_val (pe_callD (ok_vector_may_be (K := K) T) (hr.mono (by decide)) (pa_cons (pe_tup (pa_cons (pv 2) (pa_cons (pv 3) (pa_cons (pv 4) pa_nil)))) pa_nil)))) (pw_or1 (pt_not (pt_val (pe_callD (ok_strength_may_be (K := K) T) (hr.mono (by decide)) (pa_cons (pv 5) pa_nil))))))) (pss_one (ps_ret (pe_lst (pa_cons (pe_const (T_NOT_SO T)) pa_nil)))) pss_nil)
        (pss_one (ps_ret (pe_callD (ok_added_node (K := K) T) (hr.mono (by decide)) (pa_cons (pv 0) (pa_cons (pe_makeK K (okM_Node (K := K) T) (hr.mono (by decide)) (pa_cons pe_bl (pa_cons (pe_tup (pa_cons (pv 2) (pa_cons (pv 3) (pa_cons (pv 4) pa_nil)))) (pa_cons (pv 5) pa_nil)))) pa_nil))))))), ?_⟩
    obtain ⟨x, y, z, b, rfl, hf⟩ := hrel
    refine ⟨_, rfl, na, _, rfl, SqL.of hI, rfl, ?_⟩
    refine ⟨_, _, rfl, _, _, rfl, _, _, rfl, _, _, rfl, rfl, ?_⟩
    refine q_when (b := !(vecOk x y z && strOk b)) (et_is (et_or (et_not (et_B (ev_vecOk (ea_cons (ev_var rfl) (ea_cons (ev_var rfl) (ea_cons (ev_var rfl) ea_nil)))))) fun _ => et_not (et_B (ev_call (ea_cons (ev_var rfl) ea_nil) v_strength))) ?_) (fun hb H1 e1 => ?_) (fun hb H1 e1 => ?_)
    · cases vecOk x y z <;> cases strOk b <;> rfl
    · rw [Bool.not_eq_true'] at hb
      unfold fixM at hf
      rw [if_pos hb] at hf
      cases hf
      exact deed_ret k (Keep.of e1) (hN.mono e1) (Or.inl rfl) (Or.inl rfl) ev_c
    · rw [Bool.not_eq_false'] at hb
      unfold fixM at hf
      rw [if_neg (by rw [hb]; decide)] at hf
      have hN1 := hN.mono e1
      refine u_ret (r_add (n := ⟨true, x, y, z, b⟩) (ev_var rfl) (evm_node ev_c (ea_cons (ev_var rfl) (ea_cons (ev_var rfl) (ea_cons (ev_var rfl) ea_nil))) (ev_var rfl)) hN1 hO.nl ?_)
      rw [← hf]
      exact k.go e1
def relFree (N : MNet) (nums : List Int) (N' : MNet) (ans : List Int) : Prop := ∃ x y z, nums = [x, y, z] ∧ (N', ans) = freeM N x y z
def spFree (K : PySem.W.Frag) : Sp := spDeed K relFree
theorem ok_free (T : Tx K mg) : OkD P w K mg base 3 "free" ["net", "numbers"] (spFree K) := by
  refine T.ok 64 44 "free" 61 sc_free (fun vs H Q E h => ?_) (fun _ _ _ _ _ _ us hl => match us, hl with | [_, _], _ => rfl) (fun cdv A outer s H vs Q E hr h => ?_)
  · obtain ⟨_, _, _, _, _, _, _, _, rfl, _⟩ := h
    rfl
  · obtain ⟨a, l1, l2, na, N, N', nums, ans, rfl, hN, hI, hn1, hn2, hO, hA, hrel, k⟩ := h
    refine ⟨_, (pss_cons (ps_asg (pv 1) (pg_unlK K (n := 3) (pgs_cons (pg_name (i := 2) sc_free.nd rfl (Or.inl rfl)) (pgs_cons (pg_name (i := 3) sc_free.nd rfl (Or.inl rfl)) (pgs_cons (pg_name (i := 4) sc_free.nd rfl (Or.inl rfl)) pgs_nil)))))
        (pss_cons (ps_if (pt_not (pt_val (pe_callD (ok_vector_may_be (K := K) T) (hr.mono (by decide)) (pa_cons (pe_tup (pa_cons (pv 2) (pa_cons (pv 3) (pa_cons (pv 4) pa_nil)))) pa_nil)))) (pss_one (ps_ret (pe_lst (pa_cons (pe_const (T_NOT_SO T)) pa_nil)))) pss_nil)
        (pss_one (ps_ret (pe_callD (ok_added_node (K := K) T) (hr.mono (by decide)) (pa_cons (pv 0) (pa_cons (pe_makeK K (okM_Node (K := K) T) (hr.mono (by decide)) (pa_cons pe_bl (pa_cons (pe_tup (pa_cons (pv 2) (pa_cons (pv 3) (pa_cons (pv 4) pa_nil)))) (pa_cons pe_int pa_nil)))) pa_nil))))))), ?_⟩
    obtain ⟨x, y, z, rfl, hf⟩ := hrel
    refine ⟨_, rfl, na, _, rfl, SqL.of hI, rfl, ?_⟩
    refine ⟨_, _, rfl, _, _, rfl, _, _, rfl, rfl, ?_⟩
    refine q_when (b := !(vecOk x y z)) (et_not (et_B (ev_vecOk (ea_cons (ev_var rfl) (ea_cons (ev_var rfl) (ea_cons (ev_var rfl) ea_nil)))))) (fun hb H1 e1 => ?_) (fun hb H1 e1 => ?_)
    · rw [Bool.not_eq_true'] at hb
      unfold freeM at hf
      rw [if_pos hb] at hf
      cases hf
      exact deed_ret k (Keep.of e1) (hN.mono e1) (Or.inl rfl) (Or.inl rfl) ev_c
    · rw [Bool.not_eq_false'] at hb
      unfold freeM at hf
      rw [if_neg (by rw [hb]; decide)] at hf
      have hN1 := hN.mono e1
      refine u_ret (r_add (n := ⟨false, x, y, z, 0⟩) (ev_var rfl) (evm_node ev_c (ea_cons (ev_var rfl) (ea_cons (ev_var rfl) (ea_cons (ev_var rfl) ea_nil))) ev_c) hN1 hO.nl ?_)
      rw [← hf]
      exact k.go e1
def relLead (N : MNet) (nums : List Int) (N' : MNet) (ans : List Int) : Prop := ∃ (a b : Nat) (d : Int), nums = [(a : Int), (b : Int), d] ∧ (N', ans) = leadM N a b d
def spLead (K : PySem.W.Frag) : Sp := spDeed K relLead
theorem ok_lead (T : Tx K mg) : OkD P w K mg base 3 "lead" ["net", "numbers"] (spLead K) := by
  refine T.ok 65 45 "lead" 62 sc_lead (fun vs H Q E h => ?_) (fun _ _ _ _ _ _ us hl => match us, hl with | [_, _], _ => rfl) (fun cdv A outer s H vs Q E hr h => ?_)
  · obtain ⟨_, _, _, _, _, _, _, _, rfl, _⟩ := h
    rfl
  · obtain ⟨a, l1, l2, na, N, N', nums, ans, rfl, hN, hI, hn1, hn2, hO, hA, hrel, k⟩ := h
    refine ⟨_, (pss_cons (ps_asg (pv 1) (pg_unlK K (n := 3) (pgs_cons (pg_name (i := 2) sc_lead.nd rfl (Or.inl rfl)) (pgs_cons (pg_name (i := 3) sc_lead.nd rfl (Or.inl rfl)) (pgs_cons (pg_name (i := 4) sc_lead.nd rfl (Or.inl rfl)) pgs_nil)))))
        (pss_cons (ps_if (PW.pt (pw_or (pt_cmpR op_eq (pv 2) (pv 3) (nomark _)) (pw_or1 (pt_not (pt_val (pe_callD (ok_strength_may_be (K := K) T) (hr.mono (by decide)) (pa_cons (pv 4) pa_nil))))))) (pss_one (ps_ret (pe_lst (pa_cons (pe_const (T_NOT_SO T)) pa_nil)))) pss_nil)
        (pss_cons (ps_if (PW.pt (pw_or (pt_not (pt_val (pe_callD (ok_is_node (K := K) T) (hr.mono (by decide)) (pa_cons (pv 0) (pa_cons (pv 2) pa_nil))))) (pw_or1 (pt_not (pt_val (pe_callD (ok_is_node (K := K) T) (hr.mono (by decide)) (pa_cons (pv 0) (pa_cons (pv 3) pa_nil)))))))) (pss_one (ps_ret (pe_lst (pa_cons (pe_const (T_NO_SUCH T)) pa_nil)))) pss_nil)
        (pss_cons (ps_if (pt_cmpR op_ge (pe_len K (T_len T) (pa_cons (pe_fldK K (pv 0)) pa_nil)) (pe_const (T_MOST_SPANS T)) (nomark _)) (pss_one (ps_ret (pe_lst (pa_cons (pe_const (T_NO_ROOM T)) pa_nil)))) pss_nil)
        (pss_cons (ps_expr (pe_lm K PySem.F.slot_list_append PySem.F.type_list_append mt_append (pe_fldK K (pv 0)) (pa_cons (pe_makeK K (okM_Span (K := K) T) (hr.mono (by decide)) (pa_cons (pv 2) (pa_cons (pv 3) (pa_cons (pv 4) (pa_cons pe_bl pa_nil))))) pa_nil)))
        (pss_one (ps_ret (pe_lst (pa_cons (pe_op op_sub (pe_len K (T_len T) (pa_cons (pe_fldK K (pv 0)) pa_nil)) pe_int) pa_nil))))))))), ?_⟩
    obtain ⟨x, y, d, rfl, hf⟩ := hrel
    refine ⟨_, rfl, na, _, rfl, SqL.of hI, rfl, ?_⟩
    refine ⟨_, _, rfl, _, _, rfl, _, _, rfl, rfl, ?_⟩
    unfold leadM at hf
    refine q_when (b := decide (x = y) || !strOk d) (et_or (et_is (et_test (ev_op (ev_var (v := natV x) rfl) (ev_var (v := natV y) rfl) (rv_eq rfl))) natV_eq) fun _ => et_not (et_B (ev_call (ea_cons (ev_var rfl) ea_nil) v_strength))) (fun hb H1 e1 => ?_) (fun hb H1 e1 => ?_)
    · rw [if_pos hb] at hf
      cases hf
      exact deed_ret k (Keep.of e1) (hN.mono e1) (Or.inl rfl) (Or.inl rfl) ev_c
    rw [if_neg (by rw [hb]; decide)] at hf
    have hN1 := hN.mono e1
    refine q_when (b := !(decide (x < N.nodes.length) && decide (y < N.nodes.length))) (et_is (et_or (et_not (et_B (ev_call (ea_cons (ev_var rfl) (ea_cons (ev_var (v := natV x) rfl) ea_nil)) (v_isNode hN1)))) fun _ => et_not (et_B (ev_call (ea_cons (ev_var rfl) (ea_cons (ev_var (v := natV y) rfl) ea_nil)) (v_isNode hN1)))) ?_) (fun hb2 H2 e2 => ?_) (fun hb2 H2 e2 => ?_)
    · cases decide (x < N.nodes.length) <;> cases decide (y < N.nodes.length) <;> rfl
    · rw [Bool.not_eq_true'] at hb2
      rw [if_pos hb2] at hf
      cases hf
      exact deed_ret k (Keep.of (e1.trans e2)) (hN1.mono e2) (Or.inl rfl) (Or.inl rfl) ev_c
    rw [Bool.not_eq_false'] at hb2
    rw [if_neg (by rw [hb2]; decide)] at hf
    have hN2 := hN1.mono e2
    have e12 := e1.trans e2
    refine q_when (b := decide (N.spans.length ≥ 40)) (et_is (et_test (ev_op (e_slen T hN2 (ev_var rfl)) ev_c rv_I0)) ?_) (fun hb3 H3 e3 => ?_) (fun hb3 H3 e3 => ?_)
    · simp
      omega
    · rw [if_pos (of_decide_eq_true hb3)] at hf
      cases hf
      exact deed_ret k (Keep.of (e12.trans e3)) (hN2.mono e3) (Or.inl rfl) (Or.inl rfl) ev_c
    rw [if_neg (of_decide_eq_false hb3)] at hf
    cases hf
    have hN3 := hN2.mono e3
    obtain ⟨ys, hy, hp⟩ := id hN3.spans
    have ly := Paired.len hp
    have hsl := hO.sl
    refine u_drop ((e_spans T hN3 (ev_var rfl)) H3 (Ex.refl _) _ fun H4 e4 => ⟨Or.inl ⟨rfl, ys, SqL.of (e4 _ _ hy)⟩, ?_⟩)
    refine evm_span (s := ⟨x, y, d, true⟩) (ea_cons (ev_var rfl) (ea_cons (ev_var rfl) (ea_cons (ev_var rfl) (ea_cons ev_c ea_nil)))) H4 (Ex.refl _) _ fun p dx H5 hp5 e5 h5 => ?_
    refine ⟨l2, ys, .ref p, rfl, rfl, (e4.trans e5) _ _ hy, Nat.lt_of_le_of_lt (show ys.length ≤ 40 by omega) (by decide), ?_⟩
    have e15 := ((e12.trans e3).trans e4).trans e5
    have hN5 := hN.mono e15
    have hp2 : Paired (SpanR K H5) (N.spans ++ [⟨x, y, d, true⟩]) (ys ++ [.ref p]) := Paired.snoc (Paired.imp (fun _ _ r => SpanR.mon _ _ _ _ (e4.trans e5) r) hp) ⟨p, dx, rfl, h5⟩
    have hN6 := hN5.setSpans hp2
    refine deed_ret (σ := [some (.ref a), some (.ref na), some (natV x), some (natV y), some (.int d)]) k ((Keep.of e15).upd (Or.inr (Or.inr (Or.inl rfl)))) hN6 (Or.inl rfl) (Or.inl rfl) (ev_is (ev_op (e_slen T hN6 (ev_var rfl)) ev_c rv_I0) ?_)
    show V.int (((N.spans ++ [_]).length : Int) - 1) = _
    rw [List.length_append]
    congr 1
    show ((N.spans.length + 1 : Nat) : Int) - 1 = _
    omega

def relTune (N : MNet) (nums : List Int) (N' : MNet) (ans : List Int) : Prop := ∃ (s : Nat) (d : Int), nums = [(s : Int), d] ∧ (N', ans) = tuneM N s d
def spTune (K : PySem.W.Frag) : Sp := spDeed K relTune
/-- the net's field of spans, put -/
theorem put_spans {p l1 l2 : Addr} : putF "spans" (.ref p) (netF l1 l2) = netF l1 p := (put_past (by decide +kernel)).trans (congrArg _ put_here)
theorem u_fldS {f : Str} {tz : TS} {D : Ends} {tx : TE} (h : tx σ H fun y H1 => te σ H1 fun x H2 => ∃ a C dx fs, x = .ref a ∧ H2 a = some (.ins C dx fs) ∧ Cls K C ∧ NoAttr K C f ∧ fs.length < 1000 ∧ tz D σ (upd H2 a (.ins C dx (putF f y fs)))) : tSeq (sFld K te tx f) tz D σ H := h
theorem r_with {l2 : Addr} {spans : List MSpan} {s : Nat} {d : Int} {Q : VK} (h : EvA ta σ H [.ref l2, natV s, .int d]) (hs : ListOf (SpanR K) H l2 spans) (hl : spans.length ≤ 40) (hlt : s < spans.length) (k : ∀ p H', H p = none → Ex H H' → ListOf (SpanR K) H' p (withDensityM spans s d) → Q (.ref p) H') : tCall (spWith K) [] E0 ta σ H Q :=
  h H (Ex.refl H) _ fun H1 e1 => ⟨l2, spans, s, d, rfl, hs.mono SpanR.mon e1, hl, hlt, fun p H' hp e h => k p H' (ex_none e1 hp) (e1.trans e) h⟩
theorem r_without {l2 : Addr} {spans : List MSpan} {s : Nat} {Q : VK} (h : EvA ta σ H [.ref l2, natV s]) (hs : ListOf (SpanR K) H l2 spans) (hl : spans.length ≤ 40) (hlt : s < spans.length) (k : ∀ p H', H p = none → Ex H H' → ListOf (SpanR K) H' p (withoutM spans s) → Q (.ref p) H') : tCall (spWithout K) [] E0 ta σ H Q :=
  h H (Ex.refl H) _ fun H1 e1 => ⟨l2, spans, s, rfl, hs.mono SpanR.mon e1, hl, hlt, fun p H' hp e h => k p H' (ex_none e1 hp) (e1.trans e) h⟩
theorem ok_tune (T : Tx K mg) : OkD P w K mg base 4 "tune" ["net", "numbers"] (spTune K) := by
  refine T.ok 66 46 "tune" 63 sc_tune (fun vs H Q E h => ?_) (fun _ _ _ _ _ _ us hl => match us, hl with | [_, _], _ => rfl) (fun cdv A outer s H vs Q E hr h => ?_)
  · obtain ⟨_, _, _, _, _, _, _, _, rfl, _⟩ := h
    rfl
  · obtain ⟨a, l1, l2, na, N, N', nums, ans, rfl, hN, hI, hn1, hn2, hO, hA, hrel, k⟩ := h
    refine ⟨_, (pss_cons (ps_asg (pv 1) (pg_unlK K (n := 2) (pgs_cons (pg_name (i := 2) sc_tune.nd rfl (Or.inl rfl)) (pgs_cons (pg_name (i := 3) sc_tune.nd rfl (Or.inl rfl)) pgs_nil))))
        (pss_cons (ps_if (pt_not (pt_val (pe_callD (ok_strength_may_be (K := K) T) (hr.mono (by decide)) (pa_cons (pv 3) pa_nil)))) (pss_one (ps_ret (pe_lst (pa_cons (pe_const (T_NOT_SO T)) pa_nil)))) pss_nil)
        (pss_cons (ps_if (pt_not (pt_val (pe_callD (ok_is_span (K := K) T) (hr.mono (by decide)) (pa_cons (pv 0) (pa_cons (pv 2) pa_nil))))) (pss_one (ps_ret (pe_lst (pa_cons (pe_const (T_NO_SUCH T)) pa_nil)))) pss_nil)
        (pss_cons (ps_fldK K (pv 0) (pe_callD (ok_with_density (K := K) T) (hr.mono (by decide)) (pa_cons (pe_fldK K (pv 0)) (pa_cons (pv 2) (pa_cons (pv 3) pa_nil)))))
        (pss_one (ps_ret (pe_lst (pa_cons pe_int pa_nil)))))))), ?_⟩
    obtain ⟨s', d, rfl, hf⟩ := hrel
    refine ⟨_, rfl, na, _, rfl, SqL.of hI, rfl, ?_⟩
    refine ⟨_, _, rfl, _, _, rfl, rfl, ?_⟩
    unfold tuneM at hf
    refine q_when (et_not (et_B (ev_call (ea_cons (ev_var rfl) ea_nil) v_strength))) (fun hb H1 e1 => ?_) (fun hb H1 e1 => ?_)
    · rw [Bool.not_eq_true'] at hb
      rw [if_pos hb] at hf
      cases hf
      exact deed_ret k (Keep.of e1) (hN.mono e1) (Or.inl rfl) (Or.inl rfl) ev_c
    rw [Bool.not_eq_false'] at hb
    rw [if_neg (by rw [hb]; decide)] at hf
    have hN1 := hN.mono e1
    refine q_when (et_not (et_B (ev_call (ea_cons (ev_var rfl) (ea_cons (ev_var (v := natV s') rfl) ea_nil)) (v_isSpan hN1)))) (fun hb2 H2 e2 => ?_) (fun hb2 H2 e2 => ?_)
    · rw [Bool.not_eq_true'] at hb2
      rw [if_pos hb2] at hf
      cases hf
      exact deed_ret k (Keep.of (e1.trans e2)) (hN1.mono e2) (Or.inl rfl) (Or.inl rfl) ev_c
    rw [Bool.not_eq_false'] at hb2
    rw [if_neg (by rw [hb2]; decide)] at hf
    cases hf
    obtain ⟨_, hsl⟩ := isSpan_at hb2
    have hN2 := hN1.mono e2
    have e12 := e1.trans e2
    refine u_fldS (r_with (ea_cons (e_spans T hN2 (ev_var rfl)) (ea_cons (ev_var (v := natV s') rfl) (ea_cons (ev_var rfl) ea_nil))) hN2.spans hO.sl hsl fun p H4 hp e4 h4 => ?_)
    have e14 := e12.trans e4
    have hN4 := hN.mono e14
    obtain ⟨dx, hi⟩ := id hN4.ins
    refine ⟨_, rfl, a, _, dx, _, rfl, hi, C_Net T, F_Net_spans T, (by show 2 < 1000; decide), ?_⟩
    rw [put_spans]
    have hpn : H p = none := ex_none e12 hp
    have hpl : p ≠ l1 := fun e => by
      obtain ⟨ys, hy, _⟩ := hN.nodes
      rw [← e, hpn] at hy
      cases hy
    exact deed_ret (σ := [some (.ref a), some (.ref na), some (natV s'), some (.int d)]) k ((Keep.of e14).upd (Or.inl rfl)) (hN4.newSpans h4 hpl) (Or.inl rfl) (Or.inr hpn) ev_c
def relCut (N : MNet) (nums : List Int) (N' : MNet) (ans : List Int) : Prop := ∃ (s : Nat), nums = [(s : Int)] ∧ (N', ans) = cutM N s
def spCut (K : PySem.W.Frag) : Sp := spDeed K relCut
theorem ok_cut (T : Tx K mg) : OkD P w K mg base 4 "cut" ["net", "numbers"] (spCut K) := by
  refine T.ok 67 47 "cut" 64 sc_cut (fun vs H Q E h => ?_) (fun _ _ _ _ _ _ us hl => match us, hl with | [_, _], _ => rfl) (fun cdv A outer s H vs Q E hr h => ?_)
  · obtain ⟨_, _, _, _, _, _, _, _, rfl, _⟩ := h
    rfl
  · obtain ⟨a, l1, l2, na, N, N', nums, ans, rfl, hN, hI, hn1, hn2, hO, hA, hrel, k⟩ := h
    refine ⟨_, (pss_cons (ps_set (i := 2) sc_cut.nd rfl (Or.inl rfl) (pe_ixL K (pv 1) pe_int))
        (pss_cons (ps_if (pt_not (pt_val (pe_callD (ok_is_span (K := K) T) (hr.mono (by decide)) (pa_cons (pv 0) (pa_cons (pv 2) pa_nil))))) (pss_one (ps_ret (pe_lst (pa_cons (pe_const (T_NO_SUCH T)) pa_nil)))) pss_nil)
        (pss_cons (ps_fldK K (pv 0) (pe_callD (ok_without (K := K) T) (hr.mono (by decide)) (pa_cons (pe_fldK K (pv 0)) (pa_cons (pv 2) pa_nil))))
        (pss_one (ps_ret (pe_lst (pa_cons pe_int pa_nil))))))), ?_⟩
    obtain ⟨s', rfl, hf⟩ := hrel
    unfold cutM at hf
    refine q_asg (v := natV s') (ev_op (ev_var rfl) ev_c (rv_ixL (SqL.of hI) (atI_nat (j := 0) rfl))) fun H1 e1 => ?_
    have hN1 := hN.mono e1
    refine q_when (et_not (et_B (ev_call (ea_cons (ev_var rfl) (ea_cons (ev_var (v := natV s') rfl) ea_nil)) (v_isSpan hN1)))) (fun hb2 H2 e2 => ?_) (fun hb2 H2 e2 => ?_)
    · rw [Bool.not_eq_true'] at hb2
      rw [if_pos hb2] at hf
      cases hf
      exact deed_ret k (Keep.of (e1.trans e2)) (hN1.mono e2) (Or.inl rfl) (Or.inl rfl) ev_c
    rw [Bool.not_eq_false'] at hb2
    rw [if_neg (by rw [hb2]; decide)] at hf
    cases hf
    obtain ⟨_, hsl⟩ := isSpan_at hb2
    have hN2 := hN1.mono e2
    have e12 := e1.trans e2
    refine u_fldS (r_without (ea_cons (e_spans T hN2 (ev_var rfl)) (ea_cons (ev_var (v := natV s') rfl) ea_nil)) hN2.spans hO.sl hsl fun p H4 hp e4 h4 => ?_)
    have e14 := e12.trans e4
    have hN4 := hN.mono e14
    obtain ⟨dx, hi⟩ := id hN4.ins
    refine ⟨_, rfl, a, _, dx, _, rfl, hi, C_Net T, F_Net_spans T, (by show 2 < 1000; decide), ?_⟩
    rw [put_spans]
    have hpn : H p = none := ex_none e12 hp
    have hpl : p ≠ l1 := fun e => by
      obtain ⟨ys, hy, _⟩ := hN.nodes
      rw [← e, hpn] at hy
      cases hy
    exact deed_ret (σ := [some (.ref a), some (.ref na), some (natV s')]) k ((Keep.of e14).upd (Or.inl rfl)) (hN4.newSpans h4 hpl) (Or.inl rfl) (Or.inr hpn) ev_c
def relLoad (N : MNet) (nums : List Int) (N' : MNet) (ans : List Int) : Prop := ∃ (i : Nat) (x y z : Int), nums = [(i : Int), x, y, z] ∧ (N', ans) = loadM N i x y z
def spLoad (K : PySem.W.Frag) : Sp := spDeed K relLoad
theorem ok_load (T : Tx K mg) : OkD P w K mg base 3 "load" ["net", "numbers"] (spLoad K) := by
  refine T.ok 68 48 "load" 65 sc_load (fun vs H Q E h => ?_) (fun _ _ _ _ _ _ us hl => match us, hl with | [_, _], _ => rfl) (fun cdv A outer s H vs Q E hr h => ?_)
  · obtain ⟨_, _, _, _, _, _, _, _, rfl, _⟩ := h
    rfl
  · obtain ⟨a, l1, l2, na, N, N', nums, ans, rfl, hN, hI, hn1, hn2, hO, hA, hrel, k⟩ := h
    refine ⟨_, (pss_cons (ps_asg (pv 1) (pg_unlK K (n := 4) (pgs_cons (pg_name (i := 2) sc_load.nd rfl (Or.inl rfl)) (pgs_cons (pg_name (i := 3) sc_load.nd rfl (Or.inl rfl)) (pgs_cons (pg_name (i := 4) sc_load.nd rfl (Or.inl rfl)) (pgs_cons (pg_name (i := 5) sc_load.nd rfl (Or.inl rfl)) pgs_nil))))))
        (pss_cons (ps_if (pt_not (pt_val (pe_callD (ok_vector_may_be (K := K) T) (hr.mono (by decide)) (pa_cons (pe_tup (pa_cons (pv 3) (pa_cons (pv 4) (pa_cons (pv 5) pa_nil)))) pa_nil)))) (pss_one (ps_ret (pe_lst (pa_cons (pe_const (T_NOT_SO T)) pa_nil)))) pss_nil)
        (pss_cons (ps_if (pt_not (pt_val (pe_callD (ok_is_node (K := K) T) (hr.mono (by decide)) (pa_cons (pv 0) (pa_cons (pv 2) pa_nil))))) (pss_one (ps_ret (pe_lst (pa_cons (pe_const (T_NO_SUCH T)) pa_nil)))) pss_nil)
        (pss_cons (ps_if (pt_val (pe_fldK K (pe_ixL K (pe_fldK K (pv 0)) (pv 2)))) (pss_one (ps_ret (pe_lst (pa_cons (pe_const (T_OTHER_KIND T)) pa_nil)))) pss_nil)
        (pss_cons (ps_asg (pe_makeK K (okM_Node (K := K) T) (hr.mono (by decide)) (pa_cons pe_bl (pa_cons (pe_tup (pa_cons (pv 3) (pa_cons (pv 4) (pa_cons (pv 5) pa_nil)))) (pa_cons pe_int pa_nil)))) (pg_sub (pe_fldK K (pv 0)) (pv 2) set_list))
        (pss_one (ps_ret (pe_lst (pa_cons pe_int pa_nil))))))))), ?_⟩
    obtain ⟨i, x, y, z, rfl, hf⟩ := hrel
    unfold loadM at hf
    refine ⟨_, rfl, na, _, rfl, SqL.of hI, rfl, ?_⟩
    refine ⟨_, _, rfl, _, _, rfl, _, _, rfl, _, _, rfl, rfl, ?_⟩
    refine q_when (et_not (et_B (ev_vecOk (ea_cons (ev_var rfl) (ea_cons (ev_var rfl) (ea_cons (ev_var rfl) ea_nil)))))) (fun hb H1 e1 => ?_) (fun hb H1 e1 => ?_)
    · rw [Bool.not_eq_true'] at hb
      rw [if_pos hb] at hf
      cases hf
      exact deed_ret k (Keep.of e1) (hN.mono e1) (Or.inl rfl) (Or.inl rfl) ev_c
    rw [Bool.not_eq_false'] at hb
    rw [if_neg (by rw [hb]; decide)] at hf
    have hN1 := hN.mono e1
    refine q_when (et_not (et_B (ev_call (ea_cons (ev_var rfl) (ea_cons (ev_var (v := natV i) rfl) ea_nil)) (v_isNode hN1)))) (fun hb2 H2 e2 => ?_) (fun hb2 H2 e2 => ?_)
    · have hlt : N.nodes.length ≤ i := by simpa using hb2
      rw [if_pos hlt] at hf
      cases hf
      exact deed_ret k (Keep.of (e1.trans e2)) (hN1.mono e2) (Or.inl rfl) (Or.inl rfl) ev_c
    have hlt : i < N.nodes.length := by simpa using hb2
    rw [if_neg (by omega)] at hf
    have hN2 := hN1.mono e2
    have e12 := e1.trans e2
    obtain ⟨u, hu, ku⟩ := e_node T hN2 (node_at hlt)
    obtain ⟨q, dx, t, rfl, hq, ht⟩ := id hu
    refine q_when (et_B (ev_fld (ku (Ex.refl _) (ev_var rfl) (ev_var (v := natV i) rfl)) hq (C_Node T) (F_Node_fixed T) (l_fixed _ _))) (fun hb3 H3 e3 => ?_) (fun hb3 H3 e3 => ?_)
    · rw [if_pos hb3] at hf
      cases hf
      exact deed_ret k (Keep.of (e12.trans e3)) (hN2.mono e3) (Or.inl rfl) (Or.inl rfl) ev_c
    rw [if_neg (by rw [hb3]; decide)] at hf
    cases hf
    have hN3 := hN2.mono e3
    refine u_asg (evm_node (n := ⟨false, x, y, z, 0⟩) ev_c (ea_cons (ev_var rfl) (ea_cons (ev_var rfl) (ea_cons (ev_var rfl) ea_nil))) ev_c H3 (Ex.refl _) _ fun v H4 e4 r => ?_)
    have hN4 := hN3.mono e4
    refine (e_nodes T hN4 (ev_var rfl)) H4 (Ex.refl _) _ fun H5 e5 => ?_
    have hN5 := hN4.mono e5
    obtain ⟨ys, hy, hp⟩ := id hN5.nodes
    refine ⟨_, rfl, l1, ys, (i : Int), i, rfl, rfl, hy, ixN_nat (by rw [← Paired.len hp]; exact hlt), ?_⟩
    exact deed_ret (σ := [some (.ref a), some (.ref na), some (natV i), some (.int x), some (.int y), some (.int z)]) k ((Keep.of (((e12.trans e3).trans e4).trans e5)).upd (Or.inr (Or.inl rfl))) (hN5.setNodes (Paired.setAt (NodeR.mon _ _ _ _ e5 r) i hp)) (Or.inl rfl) (Or.inl rfl) ev_c
def relShift (N : MNet) (nums : List Int) (N' : MNet) (ans : List Int) : Prop := ∃ (i : Nat) (x y z : Int), nums = [(i : Int), x, y, z] ∧ (N', ans) = shiftM N i x y z
def spShift (K : PySem.W.Frag) : Sp := spDeed K relShift
theorem ok_shift (T : Tx K mg) : OkD P w K mg base 3 "shift" ["net", "numbers"] (spShift K) := by
  refine T.ok 69 49 "shift" 66 sc_shift (fun vs H Q E h => ?_) (fun _ _ _ _ _ _ us hl => match us, hl with | [_, _], _ => rfl) (fun cdv A outer s H vs Q E hr h => ?_)
  · obtain ⟨_, _, _, _, _, _, _, _, rfl, _⟩ := h
    rfl
  · obtain ⟨a, l1, l2, na, N, N', nums, ans, rfl, hN, hI, hn1, hn2, hO, hA, hrel, k⟩ := h
    refine ⟨_, (pss_cons (ps_asg (pv 1) (pg_unlK K (n := 4) (pgs_cons (pg_name (i := 2) sc_shift.nd rfl (Or.inl rfl)) (pgs_cons (pg_name (i := 3) sc_shift.nd rfl (Or.inl rfl)) (pgs_cons (pg_name (i := 4) sc_shift.nd rfl (Or.inl rfl)) (pgs_cons (pg_name (i := 5) sc_shift.nd rfl (Or.inl rfl)) pgs_nil))))))
        (pss_cons (ps_if (pt_not (pt_val (pe_callD (ok_vector_may_be (K := K) T) (hr.mono (by decide)) (pa_cons (pe_tup (pa_cons (pv 3) (pa_cons (pv 4) (pa_cons (pv 5) pa_nil)))) pa_nil)))) (pss_one (ps_ret (pe_lst (pa_cons (pe_const (T_NOT_SO T)) pa_nil)))) pss_nil)
        (pss_cons (ps_if (pt_not (pt_val (pe_callD (ok_is_node (K := K) T) (hr.mono (by decide)) (pa_cons (pv 0) (pa_cons (pv 2) pa_nil))))) (pss_one (ps_ret (pe_lst (pa_cons (pe_const (T_NO_SUCH T)) pa_nil)))) pss_nil)
        (pss_cons (ps_if (pt_not (pt_val (pe_fldK K (pe_ixL K (pe_fldK K (pv 0)) (pv 2))))) (pss_one (ps_ret (pe_lst (pa_cons (pe_const (T_OTHER_KIND T)) pa_nil)))) pss_nil)
        (pss_cons (ps_asg (pe_makeK K (okM_Node (K := K) T) (hr.mono (by decide)) (pa_cons pe_bl (pa_cons (pe_tup (pa_cons (pv 3) (pa_cons (pv 4) (pa_cons (pv 5) pa_nil)))) (pa_cons (pe_fldK K (pe_ixL K (pe_fldK K (pv 0)) (pv 2))) pa_nil)))) (pg_sub (pe_fldK K (pv 0)) (pv 2) set_list))
        (pss_one (ps_ret (pe_lst (pa_cons pe_int pa_nil))))))))), ?_⟩
    obtain ⟨i, x, y, z, rfl, hf⟩ := hrel
    unfold shiftM at hf
    refine ⟨_, rfl, na, _, rfl, SqL.of hI, rfl, ?_⟩
    refine ⟨_, _, rfl, _, _, rfl, _, _, rfl, _, _, rfl, rfl, ?_⟩
    refine q_when (et_not (et_B (ev_vecOk (ea_cons (ev_var rfl) (ea_cons (ev_var rfl) (ea_cons (ev_var rfl) ea_nil)))))) (fun hb H1 e1 => ?_) (fun hb H1 e1 => ?_)
    · rw [Bool.not_eq_true'] at hb
      rw [if_pos hb] at hf
      cases hf
      exact deed_ret k (Keep.of e1) (hN.mono e1) (Or.inl rfl) (Or.inl rfl) ev_c
    rw [Bool.not_eq_false'] at hb
    rw [if_neg (by rw [hb]; decide)] at hf
    have hN1 := hN.mono e1
    refine q_when (et_not (et_B (ev_call (ea_cons (ev_var rfl) (ea_cons (ev_var (v := natV i) rfl) ea_nil)) (v_isNode hN1)))) (fun hb2 H2 e2 => ?_) (fun hb2 H2 e2 => ?_)
    · have hlt : N.nodes.length ≤ i := by simpa using hb2
      rw [if_pos hlt] at hf
      cases hf
      exact deed_ret k (Keep.of (e1.trans e2)) (hN1.mono e2) (Or.inl rfl) (Or.inl rfl) ev_c
    have hlt : i < N.nodes.length := by simpa using hb2
    rw [if_neg (by omega)] at hf
    have hN2 := hN1.mono e2
    have e12 := e1.trans e2
    obtain ⟨u, hu, ku⟩ := e_node T hN2 (node_at hlt)
    obtain ⟨q, dx, t, rfl, hq, ht⟩ := id hu
    refine q_when (et_not (et_B (ev_fld (ku (Ex.refl _) (ev_var rfl) (ev_var (v := natV i) rfl)) hq (C_Node T) (F_Node_fixed T) (l_fixed _ _)))) (fun hb3 H3 e3 => ?_) (fun hb3 H3 e3 => ?_)
    · rw [Bool.not_eq_true'] at hb3
      rw [if_pos hb3] at hf
      cases hf
      exact deed_ret k (Keep.of (e12.trans e3)) (hN2.mono e3) (Or.inl rfl) (Or.inl rfl) ev_c
    rw [Bool.not_eq_false'] at hb3
    rw [if_neg (by rw [hb3]; decide)] at hf
    cases hf
    have hN3 := hN2.mono e3
    refine u_asg (evm_node (n := ⟨true, x, y, z, (N.nodes.getD i default).bound⟩) ev_c (ea_cons (ev_var rfl) (ea_cons (ev_var rfl) (ea_cons (ev_var rfl) ea_nil))) (ev_fld (ku e3 (ev_var rfl) (ev_var (v := natV i) rfl)) (e3 _ _ hq) (C_Node T) (F_Node_bound T) (l_bound _ _)) H3 (Ex.refl _) _ fun v H4 e4 r => ?_)
    have hN4 := hN3.mono e4
    refine (e_nodes T hN4 (ev_var rfl)) H4 (Ex.refl _) _ fun H5 e5 => ?_
    have hN5 := hN4.mono e5
    obtain ⟨ys, hy, hp⟩ := id hN5.nodes
    refine ⟨_, rfl, l1, ys, (i : Int), i, rfl, rfl, hy, ixN_nat (by rw [← Paired.len hp]; exact hlt), ?_⟩
    exact deed_ret (σ := [some (.ref a), some (.ref na), some (natV i), some (.int x), some (.int y), some (.int z)]) k ((Keep.of (((e12.trans e3).trans e4).trans e5)).upd (Or.inr (Or.inl rfl))) (hN5.setNodes (Paired.setAt (NodeR.mon _ _ _ _ e5 r) i hp)) (Or.inl rfl) (Or.inl rfl) ev_c
end
end Wp


namespace Wp
open PySem PySem.Spec PyProof.Rows L2 Evl
open He (ga ma Fa DefD SaysD)
/-! ### calls -/
def deedNames : List Str := ["begin", "fix", "free", "lead", "tune", "cut", "load", "shift", "place", "pull", "bears", "worst", "lowest", "all_forces", "would", "reach", "judge", "counts", "breaks"]
def sizesL : List Int := [0, 4, 3, 3, 2, 1, 4, 4, 1, 1, 1, 0, 0, 0, 3, 4, 0, 0, 1]
def callAt (d : Nat) (nums : List Int) : List (List Int) := if d = 16 then [[16], nums] else [(d : Int) :: nums]
def askR (r : MNet → List Int → List Int → Prop) : MNet → List Int → MNet → List Int → Prop := fun N nums N' ans => N' = N ∧ r N nums ans
def relL : List (MNet → List Int → MNet → List Int → Prop) := [relBegin, relFix, relFree, relLead, relTune, relCut, relLoad, relShift, askR relPlace, askR relPull, askR relBears, askR relWorst, askR relLowest, askR relAll, askR relWould, askR relReach, askR relJudge, askR relCounts, askR relBreaks]
def relOf (d : Nat) : MNet → List Int → MNet → List Int → Prop := relL.getD d fun _ _ _ _ => False
def stepM (N : MNet) : List (List Int) → MNet × List Int
  | [[0]] => (⟨[], []⟩, [0])
  | [[1, x, y, z, b]] => fixM N x y z b
  | [[2, x, y, z]] => freeM N x y z
  | [[3, a, b, d]] => leadM N a.toNat b.toNat d
  | [[4, s, d]] => tuneM N s.toNat d
  | [[5, s]] => cutM N s.toNat
  | [[6, i, x, y, z]] => loadM N i.toNat x y z
  | [[7, i, x, y, z]] => shiftM N i.toNat x y z
  | [[8, i]] => (N, placeM N i.toNat)
  | [[9, s]] => (N, pullAskM N s.toNat)
  | [[10, i]] => (N, bearsM N i.toNat)
  | [[11]] => (N, worstM N)
  | [[12]] => (N, lowestM N)
  | [[13]] => (N, allM N)
  | [[14, s, d, i]] => (N, wouldM N s.toNat d i.toNat)
  | [[15, s, i, a, c]] => (N, reachM N s.toNat i.toNat a.toNat c)
  | [[16], l] => (N, judgeM N l)
  | [[17]] => (N, countsM N)
  | [[18, s]] => (N, breaksM N s.toNat)
  | _ => (N, [])
theorem whole_is (c : List (List Int)) : PyWrowpu.whole c = c := by
  unfold PyWrowpu.whole
  split <;> rfl
theorem w32 {z : Int} (h : PullNeutral.whole32 z = true) : ∃ n : Nat, z = (n : Int) := by
  unfold PullNeutral.whole32 at h
  rw [Bool.and_eq_true, decide_eq_true_eq] at h
  exact ⟨z.toNat, by omega⟩
theorem callAt_row {d : Nat} {nums : List Int} {z : Int} {r : List Int} (h : callAt d nums = [z :: r]) : (d : Int) = z ∧ nums = r ∧ d ≠ 16 := by
  unfold callAt at h
  split at h
  · simp at h
  · rename_i n
    simp at h
    exact ⟨h.1, h.2, n⟩
theorem callAt_row2 {d : Nat} {nums a b : List Int} (h : callAt d nums = [a, b]) : d = 16 ∧ nums = b := by
  unfold callAt at h
  split at h
  · rename_i n
    simp at h
    exact ⟨n, h.2⟩
  · simp at h
theorem rel_of {d : Nat} {N : MNet} {nums : List Int} (h : PullNeutral.asked1 (callAt d nums) = true) : d < 19 ∧ relOf d N nums (stepM N (callAt d nums)).1 (stepM N (callAt d nums)).2 := by
  generalize hc : callAt d nums = c at h
  unfold PullNeutral.asked1 at h
  split at h
  · obtain ⟨e1, rfl, _⟩ := callAt_row hc
    obtain rfl : d = 0 := by omega
    exact ⟨by decide, rfl, rfl, rfl⟩
  · obtain ⟨e1, rfl, _⟩ := callAt_row hc
    obtain rfl : d = 1 := by omega
    exact ⟨by decide, _, _, _, _, rfl, rfl⟩
  · obtain ⟨e1, rfl, _⟩ := callAt_row hc
    obtain rfl : d = 2 := by omega
    exact ⟨by decide, _, _, _, rfl, rfl⟩
  · obtain ⟨e1, rfl, _⟩ := callAt_row hc
    obtain rfl : d = 3 := by omega
    simp only [Bool.and_eq_true] at h
    obtain ⟨⟨h0, h1⟩, h2⟩ := h
    obtain ⟨na, rfl⟩ := w32 h0
    obtain ⟨nb, rfl⟩ := w32 h1
    exact ⟨by decide, na, nb, _, rfl, rfl⟩
  · obtain ⟨e1, rfl, _⟩ := callAt_row hc
    obtain rfl : d = 4 := by omega
    simp only [Bool.and_eq_true] at h
    obtain ⟨h0, h1⟩ := h
    obtain ⟨ns, rfl⟩ := w32 h0
    exact ⟨by decide, ns, _, rfl, rfl⟩
  · obtain ⟨e1, rfl, _⟩ := callAt_row hc
    obtain rfl : d = 5 := by omega
    have h0 := h
    obtain ⟨ns, rfl⟩ := w32 h0
    exact ⟨by decide, ns, rfl, rfl⟩
  · obtain ⟨e1, rfl, _⟩ := callAt_row hc
    obtain rfl : d = 6 := by omega
    simp only [Bool.and_eq_true] at h
    obtain ⟨⟨⟨h0, h1⟩, h2⟩, h3⟩ := h
    obtain ⟨ni, rfl⟩ := w32 h0
    exact ⟨by decide, ni, _, _, _, rfl, rfl⟩
  · obtain ⟨e1, rfl, _⟩ := callAt_row hc
    obtain rfl : d = 7 := by omega
    simp only [Bool.and_eq_true] at h
    obtain ⟨⟨⟨h0, h1⟩, h2⟩, h3⟩ := h
    obtain ⟨ni, rfl⟩ := w32 h0
    exact ⟨by decide, ni, _, _, _, rfl, rfl⟩
  · obtain ⟨e1, rfl, _⟩ := callAt_row hc
    obtain rfl : d = 8 := by omega
    have h0 := h
    obtain ⟨ni, rfl⟩ := w32 h0
    exact ⟨by decide, rfl, ni, rfl, rfl⟩
  · obtain ⟨e1, rfl, _⟩ := callAt_row hc
    obtain rfl : d = 9 := by omega
    have h0 := h
    obtain ⟨ns, rfl⟩ := w32 h0
    exact ⟨by decide, rfl, ns, rfl, rfl⟩
  · obtain ⟨e1, rfl, _⟩ := callAt_row hc
    obtain rfl : d = 10 := by omega
    have h0 := h
    obtain ⟨ni, rfl⟩ := w32 h0
    exact ⟨by decide, rfl, ni, rfl, rfl⟩
  · obtain ⟨e1, rfl, _⟩ := callAt_row hc
    obtain rfl : d = 11 := by omega
    exact ⟨by decide, rfl, rfl, rfl⟩
  · obtain ⟨e1, rfl, _⟩ := callAt_row hc
    obtain rfl : d = 12 := by omega
    exact ⟨by decide, rfl, rfl, rfl⟩
  · obtain ⟨e1, rfl, _⟩ := callAt_row hc
    obtain rfl : d = 13 := by omega
    exact ⟨by decide, rfl, rfl, rfl⟩
  · obtain ⟨e1, rfl, _⟩ := callAt_row hc
    obtain rfl : d = 14 := by omega
    simp only [Bool.and_eq_true] at h
    obtain ⟨⟨h0, h1⟩, h2⟩ := h
    obtain ⟨ns, rfl⟩ := w32 h0
    obtain ⟨ni, rfl⟩ := w32 h2
    exact ⟨by decide, rfl, ns, ni, _, rfl, rfl⟩
  · obtain ⟨e1, rfl, _⟩ := callAt_row hc
    obtain rfl : d = 15 := by omega
    simp only [Bool.and_eq_true] at h
    obtain ⟨⟨⟨h0, h1⟩, h2⟩, h3⟩ := h
    obtain ⟨ns, rfl⟩ := w32 h0
    obtain ⟨ni, rfl⟩ := w32 h1
    obtain ⟨na, rfl⟩ := w32 h2
    exact ⟨by decide, rfl, ns, ni, na, _, rfl, rfl⟩
  · obtain ⟨rfl, rfl⟩ := callAt_row2 hc
    unfold PullNeutral.long at h
    rw [Bool.and_eq_true] at h
    have h2 := List.all_eq_true.mp h.2
    refine ⟨by decide, rfl, fun z hz => ?_, rfl⟩
    have h3 := h2 z hz
    rw [Bool.and_eq_true, decide_eq_true_eq, decide_eq_true_eq] at h3
    exact Bits.of_le (m := 1000000000000000000) (by omega) (by decide)
  · obtain ⟨e1, rfl, _⟩ := callAt_row hc
    obtain rfl : d = 17 := by omega
    exact ⟨by decide, rfl, rfl, rfl⟩
  · obtain ⟨e1, rfl, _⟩ := callAt_row hc
    obtain rfl : d = 18 := by omega
    have h0 := h
    obtain ⟨ns, rfl⟩ := w32 h0
    exact ⟨by decide, rfl, ns, rfl, rfl⟩
  · cases h

/-- where a call's numbers begin, where they end -/
def NumFrom (l : List Int) (at_ d s e : Nat) : Prop := l[at_]? = some (d : Int) ∧ ((d = 16 ∧ s = at_ + 2 ∧ ∃ k : Nat, l[at_ + 1]? = some (k : Int) ∧ e = at_ + 2 + k) ∨ (d ≠ 16 ∧ s = at_ + 1 ∧ ∃ k : Nat, sizesL[d]? = some (k : Int) ∧ e = at_ + 1 + k))
theorem shape_is {p : Int} {n k : Nat} (h : PyWrowpu.shape p = some (n, k)) : ∃ d : Nat, p = (d : Int) ∧ d < 19 ∧ ((d = 16 ∧ n = 0 ∧ k = 1) ∨ (d ≠ 16 ∧ sizesL[d]? = some (n : Int) ∧ k = 0)) := by
  have hp : ∃ d : Nat, d < 19 ∧ p = (d : Int) := by
    unfold PyWrowpu.shape at h
    refine ⟨p.toNat, ?_⟩
    by_cases h0 : 0 ≤ p ∧ p < 19
    · omega
    · repeat rw [if_neg (by omega)] at h
      cases h
  obtain ⟨d, hd, rfl⟩ := hp
  refine ⟨d, rfl, hd, ?_⟩
  have all : ∀ d : Nat, d < 19 → ∀ x, PyWrowpu.shape (d : Int) = some x → (d = 16 ∧ x.1 = 0 ∧ x.2 = 1) ∨ (d ≠ 16 ∧ sizesL[d]? = some (x.1 : Int) ∧ x.2 = 0) := by
    intro d hd
    match d, hd with
    | 0, _ => intro x hx; cases hx; exact Or.inr ⟨by decide, rfl, rfl⟩
    | 1, _ => intro x hx; cases hx; exact Or.inr ⟨by decide, rfl, rfl⟩
    | 2, _ => intro x hx; cases hx; exact Or.inr ⟨by decide, rfl, rfl⟩
    | 3, _ => intro x hx; cases hx; exact Or.inr ⟨by decide, rfl, rfl⟩
    | 4, _ => intro x hx; cases hx; exact Or.inr ⟨by decide, rfl, rfl⟩
    | 5, _ => intro x hx; cases hx; exact Or.inr ⟨by decide, rfl, rfl⟩
    | 6, _ => intro x hx; cases hx; exact Or.inr ⟨by decide, rfl, rfl⟩
    | 7, _ => intro x hx; cases hx; exact Or.inr ⟨by decide, rfl, rfl⟩
    | 8, _ => intro x hx; cases hx; exact Or.inr ⟨by decide, rfl, rfl⟩
    | 9, _ => intro x hx; cases hx; exact Or.inr ⟨by decide, rfl, rfl⟩
    | 10, _ => intro x hx; cases hx; exact Or.inr ⟨by decide, rfl, rfl⟩
    | 11, _ => intro x hx; cases hx; exact Or.inr ⟨by decide, rfl, rfl⟩
    | 12, _ => intro x hx; cases hx; exact Or.inr ⟨by decide, rfl, rfl⟩
    | 13, _ => intro x hx; cases hx; exact Or.inr ⟨by decide, rfl, rfl⟩
    | 14, _ => intro x hx; cases hx; exact Or.inr ⟨by decide, rfl, rfl⟩
    | 15, _ => intro x hx; cases hx; exact Or.inr ⟨by decide, rfl, rfl⟩
    | 16, _ => intro x hx; cases hx; exact Or.inl ⟨rfl, rfl, rfl⟩
    | 17, _ => intro x hx; cases hx; exact Or.inr ⟨by decide, rfl, rfl⟩
    | 18, _ => intro x hx; cases hx; exact Or.inr ⟨by decide, rfl, rfl⟩
    | n + 19, hd => exact absurd hd (by omega)
  exact all d hd _ h
theorem turn_of {l : List Int} {at_ f : Nat} {cs : List (List (List Int))} (hat : at_ < l.length) (h : PyFlat.calls PyWrowpu.shape f (l.drop at_) = some cs) : ∃ c cs' d s e f', cs = c :: cs' ∧ NumFrom l at_ d s e ∧ s ≤ e ∧ e ≤ l.length ∧ at_ < e ∧ c = callAt d ((l.drop s).take (e - s)) ∧ PyFlat.calls PyWrowpu.shape f' (l.drop e) = some cs' := by
  have hd0 := List.drop_eq_getElem_cons hat
  have hat2 : l[at_]? = some l[at_] := List.getElem?_eq_getElem hat
  generalize l[at_] = p at hd0 hat2
  rw [hd0] at h
  have hl1 : (l.drop (at_ + 1)).length = l.length - (at_ + 1) := List.length_drop
  cases f with
  | zero => exact absurd h (by simp [PyFlat.calls])
  | succ f =>
    unfold PyFlat.calls at h
    unfold PyFlat.call at h
    dsimp only at h
    cases hsh : PyWrowpu.shape p with
    | none => rw [hsh] at h; simp at h
    | some nk =>
      obtain ⟨n, k⟩ := nk
      rw [hsh] at h
      dsimp only at h
      by_cases hlen : (l.drop (at_ + 1)).length < n
      · rw [if_pos hlen] at h
        simp at h
      · rw [if_neg hlen] at h
        obtain ⟨d, rfl, hd, hcase⟩ := shape_is hsh
        rcases hcase with ⟨rfl, rfl, rfl⟩ | ⟨hne, hsz, rfl⟩
        · simp only [PyFlat.rows, List.drop_zero] at h
          cases hr : l.drop (at_ + 1) with
          | nil => rw [hr] at h; simp [PyFlat.row] at h
          | cons m r =>
            rw [hr] at h
            unfold PyFlat.row at h
            dsimp only at h
            have hm1 : l[at_ + 1]? = some m := by
              have : (l.drop (at_ + 1))[0]? = some m := by rw [hr]; rfl
              rw [List.getElem?_drop] at this
              exact this
            have hr2 : l.drop (at_ + 2) = r := by
              have : (l.drop (at_ + 1)).drop 1 = r := by rw [hr]; rfl
              rw [List.drop_drop] at this
              exact this
            have hrl : r.length = l.length - (at_ + 2) := by rw [← hr2, List.length_drop]
            have hlt := (List.getElem?_eq_some_iff.mp hm1).1
            by_cases hm : 0 ≤ m ∧ m.toNat ≤ r.length
            · rw [if_pos hm] at h
              dsimp only at h
              cases hcs : PyFlat.calls PyWrowpu.shape f (r.drop m.toNat) with
              | none => rw [hcs] at h; simp at h
              | some cs' =>
                rw [hcs] at h
                simp only [Option.some.injEq] at h
                refine ⟨_, cs', 16, at_ + 2, at_ + 2 + m.toNat, f, h.symm, ⟨hat2, Or.inl ⟨rfl, rfl, m.toNat, by rw [hm1, Int.toNat_of_nonneg hm.1], rfl⟩⟩, by omega, by omega, by omega, ?_, ?_⟩
                · rw [hr2, show at_ + 2 + m.toNat - (at_ + 2) = m.toNat by omega]
                  rfl
                · rw [← List.drop_drop, hr2]
                  exact hcs
            · rw [if_neg hm] at h
              simp at h
        · simp only [PyFlat.rows] at h
          cases hcs : PyFlat.calls PyWrowpu.shape f ((l.drop (at_ + 1)).drop n) with
          | none => rw [hcs] at h; simp at h
          | some cs' =>
            rw [hcs] at h
            simp only [Option.some.injEq] at h
            refine ⟨_, cs', d, at_ + 1, at_ + 1 + n, f, h.symm, ⟨hat2, Or.inr ⟨hne, rfl, n, hsz, rfl⟩⟩, by omega, by omega, by omega, ?_, ?_⟩
            · unfold callAt
              rw [if_neg hne, show at_ + 1 + n - (at_ + 1) = n by omega]
            · rw [← List.drop_drop]
              exact hcs
theorem cut_both {l : List Int} {s e : Nat} (h1 : s ≤ e) (h : e ≤ l.length) : cutV (l.map V.int) (some (s : Int)) (some (e : Int)) = ((l.drop s).take (e - s)).map V.int := by
  unfold cutV
  rw [HT.sIx_nat, HT.sIx_nat, List.length_map, Nat.min_eq_left h, Nat.min_eq_left (by omega), List.map_take, List.map_drop]
end Wp


namespace Wp
open PySem PySem.Spec PyProof.Rows L2 Evl
open He (ga ma Fa DefD SaysD)
theorem Txt.okB {P : Program} {w : World} {K : PySem.W.Frag} {mg : Str → Option Value} {fa : List Fa} {fn : List DefD} (T : Txt fa fn K mg) (j : Nat) (x : Str) (n : Nat) {N ps : List Str} {k : Nat} {sp : Sp} (S : FnScope N ps (defScope (top n))) (len : ∀ vs H Q E, sp vs H Q E → vs.length = ps.length)
    (hbind : ∀ (kV doc pm : Value) (an : Option Addr) (cdv ct : Value) (us : List Value), us.length = ps.length → bindArgs (PySem.W.fnOf x x (defArgs (top n)) (defBody (top n)) (defScope (top n)) .none kV doc pm an cdv ct) ⟨us, []⟩ = pure (ps.zip us))
    (hbody : ∀ (base : Heap) (cdv : Value) (A : Around) (outer : List Env) (s : Shared) (H : Hp) (vs : List V) (Q : VK) (E : XK), Room k (A.deeper (envOfC x (defScope (top n)) s.heap.objs.size (ga K x) cdv)) → sp vs H Q E →
      ∃ t, PSs (cxOf CX0 P w K mg base N x (defScope (top n)) (ga K x) cdv A outer s H E).nox (defBody (top n)) t ∧ t { nx := fun _ H' => Q .non H', rt := Q } (start N vs) H)
    (h2 : fn[j]? = some (gD x n) := by rfl) : ∃ fd, (∀ (s : Shared) (us : List Value), us.length = ps.length → BindsTo s fd ⟨us, []⟩ (ps.zip us)) ∧ ∀ base : Heap, FnOk P w K mg base CX0 (k + 1) (ga K x) fd ps sp := by
  obtain ⟨fd, F⟩ := T.s.def_ j h2
  refine ⟨fd, fun s us hl => ?_, fun base => FunD.ok F S len fun cdv A outer s H vs Q E hr h => ?_⟩
  · obtain ⟨oc, od, dV, kV, doc, pm, an, cdv, ct, osl, rfl, lk, hcd, hD, hK⟩ := F.ex
    rcases hD with ⟨_, rfl⟩ | ⟨e, _⟩
    · exact BindsTo.of_eq (hbind kV doc pm an cdv ct us hl)
    · exact absurd rfl e
  · obtain ⟨t, a, b⟩ := hbody base cdv A outer s H vs Q E hr h
    exact ⟨t, a.nox, b⟩
/-- the tables, as the top has written them -/
structure Tab (K : PySem.W.Frag) : Prop where
  deeds : He.tupB K "DEEDS" (deedNames.map He.Dv.glo) = true
  sizes : He.tupB K "SIZES" (sizesL.map He.Dv.int) = true
  nd : (deedNames.map (ga K)).Nodup
def deedS (K : PySem.W.Frag) (f : Addr) : Option Sp := if (deedNames.map (ga K)).idxOf f < 19 then some (spDeed K (relOf ((deedNames.map (ga K)).idxOf f))) else none
section
variable {P : Program} {w : World} {K : PySem.W.Frag} {mg : Str → Option Value} {base : Heap} {σ : L2.St} {H H1 : Hp} {ta tv : TA} {te ti tf tb : TE}
theorem heldD {k : Nat} {x : Str} {ps : List Str} {sp sp' : Sp} (F : OkD P w K mg base k x ps sp) (hk : k ≤ 6) (h : ∀ vs H Q E, sp' vs H Q E → sp vs H Q E) : Held P w K mg base 6 (ga K x) sp' := by
  obtain ⟨fd, F1, hb⟩ := F.ex
  exact ⟨⟨fd, ps, (F1.mono hk).imp h, F.kp, hb⟩⟩
theorem held_at (T : Tx K mg) : ∀ d, d < 19 → ∃ x, deedNames[d]? = some x ∧ Held P w K mg base 6 (ga K x) (spDeed K (relOf d)) := by
  intro d hd
  match d, hd with
  | 0, _ => exact ⟨_, rfl, heldD (ok_begin T) (by decide) fun _ _ _ _ h => h⟩
  | 1, _ => exact ⟨_, rfl, heldD (ok_fix T) (by decide) fun _ _ _ _ h => h⟩
  | 2, _ => exact ⟨_, rfl, heldD (ok_free T) (by decide) fun _ _ _ _ h => h⟩
  | 3, _ => exact ⟨_, rfl, heldD (ok_lead T) (by decide) fun _ _ _ _ h => h⟩
  | 4, _ => exact ⟨_, rfl, heldD (ok_tune T) (by decide) fun _ _ _ _ h => h⟩
  | 5, _ => exact ⟨_, rfl, heldD (ok_cut T) (by decide) fun _ _ _ _ h => h⟩
  | 6, _ => exact ⟨_, rfl, heldD (ok_load T) (by decide) fun _ _ _ _ h => h⟩
  | 7, _ => exact ⟨_, rfl, heldD (ok_shift T) (by decide) fun _ _ _ _ h => h⟩
  | 8, _ => exact ⟨_, rfl, heldD (ok_place T) (by decide) fun _ _ _ _ h => spAsk.deed h⟩
  | 9, _ => exact ⟨_, rfl, heldD (ok_pull T) (by decide) fun _ _ _ _ h => spAsk.deed h⟩
  | 10, _ => exact ⟨_, rfl, heldD (ok_bears T) (by decide) fun _ _ _ _ h => spAsk.deed h⟩
  | 11, _ => exact ⟨_, rfl, heldD (ok_worst T) (by decide) fun _ _ _ _ h => spAsk.deed h⟩
  | 12, _ => exact ⟨_, rfl, heldD (ok_lowest T) (by decide) fun _ _ _ _ h => spAsk.deed h⟩
  | 13, _ => exact ⟨_, rfl, heldD (ok_all_forces T) (by decide) fun _ _ _ _ h => spAsk.deed h⟩
  | 14, _ => exact ⟨_, rfl, heldD (ok_would T) (by decide) fun _ _ _ _ h => spAsk.deed h⟩
  | 15, _ => exact ⟨_, rfl, heldD (ok_reach T) (by decide) fun _ _ _ _ h => spAsk.deed h⟩
  | 16, _ => exact ⟨_, rfl, heldD (ok_judge T) (by decide) fun _ _ _ _ h => spAsk.deed h⟩
  | 17, _ => exact ⟨_, rfl, heldD (ok_counts T) (by decide) fun _ _ _ _ h => spAsk.deed h⟩
  | 18, _ => exact ⟨_, rfl, heldD (ok_breaks T) (by decide) fun _ _ _ _ h => spAsk.deed h⟩
  | n + 19, hd => exact absurd hd (by omega)
theorem deed_addr {d : Nat} {x : Str} (h : deedNames[d]? = some x) : (deedNames.map (ga K))[d]? = some (ga K x) := by rw [List.getElem?_map, h]; rfl
theorem held_deeds (T : Tx K mg) (B : Tab K) : ∀ f sp, deedS K f = some sp → Held P w K mg base 6 f sp := by
  intro f sp h
  unfold deedS at h
  split at h
  · rename_i hi
    cases h
    obtain ⟨x, hx, hh⟩ := held_at (P := P) (w := w) (K := K) (mg := mg) (base := base) T _ hi
    have h1 := deed_addr (K := K) hx
    have hl : (deedNames.map (ga K)).idxOf f < (deedNames.map (ga K)).length := by rw [List.length_map]; exact hi
    have h2 : (deedNames.map (ga K))[(deedNames.map (ga K)).idxOf f]? = some f := by
      rw [List.getElem?_eq_getElem hl, List.getElem_idxOf]
    have e : ga K x = f := Option.some.inj (h1.symm.trans h2)
    rw [e] at hh
    exact hh
  · cases h
theorem deedS_at (B : Tab K) {d : Nat} {x : Str} (hd : d < 19) (h : deedNames[d]? = some x) : deedS K (ga K x) = some (spDeed K (relOf d)) := by
  have hl : d < (deedNames.map (ga K)).length := by rw [List.length_map]; exact hd
  have h1 := deed_addr (K := K) h
  rw [List.getElem?_eq_getElem hl] at h1
  have e : (deedNames.map (ga K)).idxOf (ga K x) = d := by
    rw [← Option.some.inj h1]
    exact B.nd.idxOf_getElem d hl
  unfold deedS
  rw [e, if_pos hd]
/-! ### desk.py -/
def spNumFrom (K : PySem.W.Frag) : Sp := fun vs H Q _ => ∃ (ca : Addr) (l : List Int) (at_ d s e : Nat), vs = [.ref ca, natV at_] ∧ SqL K H ca (l.map V.int) ∧ SqT K H (ga K "SIZES") (sizesL.map V.int) ∧ NumFrom l at_ d s e ∧ RetU [natV s, natV e] H Q
theorem NetAt.updL {a l1 l2 gv : Addr} {o : HO} {N : MNet} (h : NetAt K H a l1 l2 N) (hg : ∃ ys, H gv = some (.lst ys)) (n1 : gv ≠ l1) (n2 : gv ≠ l2) : NetAt K (upd H gv o) a l1 l2 N := by
  have kp : ∀ b u, H b = some u → b ≠ a → b ≠ gv → (upd H gv o) b = some u := fun b u hb _ n => by rw [upd_ne n]; exact hb
  obtain ⟨dx, hi⟩ := id h.ins
  obtain ⟨ys, hy, hp⟩ := h.nodes
  obtain ⟨zs, hz, hq⟩ := h.spans
  have na : a ≠ gv := fun e => by
    obtain ⟨ys, hg⟩ := hg
    rw [e, hg] at hi
    cases hi
  exact ⟨⟨dx, by rw [upd_ne na]; exact hi⟩, h.ne, ⟨ys, by rw [upd_ne n1.symm]; exact hy, Paired.imp (fun _ _ r => NodeR.kp h.ha hg kp r) hp⟩, ⟨zs, by rw [upd_ne n2.symm]; exact hz, Paired.imp (fun _ _ r => SpanR.kp h.ha hg kp r) hq⟩⟩
theorem ok_numbers_from (T : Tx K mg) : OkD P w K mg base 1 "numbers_from" ["calls", "at"] (spNumFrom K) := by
  refine T.ok 77 57 "numbers_from" 79 sc_numbers_from (fun vs H Q E h => ?_) (fun _ _ _ _ _ _ us hl => match us, hl with | [_, _], _ => rfl) (fun cdv A outer s H vs Q E hr h => ?_)
  · obtain ⟨_, _, _, _, _, _, rfl, _⟩ := h
    rfl
  · obtain ⟨ca, l, at_, d, s, e, rfl, hl, hS, hN, k⟩ := h
    refine ⟨_, (pss_cons (ps_if (pt_cmpR op_eq (pe_ixL K (pv 0) (pv 1)) (pe_const (T_JUDGE T)) (nomark _)) (pss_one (ps_ret (pe_tup (pa_cons (pe_op op_add (pv 1) pe_int) (pa_cons (pe_op op_add (pe_op op_add (pv 1) pe_int) (pe_ixL K (pv 0) (pe_op op_add (pv 1) pe_int))) pa_nil))))) pss_nil)
        (pss_one (ps_ret (pe_tup (pa_cons (pe_op op_add (pv 1) pe_int) (pa_cons (pe_op op_add (pe_op op_add (pv 1) pe_int) (pe_ixT K (pe_globr (T_SIZES T)) (pe_ixL K (pv 0) (pv 1)))) pa_nil)))))), ?_⟩
    obtain ⟨h0, hc⟩ := hN
    refine q_when (b := decide ((d : Int) = 16)) (et_is (et_test (ev_op (ev_op (ev_var rfl) (ev_var rfl) (rv_ixL hl (atI_nat (il_at h0)))) ev_c (rv_eq rfl))) intV_eq) (fun hb H1 e1 => ?_) (fun hb H1 e1 => ?_)
    · have hd : d = 16 := by have := of_decide_eq_true hb; omega
      rcases hc with ⟨_, rfl, kk, h1, rfl⟩ | ⟨h, _⟩
      · refine s_retU (eu_tup (ea_cons (ev_addN (b := 2) (ev_var rfl) ev_c) (ea_cons (ev_addN (ev_addN (b := 2) (ev_var rfl) ev_c) (ev_is (ev_op (ev_var rfl) (ev_addN (b := 1) (ev_var rfl) ev_c) (rv_ixL (ex_l e1 hl) (atI_nat (il_at h1)))) rfl)) ea_nil)) (by show 2 ≤ 100000; decide)) fun p H2 hp e2 h2 => k p H2 (fresh_back e1 hp) (e1.trans e2) h2
      · exact absurd hd h
    · have hd : d ≠ 16 := by have := of_decide_eq_false hb; omega
      rcases hc with ⟨h, _⟩ | ⟨_, rfl, kk, h1, rfl⟩
      · exact absurd h hd
      · refine s_retU (eu_tup (ea_cons (ev_addN (b := 1) (ev_var rfl) ev_c) (ea_cons (ev_addN (ev_addN (b := 1) (ev_var rfl) ev_c) (ev_is (ev_op ev_c (ev_is (v := natV d) (ev_op (ev_var rfl) (ev_var rfl) (rv_ixL (ex_l e1 hl) (atI_nat (il_at h0)))) rfl) (rv_ixT (ex_t e1 hS) (atI_nat (il_at h1)))) rfl)) ea_nil)) (by show 2 ≤ 100000; decide)) fun p H2 hp e2 h2 => k p H2 (fresh_back e1 hp) (e1.trans e2) h2
theorem ev_lenS {p : Addr} {xs : List V} {n : Int} (ha : Ev te σ H (.ref p)) (h : SqL K H p xs) (hn : (xs.length : Int) = n) : Ev (tCB (rLenS K) (tCons te tNil)) σ H (.int n) := fun H1 e _ q =>
  ha H1 e _ fun H2 e2 => ⟨p, xs, rfl, Or.inl (ex_l (e.trans e2) h), by rw [hn]; exact q H2 e2⟩
end
def N0 : MNet := ⟨[], []⟩
def StepOk : Prop := ∀ (N : MNet) (c : List (List Int)), NetOk N.nodes N.spans → PullNeutral.asked1 c = true → NetOk (stepM N c).1.nodes (stepM N c).1.spans
def spAns (K : PySem.W.Frag) : Sp := fun vs H Q _ => ∃ (ca : Addr) (l : List Int) (f : Nat) (cs : List (List (List Int))), vs = [.ref ca] ∧ SqL K H ca (l.map V.int) ∧ PyFlat.calls PyWrowpu.shape f l = some cs ∧ (∀ c ∈ cs, PullNeutral.asked1 c = true) ∧ AllReady ∧ StepOk ∧ (PyFlat.told (PyFlat.played stepM N0 cs)).length ≤ 10000000 ∧
  ∀ p H', H' p = some (.lst ((PyFlat.told (PyFlat.played stepM N0 cs)).map V.int)) → Q (.ref p) H'
section
variable {P : Program} {w : World} {K : PySem.W.Frag} {mg : Str → Option Value} {base : Heap} {σ : L2.St} {H H1 : Hp} {ta tv : TA} {te ti tf tb : TE}
theorem ok_answers (T : Tx K mg) (B : Tab K) : ∃ fd, (∀ (s : Shared) (us : List Value), us.length = (["calls"] : List Str).length → BindsTo s fd ⟨us, []⟩ ((["calls"] : List Str).zip us)) ∧ ∀ base : Heap, FnOk P w K mg base CX0 7 (ga K "answers") fd ["calls"] (spAns K) := by
  refine T.okB 58 "answers" 80 sc_answers (fun vs H Q E h => ?_) (fun _ _ _ _ _ _ us hl => match us, hl with | [_], _ => rfl) (fun base cdv A outer s H vs Q E hr h => ?_)
  · obtain ⟨_, _, _, _, rfl, _⟩ := h
    rfl
  · obtain ⟨ca, l, f, cs, rfl, hl, hcs, hask, hA, hSt, hlen, k⟩ := h
    refine ⟨_, (pss_cons (ps_set (i := 1) sc_answers.nd rfl (Or.inl rfl) (pe_make0K K (okM_Net (K := K) T) (hr.mono (by decide))))
        (pss_cons (ps_set (i := 2) sc_answers.nd rfl (Or.inl rfl) (pe_lst pa_nil))
        (pss_cons (ps_set (i := 3) sc_answers.nd rfl (Or.inl rfl) pe_int)
        (pss_cons (ps_while PassesOwn.never (pt_cmpR op_lt (pv 3) (pe_len K (T_len T) (pa_cons (pv 0) pa_nil)) (nomark _)) (pss_cons (ps_asg (pe_callD (ok_numbers_from (K := K) T) (hr.mono (by decide)) (pa_cons (pv 0) (pa_cons (pv 3) pa_nil))) (pg_tupK K (n := 2) (pgs_cons (pg_name (i := 4) sc_answers.nd rfl (Or.inl rfl)) (pgs_cons (pg_name (i := 5) sc_answers.nd rfl (Or.inl rfl)) pgs_nil))))
        (pss_cons (ps_set (i := 6) sc_answers.nd rfl (Or.inl rfl) (pe_ixT K (pe_globr (T_DEEDS T)) (pe_ixL K (pv 0) (pv 3))))
        (pss_cons (ps_set (i := 7) sc_answers.nd rfl (Or.inl rfl) (pe_callA (i := 6) (S := deedS K) (held_deeds T B) hr rfl (Or.inl rfl) (pa_cons (pv 1) (pa_cons (pe_sl K (pv 0) (po_some (pv 4)) (po_some (pv 5))) pa_nil))))
        (pss_cons (ps_expr (pe_lm K PySem.F.slot_list_append PySem.F.type_list_append mt_append (pv 2) (pa_cons (pe_len K (T_len T) (pa_cons (pv 7) pa_nil)) pa_nil)))
        (pss_cons (ps_expr (pe_lm K PySem.F.slot_list_extend PySem.F.type_list_extend mt_extend (pv 2) (pa_cons (pv 7) pa_nil)))
        (pss_one (ps_set (i := 3) sc_answers.nd rfl (Or.inl rfl) (pv 5)))))))))
        (pss_one (ps_ret (pv 2))))))), ?_⟩
    have hD := fun H => He.tupB_ok B.deeds H
    have hZ := fun H => He.tupB_ok B.sizes H
    have hZ2 : ∀ H, SqT K H (ga K "SIZES") (sizesL.map V.int) := fun H => by
      have := hZ H
      rw [List.map_map] at this
      exact this
    have hD2 : ∀ H, SqT K H (ga K "DEEDS") (deedNames.map fun x => V.ref (ga K x)) := fun H => by
      have := hD H
      rw [List.map_map] at this
      exact this
    generalize hTot : PyFlat.told (PyFlat.played stepM N0 cs) = total at hlen k
    refine fun x dx nx nd ne => ⟨x, dx, rfl, upd_same, fun H2 l1 l2 hN f1 f2 kp => ⟨rfl, ?_⟩⟩
    have e02 : Ex H H2 := fun b o hb => kp b o (by rw [upd_ne (ne_of_none hb nx), upd_ne (ne_of_none hb nd)]; exact hb) (ne_of_none hb nx)
    have n1 : H l1 = none := by
      by_cases e : l1 = x
      · rw [e]; exact nx
      · rw [upd_ne e] at f1
        by_cases e2 : l1 = dx
        · rw [e2]; exact nd
        · rw [upd_ne e2] at f1
          exact f1
    have n2 : H l2 = none := by
      by_cases e : l2 = x
      · rw [e]; exact nx
      · rw [upd_ne e] at f2
        by_cases e2 : l2 = dx
        · rw [e2]; exact nd
        · rw [upd_ne e2] at f2
          exact f2
    show tSeq _ _ _ ([some (.ref ca), some (.ref x), none, none, none, none, none, none] : L2.St) H2
    refine q_asgL (el_lst ea_nil (by decide)) fun gv H3 hgv e3 h3 => ?_
    refine q_asg (v := natV 0) ev_c fun H4 e4 => ?_
    have e24 := e3.trans e4
    have hgv0 : H gv = none := fresh_back e02 hgv
    have hN4 := hN.mono e24
    have hgx : gv ≠ x := fun e => by
      obtain ⟨dx', hi⟩ := hN.ins
      rw [← e, hgv] at hi
      cases hi
    have hg1 : gv ≠ l1 := fun e => by
      obtain ⟨ys, hy, _⟩ := hN.nodes
      rw [← e, hgv] at hy
      cases hy
    have hg2 : gv ≠ l2 := fun e => by
      obtain ⟨ys, hy, _⟩ := hN.spans
      rw [← e, hgv] at hy
      cases hy
    refine q_while (fun m σ' H' => ∃ (at_ f : Nat) (N : MNet) (cs : List (List (List Int))) (g : List Int) (l1 l2 : Addr) (a b c d : Option V), σ' = [some (.ref ca), some (.ref x), some (.ref gv), some (natV at_), a, b, c, d] ∧ m = l.length - at_ ∧ at_ ≤ l.length ∧ PyFlat.calls PyWrowpu.shape f (l.drop at_) = some cs ∧ (∀ c ∈ cs, PullNeutral.asked1 c = true) ∧ g ++ PyFlat.told (PyFlat.played stepM N cs) = total ∧ NetOk N.nodes N.spans ∧ Ex H H' ∧ H l1 = none ∧ H l2 = none ∧ gv ≠ l1 ∧ gv ≠ l2 ∧ NetAt K H' x l1 l2 N ∧ H' gv = some (.lst (g.map V.int))) (l.length - 0)
      ⟨0, f, N0, cs, [], l1, l2, none, none, none, none, rfl, rfl, Nat.zero_le _, by rw [List.drop_zero]; exact hcs, hask, by rw [List.nil_append]; exact hTot, ⟨by show 0 ≤ 24; decide, by show 0 ≤ 40; decide, (fun n hn => by cases hn), (fun s hs => by cases hs)⟩, e02.trans e24, n1, n2, hg1, hg2, hN4, e4 _ _ h3⟩ ?_
    rintro m σ' H' ⟨at_, f, N, cs, g, l1, l2, q1, q2, q3, q4, rfl, rfl, hle, hcs, hask, htot, hO, eH, n1, n2, hg1, hg2, hN, hgl⟩
    refine ⟨decide (at_ < l.length), et_is (et_test (ev_op (ev_var (v := natV at_) rfl) (ev_lenS (n := (l.length : Int)) (ev_var rfl) (ex_l eH hl) (by rw [List.length_map])) rv_I0)) ?_, fun hb H1 e1 => ?_, fun hb H1 e1 => ?_⟩
    · simp
    · have hat : at_ < l.length := of_decide_eq_true hb
      obtain ⟨c, cs', d, s, e, f', rfl, hNF, hse, hel, hate, hc, hcs'⟩ := turn_of hat hcs
      have hc1 := hask c (by simp)
      generalize hnums : (l.drop s).take (e - s) = nums at hc
      subst hc
      obtain ⟨hd, hrel⟩ := rel_of (N := N) hc1
      have hOk := hSt N _ hO hc1
      refine ⟨fun σ2 H2 => ∃ m' < l.length - at_, ∃ (at_ f : Nat) (N : MNet) (cs : List (List (List Int))) (g : List Int) (l1 l2 : Addr) (a b c d : Option V), σ2 = [some (.ref ca), some (.ref x), some (.ref gv), some (natV at_), a, b, c, d] ∧ m' = l.length - at_ ∧ at_ ≤ l.length ∧ PyFlat.calls PyWrowpu.shape f (l.drop at_) = some cs ∧ (∀ c ∈ cs, PullNeutral.asked1 c = true) ∧ g ++ PyFlat.told (PyFlat.played stepM N cs) = total ∧ NetOk N.nodes N.spans ∧ Ex H H2 ∧ H l1 = none ∧ H l2 = none ∧ gv ≠ l1 ∧ gv ≠ l2 ∧ NetAt K H2 x l1 l2 N ∧ H2 gv = some (.lst (g.map V.int)), fun σ2 H2 ⟨m', hm, h⟩ => ⟨m', hm, h⟩, ?_⟩
      have eH1 := eH.trans e1
      refine u_asg ((eu_call (sp := spNumFrom K) (xs := [natV s, natV e]) (ea_cons (ev_var rfl) (ea_cons (ev_var (v := natV at_) rfl) ea_nil)) fun H2 e2 Q' E' k' => ⟨ca, l, at_, d, s, e, rfl, ex_l (eH1.trans e2) hl, hZ2 _, hNF, k'⟩) H1 (Ex.refl _) _ fun tp H2 _ e2 h2 => ?_)
      refine ⟨tp, _, rfl, SqT.of h2, rfl, _, _, rfl, _, _, rfl, rfl, ?_⟩
      obtain ⟨nm, hnm, _⟩ := held_at (P := P) (w := w) (K := K) (mg := mg) (base := base) T d hd
      refine q_asg (v := .ref (ga K nm)) (ev_op ev_c (ev_is (v := natV d) (ev_op (ev_var rfl) (ev_var (v := natV at_) rfl) (rv_ixL (ex_l (eH1.trans e2) hl) (atI_nat (il_at hNF.1)))) rfl) (rv_ixT (hD2 _) (atI_nat (by rw [List.getElem?_map, hnm]; rfl)))) fun H3 e3 => ?_
      have e13 := e2.trans e3
      refine u_asg ⟨ga K nm, _, rfl, deedS_at B hd hnm, ?_⟩
      have hsl : EvL (tSl (rSlL K) (tVar 0) (tPart (tVar 4)) (tPart (tVar 5))) ([some (.ref ca), some (.ref x), some (.ref gv), some (natV at_), some (natV s), some (natV e), some (.ref (ga K nm)), q4] : L2.St) H3 (nums.map V.int) := el_is (el_sl (ev_var rfl) (eo_some (ev_var (v := .int (s : Int)) rfl)) (eo_some (ev_var (v := .int (e : Int)) rfl)) (ex_l (eH1.trans e13) hl)) (by rw [cut_both hse hel, hnums])
      refine (ev_var (v := .ref x) rfl) H3 (Ex.refl _) _ fun H4 e4 => hsl H4 e4 _ fun na H5 hna e5 h5 => ?_
      have e15 := (e13.trans e4).trans e5
      have hN5 := hN.mono (e1.trans e15)
      have hgl5 := (e1.trans e15) _ _ hgl
      have hN4 := hN.mono (e1.trans (e13.trans e4))
      refine ⟨x, l1, l2, na, N, _, nums, _, rfl, hN5, h5, fun z => ?_, fun z => ?_, hO, hA, hrel, fun p l1' l2' H6 hp6 kp6 hN6 h6 c1 c2 => ?_⟩
      · obtain ⟨ys, hy, _⟩ := hN4.nodes
        rw [← z, hna] at hy
        cases hy
      · obtain ⟨ys, hy, _⟩ := hN4.spans
        rw [← z, hna] at hy
        cases hy
      have hpg : p ≠ gv := fun z => by
        rw [z, hgl5] at hp6
        cases hp6
      have hgl6 := kp6.k gv _ hgl5 hgx hg1 hg2
      have eH5 := eH1.trans e15
      have eH6 : Ex H H6 := fun b o hb => kp6.k b o (eH5 b o hb) (ne_of_none hb nx) (ne_of_none hb n1) (ne_of_none hb n2)
      have n1' : H l1' = none := c1.elim (fun z => by rw [z]; exact n1) fun z => fresh_back eH5 z
      have n2' : H l2' = none := c2.elim (fun z => by rw [z]; exact n2) fun z => fresh_back eH5 z
      have g1' : gv ≠ l1' := c1.elim (fun z => by rw [z]; exact hg1) fun z y => by rw [← y, hgl5] at z; cases z
      have g2' : gv ≠ l2' := c2.elim (fun z => by rw [z]; exact hg2) fun z y => by rw [← y, hgl5] at z; cases z
      have htot2 : (g ++ ((stepM N (callAt d nums)).2.length : Int) :: (stepM N (callAt d nums)).2) ++ PyFlat.told (PyFlat.played stepM (stepM N (callAt d nums)).1 cs') = total := by
        rw [← htot]
        simp [PyFlat.played, PyFlat.told]
      generalize stepM N (callAt d nums) = r at hrel hOk hN6 h6 htot2
      obtain ⟨N', ans⟩ := r
      dsimp only at hOk hN6 h6 htot2
      have hlt : g.length + 1 + ans.length ≤ 10000000 := by
        have := congrArg List.length htot2
        simp only [List.length_append, List.length_cons] at this
        omega
      have hbig : (10000000 : Nat) < sizeLine := by decide
      show tSeq _ _ _ ([some (.ref ca), some (.ref x), some (.ref gv), some (natV at_), some (natV s), some (natV e), some (.ref (ga K nm)), some (.ref p)] : L2.St) H6
      refine u_drop ⟨_, rfl, Or.inl ⟨rfl, _, SqL.of hgl6⟩, (ev_len2 (n := (ans.length : Int)) (ev_var rfl) h6 (by rw [List.length_map])) H6 (Ex.refl _) _ fun H7 e7 => ⟨gv, _, .int (ans.length : Int), rfl, rfl, e7 _ _ hgl6, by rw [List.length_map]; omega, ?_⟩⟩
      show tSeq _ _ _ _ (upd H7 gv (.lst (g.map V.int ++ [.int (ans.length : Int)])))
      refine u_drop ⟨_, rfl, Or.inl ⟨rfl, _, SqL.of upd_same⟩, _, rfl, gv, p, _, ans.map V.int, rfl, rfl, upd_same, by rw [upd_ne hpg]; exact e7 _ _ h6, by rw [List.length_append, List.length_map, List.length_map]; show g.length + 1 + _ ≤ _; omega, ?_⟩
      have hN7 := hN6.mono e7
      have hgl7 := e7 _ _ hgl6
      have hN8 := (hN7.updL (o := .lst (g.map V.int ++ [.int (ans.length : Int)])) ⟨_, hgl7⟩ g1' g2').updL (o := .lst (g.map V.int ++ [.int (ans.length : Int)] ++ ans.map V.int)) ⟨_, upd_same⟩ g1' g2'
      refine ⟨_, rfl, l.length - e, by omega, e, f', N', cs', g ++ (ans.length : Int) :: ans, l1', l2', _, _, _, _, rfl, rfl, hel, hcs', fun c hc => hask c (by simp [hc]), htot2, hOk, ?_, n1', n2', g1', g2', hN8, ?_⟩
      · intro b o hb
        have hb2 : b ≠ gv := ne_of_none hb hgv0
        rw [upd_ne hb2, upd_ne hb2]
        exact e7 _ _ (eH6 _ _ hb)
      · rw [upd_same]
        simp
    · have hat : at_ = l.length := by
        have := of_decide_eq_false hb
        omega
      subst hat
      rw [List.drop_length] at hcs
      have hcs2 : cs = [] := by
        cases f with
        | zero => exact (Option.some.inj hcs).symm
        | succ f => exact (Option.some.inj hcs).symm
      subst hcs2
      have hg : g = total := by
        rw [← htot]
        simp [PyFlat.played, PyFlat.told]
      refine s_ret (ev_var rfl) fun H2 e2 => k gv H2 ?_
      rw [← hg]
      exact (e1.trans e2) _ _ hgl
end
end Wp


namespace Wp
theorem all_ready : AllReady := fun nodes l N => by
  have E := net_ends N
  have KR := knots_r (nodes := nodes) (spans := l) E
  have R := net_rows N
  refine ⟨N, ⟨KR.lt, knots_few N _, fun s hs hd ha hf => ?_, fun s hs hd hb hf => ?_⟩, R.solveOk, bal_ok N, fun p => ?_⟩
  · have hG := List.mem_filter.mpr ⟨hs, hd⟩
    have ho : oth s s.a = some s.b := if_pos rfl
    exact ((KR.to s hG s.a ha s.b ho).2.2).elim (fun q => by rw [hf] at q; cases q) id
  · have hG := List.mem_filter.mpr ⟨hs, hd⟩
    have ho : oth s s.b = some s.a := by
      unfold oth
      rw [if_neg (E s hG).2.2, if_pos rfl]
    exact ((KR.to s hG s.b hb s.a ho).2.2).elim (fun q => by rw [hf] at q; cases q) id
  · have e : swayRows nodes l (knotsM nodes (hangM nodes l)) p = swayR (eqsM nodes l (knotsM nodes (hangM nodes l))) ((knotsM nodes (hangM nodes l)).map fun k => (if k = p.a then (1 : Int) else 0) - (if k = p.b then 1 else 0)) (knotsM nodes (hangM nodes l)).length := rfl
    rw [e]
    refine (sway_rows eqsM_shape R (by simp) fun z hz => ?_).solveOk
    obtain ⟨k, _, rfl⟩ := List.mem_map.mp hz
    unfold Bits
    split <;> split <;> decide
end Wp

namespace Wp
open OwPull PullSpec
/-! ### the judge -/
theorem badRow_is : ∀ row : List Int, badRow row = (evens row).any fun b => decide (b < 1)
  | [] => rfl
  | [_] => rfl
  | a :: b :: r => by
    show (decide (b < 1) || badRow r) = (b :: evens r).any _
    rw [List.any_cons, badRow_is r]
theorem vecsOf_at : ∀ (row : List Int) (x : Nat), 6 * x + 6 ≤ row.length → (vecsOf row)[x]? = some ⟨((row.getD (6 * x) 0 : Int) : Rat) / ((row.getD (6 * x + 1) 0 : Int) : Rat), ((row.getD (6 * x + 2) 0 : Int) : Rat) / ((row.getD (6 * x + 3) 0 : Int) : Rat), ((row.getD (6 * x + 4) 0 : Int) : Rat) / ((row.getD (6 * x + 5) 0 : Int) : Rat)⟩
  | a :: b :: c :: d :: e :: f :: r, 0, _ => rfl
  | a :: b :: c :: d :: e :: f :: r, x + 1, h => by
    have h' : 6 * x + 6 ≤ r.length := by
      simp only [List.length_cons] at h
      omega
    show (vecsOf r)[x]? = _
    rw [vecsOf_at r x h']
    have g : ∀ k, (a :: b :: c :: d :: e :: f :: r).getD (6 * (x + 1) + k) 0 = r.getD (6 * x + k) 0 := fun k => by
      rw [show 6 * (x + 1) + k = (6 * x + k) + 1 + 1 + 1 + 1 + 1 + 1 by omega]
      simp [List.getD]
    have g0 := g 0
    simp only [Nat.add_zero] at g0
    rw [g0, g 1, g 2, g 3, g 4, g 5]
  | [], x, h => by simp at h
  | [_], x, h => by simp at h
  | [_, _], x, h => by simp at h
  | [_, _, _], x, h => by simp at h
  | [_, _, _, _], x, h => by simp at h
  | [_, _, _, _, _], x, h => by simp at h
theorem vecsOf_len : ∀ (row : List Int) (n : Nat), row.length = 6 * n → (vecsOf row).length = n
  | a :: b :: c :: d :: e :: f :: r, n, h => by
    simp only [List.length_cons] at h
    obtain ⟨m, rfl⟩ : ∃ m, n = m + 1 := ⟨n - 1, by omega⟩
    show (vecsOf r).length + 1 = m + 1
    rw [vecsOf_len r m (by omega)]
  | [], n, h => by
    have : n = 0 := by simp at h; omega
    subst this
    rfl
  | [_], n, h => by simp at h; omega
  | [_, _], n, h => by simp at h; omega
  | [_, _, _], n, h => by simp at h; omega
  | [_, _, _, _], n, h => by simp at h; omega
  | [_, _, _, _, _], n, h => by simp at h; omega
def fval (f : Fr) : Rat := (f.1 : Rat) / (f.2 : Rat)
def frV (places : List (Option (List Fr))) (j : Nat) : Vec := ⟨fval (frAt places j 0), fval (frAt places j 1), fval (frAt places j 2)⟩
section
variable {N : MNet} {row : List Int}
theorem frAt_some {places : List (Option (List Fr))} {j k : Nat} {frs : List Fr} (h : places[j]? = some (some frs)) : frAt places j k = frs.getD k (0, 1) := by
  unfold frAt
  rw [show places.getD j none = some frs by simp only [List.getD]; rw [h]; rfl]
  rfl
theorem judge_place (O : NOk N) (hl : row.length = 6 * (kn N.nodes N.spans).length) {j : Nat} (hh : (bal N).hang j = true) : (absNet N).placeBy ((kn N.nodes N.spans).zip (vecsOf row)) j = some (frV (rowPlacesM N.nodes (kn N.nodes N.spans) row) j) := by
  have hj : j < N.nodes.length := hang_lt hh
  have KR := knots_r (nodes := N.nodes) (spans := N.spans) (net_ends O)
  rw [rowPlaces_is]
  unfold Net.placeBy
  cases hf : (N.nodes.getD j default).fixed with
  | true =>
    have hg : (absNet N).nodes[j]? = _ := at_fixed (nodes := N.nodes) (spans := N.spans) hj hf
    rw [hg]
    dsimp only
    rcases rowKn_at (knots := kn N.nodes N.spans) (row := row) (p := rowFix N.nodes N.nodes.length) (i := j) (by rw [rowFix_len]; exact hj) (kn N.nodes N.spans).length (Nat.le_refl _) with ⟨h1, h2⟩ | ⟨x, h1, h2, h3⟩
    · rw [rowFix_at hj hf _ hj] at h2
      congr 1
      unfold frV fval
      rw [frAt_some h2, frAt_some h2, frAt_some h2]
      show (⟨_, _, _⟩ : Vec) = ⟨((N.nodes.getD j default).x : Rat) / ((1 : Int) : Rat), ((N.nodes.getD j default).y : Rat) / ((1 : Int) : Rat), ((N.nodes.getD j default).z : Rat) / ((1 : Int) : Rat)⟩
      have d1 : ∀ q : Rat, q / ((1 : Int) : Rat) = q := fun q => by
        have : ((1 : Int) : Rat) = 1 := rfl
        rw [this]
        grind
      rw [d1, d1, d1]
    · have := (mem_kn O).mp (List.mem_of_getElem? h2)
      rw [hf] at this
      cases this.2.2
  | false =>
    have hg : (absNet N).nodes[j]? = _ := at_free (nodes := N.nodes) (spans := N.spans) hj hf
    rw [hg]
    dsimp only
    rcases rowKn_at (knots := kn N.nodes N.spans) (row := row) (p := rowFix N.nodes N.nodes.length) (i := j) (by rw [rowFix_len]; exact hj) (kn N.nodes N.spans).length (Nat.le_refl _) with ⟨h1, h2⟩ | ⟨x, h1, h2, h3⟩
    · rw [List.take_length] at h1
      have hh2 : hungB N.nodes N.spans j = true := by rw [← hang_at O]; exact hh
      exact absurd ((mem_kn O).mpr ⟨hh2, hj, hf⟩) h1
    · have hx : x < (kn N.nodes N.spans).length := h1
      have ek : (kn N.nodes N.spans).getD x 0 = j := by simp [List.getD, h2]
      have hv := vecsOf_at row x (by omega)
      have hfind := find_zip_in (d := zero) (kn N.nodes N.spans) (vecsOf row) x (by rw [vecsOf_len row _ hl]) KR.nd hx
      rw [ek] at hfind
      rw [hfind]
      show some ((vecsOf row).getD x zero) = _
      rw [List.getD, hv]
      congr 1
      unfold frV fval
      rw [frAt_some h3, frAt_some h3, frAt_some h3]
      rfl
theorem step_val {places : List (Option (List Fr))} {k ax : Nat} {t : Fr} {s : MSpan} (h0 : (t.2 : Rat) ≠ 0) (h1 : 0 < (frAt places k ax).2) (h2 : 0 < (frAt places (otherEndM s k) ax).2) : fval (leftStep places k ax t s) = fval t + (s.d : Rat) / 1000 * (fval (frAt places (otherEndM s k) ax) - fval (frAt places k ax)) := by
  have r1 := ratpos h1
  have r2 := ratpos h2
  unfold leftStep fval
  dsimp only
  generalize frAt places k ax = own at *
  generalize frAt places (otherEndM s k) ax = o at *
  push_cast
  grind
/-- the pulls at a knot, as the row has the places -/
theorem judge_pulls (O : NOk N) (hl : row.length = 6 * (kn N.nodes N.spans).length) (hb : ∀ z ∈ row, Bits 60 z) (hp : (evens row).any (fun b => decide (b < 1)) = false) {k : Nat} (hk : (bal N).hang k = true) : ∀ (l : List MSpan), (∀ s ∈ l, s ∈ N.spans) → ∀ (ts : Nat → Fr), (∀ ax, ax < 3 → ((ts ax).2 : Rat) ≠ 0) →
    (∀ ax, ax < 3 → 0 < ((drawingAtM l k).foldl (leftStep (rowPlacesM N.nodes (kn N.nodes N.spans) row) k ax) (ts ax)).2 ∨ True) ∧
    (⟨fval ((drawingAtM l k).foldl (leftStep (rowPlacesM N.nodes (kn N.nodes N.spans) row) k 0) (ts 0)), fval ((drawingAtM l k).foldl (leftStep (rowPlacesM N.nodes (kn N.nodes N.spans) row) k 1) (ts 1)), fval ((drawingAtM l k).foldl (leftStep (rowPlacesM N.nodes (kn N.nodes N.spans) row) k 2) (ts 2))⟩ : Vec) = plus ⟨fval (ts 0), fval (ts 1), fval (ts 2)⟩ (sumVec (((drawingM l).map toSpan).filterMap fun (s : Span) => (s.other k).bind fun (j : Nat) => match (absNet N).placeBy ((kn N.nodes N.spans).zip (vecsOf row)) k, (absNet N).placeBy ((kn N.nodes N.spans).zip (vecsOf row)) j with
    | some p, some q => some (pullOf s.density p q)
    | _, _ => none))
  | [], _, ts, _ => ⟨fun _ _ => Or.inr trivial, (plus_zero _).symm⟩
  | s :: l, hsub, ts, hts => by
    refine ⟨fun _ _ => Or.inr trivial, ?_⟩
    have B := bal_ok O
    have ih := fun ts h => (judge_pulls O hl hb hp hk l (fun t ht => hsub t (List.mem_cons_of_mem _ ht)) ts h).2
    unfold drawingM drawingAtM at ih ⊢
    rw [List.filter_cons, List.filter_cons]
    by_cases hd : drawsM s = true
    · rw [if_pos hd, List.map_cons, List.filterMap_cons]
      rw [hd, Bool.true_and]
      have fr : ∀ j, (bal N).hang j = true → FrOk (rowPlacesM N.nodes (kn N.nodes N.spans) row) j := fun j hj => row_ok O hb hl hp (hang_lt hj) hj
      have key : ∀ j, (toSpan s).other k = some j → (bal N).hang j = true → otherEndM s k = j →
          (⟨fval (((drawingAtM l k).foldl (leftStep (rowPlacesM N.nodes (kn N.nodes N.spans) row) k 0) (leftStep (rowPlacesM N.nodes (kn N.nodes N.spans) row) k 0 (ts 0) s))), fval (((drawingAtM l k).foldl (leftStep (rowPlacesM N.nodes (kn N.nodes N.spans) row) k 1) (leftStep (rowPlacesM N.nodes (kn N.nodes N.spans) row) k 1 (ts 1) s))), fval (((drawingAtM l k).foldl (leftStep (rowPlacesM N.nodes (kn N.nodes N.spans) row) k 2) (leftStep (rowPlacesM N.nodes (kn N.nodes N.spans) row) k 2 (ts 2) s)))⟩ : Vec) = plus ⟨fval (ts 0), fval (ts 1), fval (ts 2)⟩ (plus (pullOf (s.d : Rat) (frV (rowPlacesM N.nodes (kn N.nodes N.spans) row) k) (frV (rowPlacesM N.nodes (kn N.nodes N.spans) row) j)) (sumVec (((l.filter drawsM).map toSpan).filterMap fun (s : Span) => (s.other k).bind fun (j : Nat) => match (absNet N).placeBy ((kn N.nodes N.spans).zip (vecsOf row)) k, (absNet N).placeBy ((kn N.nodes N.spans).zip (vecsOf row)) j with
          | some p, some q => some (pullOf s.density p q)
          | _, _ => none))) := fun j hj hhj hoe => by
        have pos1 : ∀ ax, ax < 3 → 0 < (frAt (rowPlacesM N.nodes (kn N.nodes N.spans) row) k ax).2 := fun ax hx => ((fr k hk).at_ hx).2.2
        have pos2 : ∀ ax, ax < 3 → 0 < (frAt (rowPlacesM N.nodes (kn N.nodes N.spans) row) (otherEndM s k) ax).2 := fun ax hx => by rw [hoe]; exact ((fr j hhj).at_ hx).2.2
        have h3 := ih (fun ax => leftStep (rowPlacesM N.nodes (kn N.nodes N.spans) row) k ax (ts ax) s) (fun ax hx => by
          have a := hts ax hx
          have b := ratpos (pos1 ax hx)
          have c := ratpos (pos2 ax hx)
          unfold leftStep
          dsimp only
          push_cast
          intro e
          have : ((ts ax).2 : Rat) * (1000 * ((frAt (rowPlacesM N.nodes (kn N.nodes N.spans) row) (otherEndM s k) ax).2 : Rat) * ((frAt (rowPlacesM N.nodes (kn N.nodes N.spans) row) k ax).2 : Rat)) ≠ 0 := by
            have mz : ∀ a b : Rat, a ≠ 0 → b ≠ 0 → a * b ≠ 0 := fun a b ha hb e => (Rat.mul_eq_zero.mp e).elim ha hb
            exact mz _ _ a (mz _ _ (mz _ _ (by decide) c) b)
          exact this e)
        refine Eq.trans h3 ?_
        rw [step_val (hts 0 (by decide)) (pos1 0 (by decide)) (pos2 0 (by decide)), step_val (hts 1 (by decide)) (pos1 1 (by decide)) (pos2 1 (by decide)), step_val (hts 2 (by decide)) (pos1 2 (by decide)) (pos2 2 (by decide)), hoe, ← plus_assoc]
        rfl
      by_cases h1 : s.a = k
      · have ho : (toSpan s).other k = some s.b := by rw [other_is, if_pos h1]
        have hb2 := (B.closed s (hsub s (by simp)) hd (Or.inl (by rw [h1]; exact hk))).2
        have hoe : otherEndM s k = s.b := by unfold otherEndM; rw [if_pos h1]
        rw [ho, Option.bind_some, judge_place O hl hk, judge_place O hl hb2, if_pos (show (decide (s.a = k) || decide (s.b = k)) = true by rw [decide_eq_true h1]; rfl)]
        refine Eq.trans (key _ ho hb2 hoe) ?_
        rw [judge_place O hl hk]
        rfl
      · by_cases h2 : s.b = k
        · have ho : (toSpan s).other k = some s.a := by rw [other_is, if_neg h1, if_pos h2]
          have hb2 := (B.closed s (hsub s (by simp)) hd (Or.inr (by rw [h2]; exact hk))).1
          have hoe : otherEndM s k = s.a := by unfold otherEndM; rw [if_neg h1]
          rw [ho, Option.bind_some, judge_place O hl hk, judge_place O hl hb2, if_pos (show (decide (s.a = k) || decide (s.b = k)) = true by rw [decide_eq_true h2, Bool.or_true])]
          refine Eq.trans (key _ ho hb2 hoe) ?_
          rw [judge_place O hl hk]
          rfl
        · have ho : (toSpan s).other k = none := by rw [other_is, if_neg h1, if_neg h2]
          rw [ho, if_neg (show ¬ (decide (s.a = k) || decide (s.b = k)) = true by rw [decide_eq_false h1, decide_eq_false h2]; decide)]
          exact ih ts hts
    · rw [if_neg hd, if_neg (by rw [Bool.and_eq_true]; exact fun q => hd q.1)]
      exact ih ts hts
end
end Wp

namespace Wp
open OwPull PullSpec
theorem find_congr {α : Type} {p q : α → Bool} : ∀ {l : List α}, (∀ x ∈ l, p x = q x) → l.find? p = l.find? q
  | [], _ => rfl
  | a :: l, h => by
    rw [List.find?_cons, List.find?_cons, h a (by simp), find_congr fun x hx => h x (List.mem_cons_of_mem _ hx)]
theorem fval_zero {f : Fr} (h : 0 < f.2) : fval f = 0 ↔ f.1 = 0 := by
  have r := ratpos h
  unfold fval
  constructor
  · intro q
    have : (f.1 : Rat) = 0 := by grind
    exact_mod_cast this
  · intro q
    rw [q, Rat.div_def]
    exact Rat.zero_mul _
theorem bad_is {a b c : Fr} (ha : 0 < a.2) (hb : 0 < b.2) (hc : 0 < c.2) : ((⟨fval a, fval b, fval c⟩ : Vec) != zero) = [a, b, c].any fun f => decide (f.1 ≠ 0) := by
  rw [Bool.eq_iff_iff, bne_iff_ne, List.any_eq_true]
  constructor
  · intro h
    refine Classical.byContradiction fun hn => h ?_
    have z : ∀ f ∈ [a, b, c], f.1 = 0 := fun f hf => Classical.byContradiction fun q => hn ⟨f, hf, by simpa using q⟩
    rw [(fval_zero ha).mpr (z a (by simp)), (fval_zero hb).mpr (z b (by simp)), (fval_zero hc).mpr (z c (by simp))]
    rfl
  · intro ⟨f, hf, q⟩ e
    have e1 : fval a = 0 ∧ fval b = 0 ∧ fval c = 0 := by
      unfold zero at e
      exact ⟨congrArg Vec.x e, congrArg Vec.y e, congrArg Vec.z e⟩
    have q' : f.1 ≠ 0 := by simpa using q
    simp only [List.mem_cons, List.not_mem_nil, or_false] at hf
    rcases hf with rfl | rfl | rfl
    · exact q' ((fval_zero ha).mp e1.1)
    · exact q' ((fval_zero hb).mp e1.2.1)
    · exact q' ((fval_zero hc).mp e1.2.2)
theorem ask_judge {N : MNet} (O : NOk N) {row : List Int} (hb : ∀ z ∈ row, Bits 60 z) : Agrees N (.judge row) (N, judgeM N row) := by
  refine ⟨rfl, ?_⟩
  unfold PullSpec.step
  dsimp only
  have hlo : (absNet N).loose = kn N.nodes N.spans := loose_is (net_ends O)
  rw [hlo, badRow_is, judge_is (knots := kn N.nodes N.spans) rfl]
  by_cases h1 : row.length ≠ 6 * (kn N.nodes N.spans).length
  · rw [if_pos (Or.inl h1), if_pos h1]
    rfl
  · rw [if_neg h1]
    have hl : row.length = 6 * (kn N.nodes N.spans).length := by omega
    by_cases h2 : (evens row).any (fun b => decide (b < 1)) = true
    · rw [if_pos (Or.inr h2), if_pos h2]
      rfl
    · rw [if_neg (fun q => q.elim h1 h2), if_neg h2]
      have hp : (evens row).any (fun b => decide (b < 1)) = false := by simpa using h2
      have B := bal_ok O
      have left : ∀ k ∈ kn N.nodes N.spans, (absNet N).rest ((kn N.nodes N.spans).zip (vecsOf row)) k = ⟨fval (leftOverM N (rowPlacesM N.nodes (kn N.nodes N.spans) row) k 0), fval (leftOverM N (rowPlacesM N.nodes (kn N.nodes N.spans) row) k 1), fval (leftOverM N (rowPlacesM N.nodes (kn N.nodes N.spans) row) k 2)⟩ ∧ ∀ ax, ax < 3 → 0 < (leftOverM N (rowPlacesM N.nodes (kn N.nodes N.spans) row) k ax).2 := fun k hk => by
        obtain ⟨k1, k2, k3⟩ := (mem_kn O).mp hk
        have hh : (bal N).hang k = true := by
          have := hang_at O k
          rw [this]
          exact k1
        have hj := (judge_pulls O hl hb hp hh N.spans (fun s hs => hs) (fun ax => ((N.nodes.getD k default).vec.getD ax 0, 1)) (fun ax _ => show ((1 : Int) : Rat) ≠ 0 by decide)).2
        refine ⟨?_, fun ax hx => ?_⟩
        · unfold Net.rest Net.pullsBy
          have hld : (absNet N).load k = _ := load_is (nodes := N.nodes) (spans := N.spans) k2 k3
          have hdr : (absNet N).drawing = _ := drawing_is N.nodes N.spans
          rw [hld, hdr]
          refine Eq.trans ?_ hj.symm
          congr 1
          have d1 : ∀ q : Rat, q / ((1 : Int) : Rat) = q := fun q => by
            have : ((1 : Int) : Rat) = 1 := rfl
            rw [this]
            grind
          unfold fval
          rw [d1, d1, d1]
          rfl
        · have := left_bits O (kn := k) (ax := ax) (places := rowPlacesM N.nodes (kn N.nodes N.spans) row) k2 hx (row_ok O hb hl hp k2 hh) (fun s hs => by
            obtain ⟨r1, _, r3⟩ := drawn_other O B (i := k) hh hs
            exact row_ok O hb hl hp r3 r1) _ (Nat.le_refl _)
          rw [List.take_length] at this
          exact this.2.2
      have hf : (kn N.nodes N.spans).find? (fun (i : Nat) => (absNet N).rest ((kn N.nodes N.spans).zip (vecsOf row)) i != zero) = (kn N.nodes N.spans).find? (badAt N (rowPlacesM N.nodes (kn N.nodes N.spans) row)) := find_congr fun k hk => by
        obtain ⟨l1, l2⟩ := left k hk
        rw [l1, bad_is (l2 0 (by decide)) (l2 1 (by decide)) (l2 2 (by decide))]
        rfl
      rw [hf]
      cases hfd : (kn N.nodes N.spans).find? (badAt N (rowPlacesM N.nodes (kn N.nodes N.spans) row)) with
      | none => rfl
      | some k =>
        obtain ⟨l1, l2⟩ := left k (List.mem_of_find?_eq_some hfd)
        dsimp only
        rw [l1]
        show 1 :: (k : Int) :: (fraction _ ++ (fraction _ ++ fraction _)) = 1 :: (k : Int) :: (toldM _ _ ++ (toldM _ _ ++ (toldM _ _ ++ [])))
        rw [List.append_nil, toldM_is (l2 0 (by decide)), toldM_is (l2 1 (by decide)), toldM_is (l2 2 (by decide))]
        rfl
/-! ### each call -/
theorem whole_nat {z : Int} (h : PullNeutral.whole32 z = true) : 0 ≤ z := by
  unfold PullNeutral.whole32 at h
  rw [Bool.and_eq_true, decide_eq_true_eq] at h
  exact h.1
theorem step_is {N : MNet} (O : NOk N) {c : List (List Int)} (h : PullNeutral.asked1 c = true) : PullNeutral.step (absNet N) c = (absNet (stepM N c).1, (stepM N c).2) := by
  have fin : ∀ (x : Call) (r : MNet × List Int), PullNeutral.callOf c = some x → stepM N c = r → Agrees N x r → PullNeutral.step (absNet N) c = (absNet (stepM N c).1, (stepM N c).2) := fun x r h1 h2 h3 => by
    unfold PullNeutral.step
    rw [h1, h2]
    dsimp only
    rw [h3.1, h3.2]
  unfold PullNeutral.asked1 at h
  split at h
  · exact fin .begin_ _ rfl rfl ⟨rfl, rfl⟩
  · simp only [Bool.and_eq_true] at h
    exact fin _ _ rfl rfl (ch_fix N (whole_nat h.2))
  · exact fin _ _ rfl rfl (ch_free N)
  · simp only [Bool.and_eq_true] at h
    exact fin _ _ rfl rfl (ch_span N (whole_nat h.2))
  · simp only [Bool.and_eq_true] at h
    exact fin _ _ rfl rfl (ch_tune N (whole_nat h.2))
  · exact fin _ _ rfl rfl (ch_cut N)
  · exact fin _ _ rfl rfl (ch_load N)
  · exact fin _ _ rfl rfl (ch_shift N)
  · exact fin _ _ rfl rfl (ask_place O _)
  · exact fin _ _ rfl rfl (ask_pull O _)
  · exact fin _ _ rfl rfl (ask_bears O _)
  · exact fin _ _ rfl rfl (ask_worst O)
  · exact fin _ _ rfl rfl (ask_lowest O)
  · exact fin _ _ rfl rfl (ask_all O)
  · simp only [Bool.and_eq_true] at h
    exact fin _ _ rfl rfl (ask_would O (whole_nat h.1.2))
  · exact fin _ _ rfl rfl (ask_reach O)
  · unfold PullNeutral.long at h
    rw [Bool.and_eq_true] at h
    have h2 := List.all_eq_true.mp h.2
    refine fin _ _ rfl rfl (ask_judge O fun z hz => ?_)
    have h3 := h2 z hz
    rw [Bool.and_eq_true, decide_eq_true_eq, decide_eq_true_eq] at h3
    exact Bits.of_le (m := 1000000000000000000) (by omega) (by decide)
  · exact fin _ _ rfl rfl (ask_counts O)
  · exact fin _ _ rfl rfl (ask_breaks O _)
  · cases h
/-! ### the net stays ok -/
theorem vecOk_v3 {x y z : Int} (h : vecOk x y z = true) {f : Bool} {b : Int} : V3 17 (MNode.vec ⟨f, x, y, z, b⟩) := by
  unfold vecOk partOk at h
  simp only [Bool.and_eq_true, decide_eq_true_eq] at h
  exact ⟨x, y, z, rfl, Bits.of_le (m := 99999) (by omega) (by decide), Bits.of_le (m := 99999) (by omega) (by decide), Bits.of_le (m := 99999) (by omega) (by decide)⟩
theorem ok_add {N : MNet} (O : NOk N) {n : MNode} (hv : V3 17 n.vec) (hb : 0 ≤ n.bound ∧ Bits 20 n.bound) : NOk (addNodeM N n).1 := by
  unfold addNodeM
  split
  · exact O
  · rename_i h
    refine ⟨by show (N.nodes ++ [n]).length ≤ 24; rw [List.length_append]; show N.nodes.length + 1 ≤ 24; omega, O.sl, fun m hm => ?_, fun s hs => ?_⟩
    · rcases List.mem_append.mp hm with q | q
      · exact O.node m q
      · rw [List.mem_singleton.mp q]
        exact ⟨hv, hb⟩
    · obtain ⟨a, b, c, d⟩ := O.span s hs
      have : (N.nodes ++ [n]).length = N.nodes.length + 1 := by rw [List.length_append]; rfl
      exact ⟨by show s.a < (N.nodes ++ [n]).length; omega, by show s.b < (N.nodes ++ [n]).length; omega, c, d⟩
theorem ok_set {N : MNet} (O : NOk N) {i : Nat} {n : MNode} (hv : V3 17 n.vec) (hb : 0 ≤ n.bound ∧ Bits 20 n.bound) : NOk { N with nodes := N.nodes.set i n } := by
  refine ⟨by show (N.nodes.set i n).length ≤ 24; rw [List.length_set]; exact O.nl, O.sl, fun m hm => ?_, fun s hs => ?_⟩
  · rcases List.mem_or_eq_of_mem_set hm with q | rfl
    · exact O.node m q
    · exact ⟨hv, hb⟩
  · show s.a < (N.nodes.set i n).length ∧ s.b < (N.nodes.set i n).length ∧ _
    rw [List.length_set]
    exact O.span s hs
theorem step_ok : StepOk := by
  intro N c O h
  unfold PullNeutral.asked1 at h
  split at h
  · exact ⟨by show 0 ≤ 24; decide, by show 0 ≤ 40; decide, fun n hn => (by cases hn), fun s hs => (by cases hs)⟩
  · rename_i x y z b
    show NOk (fixM N x y z b).1
    unfold fixM
    split
    · exact O
    · rename_i h2
      rw [Bool.not_eq_false, Bool.and_eq_true] at h2
      exact ok_add O (vecOk_v3 h2.1) (strOk_b h2.2)
  · rename_i x y z
    show NOk (freeM N x y z).1
    unfold freeM
    split
    · exact O
    · rename_i h2
      exact ok_add O (vecOk_v3 (by simpa using h2)) ⟨Int.le_refl 0, Bits.zero _⟩
  · rename_i a b d
    show NOk (leadM N a.toNat b.toNat d).1
    unfold leadM
    split
    · exact O
    · rename_i h2
      split
      · exact O
      · rename_i h3
        split
        · exact O
        · rename_i h4
          rw [Bool.not_eq_true, Bool.or_eq_false_iff, decide_eq_false_iff_not] at h2
          rw [Bool.not_eq_false, Bool.and_eq_true, decide_eq_true_eq, decide_eq_true_eq] at h3
          have hd := strOk_b (d := d) (by simpa using h2.2)
          refine ⟨O.nl, by show (N.spans ++ [_]).length ≤ 40; rw [List.length_append]; show N.spans.length + 1 ≤ 40; omega, O.node, fun s hs => ?_⟩
          rcases List.mem_append.mp hs with q | q
          · exact O.span s q
          · rw [List.mem_singleton.mp q]
            exact ⟨h3.1, h3.2, h2.1, hd.1, hd.2⟩
  · rename_i s d
    show NOk (tuneM N s.toNat d).1
    unfold tuneM
    split
    · exact O
    · rename_i h2
      split
      · exact O
      · rename_i h3
        exact netok_with O (by simpa using h3) (by simpa using h2)
  · rename_i s
    show NOk (cutM N s.toNat).1
    unfold cutM
    split
    · exact O
    · rename_i h3
      exact netok_without O (by simpa using h3)
  · rename_i i x y z
    show NOk (loadM N i.toNat x y z).1
    unfold loadM
    split
    · exact O
    · rename_i h2
      split
      · exact O
      · split
        · exact O
        · exact ok_set O (vecOk_v3 (by simpa using h2)) ⟨Int.le_refl 0, Bits.zero _⟩
  · rename_i i x y z
    show NOk (shiftM N i.toNat x y z).1
    unfold shiftM
    split
    · exact O
    · rename_i h2
      split
      · exact O
      · rename_i h3
        split
        · exact O
        · exact ok_set O (vecOk_v3 (by simpa using h2)) (O.node _ (getD_mem (d := default) (by omega))).2
  all_goals first
    | exact O
    | cases h
/-! ### the whole line -/
theorem played_is : ∀ (cs : List (List (List Int))) (N : MNet), NOk N → (∀ c ∈ cs, PullNeutral.asked1 c = true) → PyFlat.played PullNeutral.step (absNet N) cs = PyFlat.played stepM N cs
  | [], _, _, _ => rfl
  | c :: cs, N, O, h => by
    have hc := h c (by simp)
    show (PullNeutral.step (absNet N) c).2 :: PyFlat.played PullNeutral.step (PullNeutral.step (absNet N) c).1 cs = (stepM N c).2 :: PyFlat.played stepM (stepM N c).1 cs
    rw [step_is O hc]
    dsimp only
    rw [played_is cs _ (step_ok N c O hc) fun d hd => h d (List.mem_cons_of_mem _ hd)]
theorem spec_is {l : List Int} {cs : List (List (List Int))} (h : PyFlat.calls PyWrowpu.shape l.length l = some cs) (ha : ∀ c ∈ cs, PullNeutral.asked1 c = true) : PyFlat.told (PyFlat.played stepM N0 cs) = PyWrowpu.answers l := by
  have h0 : NOk N0 := ⟨by show 0 ≤ 24; decide, by show 0 ≤ 40; decide, fun n hn => (by cases hn), fun s hs => (by cases hs)⟩
  have hw : cs.map PyWrowpu.whole = cs := by
    rw [show PyWrowpu.whole = id from funext whole_is, List.map_id]
  unfold PyWrowpu.answers PyWrowpu.calls
  rw [h]
  dsimp only
  rw [hw]
  have e : PullNeutral.start = absNet N0 := rfl
  rw [e, played_is cs N0 h0 ha]
end Wp

namespace Wp
open PySem PySem.Spec PyProof.Rows L2
theorem ans_case {K : PySem.W.Frag} {H : Hp} {ca : Addr} {l : List Int} (hs : SqL K H ca (l.map V.int)) (ha : PyWrowpu.answers_asked l = true) (Q : VK) (E : XK) (k : ∀ p H', H' p = some (.lst ((PyWrowpu.answers l).map V.int)) → Q (.ref p) H') : spAns K [.ref ca] H Q E := by
  unfold PyWrowpu.answers_asked at ha
  cases hc : PyFlat.calls PyWrowpu.shape l.length l with
  | none => rw [hc] at ha; cases ha
  | some cs =>
    rw [hc] at ha
    simp only [Bool.and_eq_true] at ha
    obtain ⟨⟨⟨⟨_, _⟩, _⟩, h1⟩, h2⟩ := ha
    have hw : cs.map PyWrowpu.whole = cs := by
      rw [show PyWrowpu.whole = id from funext whole_is, List.map_id]
    rw [hw] at h1
    unfold PullNeutral.asked at h1
    simp only [Bool.and_eq_true] at h1
    have hask := List.all_eq_true.mp h1.2
    have e := spec_is hc hask
    refine ⟨ca, l, l.length, cs, rfl, hs, hc, hask, all_ready, step_ok, ?_, ?_⟩
    · rw [e]
      exact of_decide_eq_true h2
    · rw [e]
      exact k
theorem f_case {P : Program} {K : PySem.W.Frag} {w : World} {mg : Str → Option Value} {fa : Addr} {h : Heap} (KX : K.In h) (G : h.Ns mainGlobals mg) (hmg : mg "answers" = some (.ref fa)) (s : He.SaysD faW fnW K) (d : He.tupB K "DEEDS" (deedNames.map He.Dv.glo) = true) (z : He.tupB K "SIZES" (sizesL.map He.Dv.int) = true) (nd : decide (deedNames.map (He.ga K)).Nodup = true) :
    ∃ fd : FuncData, (∀ (s : Shared) (us : List Value), us.length = (["calls"] : List Str).length → BindsTo s fd ⟨us, []⟩ ((["calls"] : List Str).zip us)) ∧ ∀ base : Heap, K.In base → base.Ns mainGlobals mg → FnOk P w K mg base CX0 7 fa fd ["calls"] (spAns K) := by
  have T : Tx K mg := ⟨s, h, KX, G⟩
  have B : Tab K := ⟨d, z, of_decide_eq_true nd⟩
  have e := (T_answers T).symm.trans hmg
  have e2 : He.ga K "answers" = fa := by injection (Option.some.inj e)
  obtain ⟨fd, h1, h2⟩ := ok_answers (P := P) (w := w) T B
  rw [e2] at h2
  exact ⟨fd, h1, fun base _ _ => h2 base⟩
end Wp
open PySem PySem.W PyProof.Rows
theorem PySem.Challenge.cw_wirepulls_s01_answers_holds : PySem.Challenge.rw_wirepulls_s01_answers.Holds := by
  w_on; k_headS; (case hw => exact ⟨[.list [.int 0]], by decide +kernel, by decide +kernel⟩)
  k_fillS
  refine L2.walk_specK (r := PySem.Challenge.rw_wirepulls_s01_answers) (k := 7) (CX := L2.CX0) (ps := ["calls"]) (sp := Wp.spAns) (by decide +kernel) rfl rfl ⟨rfl, by decide, by decide⟩ (fun w h Y => PySem.W.kIn_of Y) ?F ?S (fun _ _ _ _ z => z)
  case F =>
    intro w mg fa h Y KX G hmg
    refine Wp.f_case KX G hmg ?s ?d ?z ?nd
    case s => unfold He.SaysD; kernel_rfl
    case d => kernel_rfl
    case z => kernel_rfl
    case nd => kernel_rfl
  case S =>
    intro K H xs a hO hwi hask hx
    cases hx with
    | cons h1 h2 =>
      cases h2
      cases h1 with
      | lst hs ha =>
        have e := L2.ints_dw a.1 _ ha
        subst e
        exact Wp.ans_case hs hask _ _ fun p H' hp => .lst (L2.SqL.of hp) (L2.dw_ints _)

