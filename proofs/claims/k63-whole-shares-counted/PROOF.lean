import PyProof.Rows.All
import Wide.All
import OpenK.AllK
import Wide.FinOn
import HandS.ForMost
import HandS.Style
import HandS.Wide
import HandS.TupAny
import HandS.TupMul
import HandS.RaiseMore
import KE.KDictDisplayH
import PySem.Challenge.RW_fewestpours_k63_whole_shares_counted
set_option Elab.async false
set_option maxRecDepth 100000
set_option maxHeartbeats 8000000
namespace Cnt
def binom : Nat → Nat → Nat
  | _, 0 => 1
  | 0, _ + 1 => 0
  | n + 1, k + 1 => binom n k + binom n (k + 1)
theorem binom_zero (n : Nat) : binom n 0 = 1 := by cases n <;> rfl
theorem binom_over : ∀ (n k : Nat), n < k → binom n k = 0
  | 0, 0, h => absurd h (by omega)
  | 0, _ + 1, _ => rfl
  | n + 1, 0, h => absurd h (by omega)
  | n + 1, k + 1, h => by
    show binom n k + binom n (k + 1) = 0
    rw [binom_over n k (by omega), binom_over n (k + 1) (by omega)]
theorem binom_self : ∀ n : Nat, binom n n = 1
  | 0 => rfl
  | n + 1 => by
    show binom n n + binom n (n + 1) = 1
    rw [binom_self n, binom_over n (n + 1) (by omega)]
theorem binom_succ (n k : Nat) : binom (n + 1) (k + 1) = binom n k + binom n (k + 1) := rfl
theorem binom_step : ∀ (n k : Nat), k ≤ n → binom n k * (n - k) = binom n (k + 1) * (k + 1)
  | 0, 0, _ => rfl
  | 0, _ + 1, h => absurd h (by omega)
  | n + 1, 0, _ => by
    have ih := binom_step n 0 (Nat.zero_le _)
    rw [binom_zero] at ih
    rw [binom_zero, binom_succ, binom_zero]
    omega
  | n + 1, k + 1, h => by
    have ih1 := binom_step n k (by omega)
    rw [binom_succ, binom_succ]
    by_cases e : k = n
    · subst e
      rw [binom_over k (k + 1) (by omega), binom_over k (k + 1 + 1) (by omega)]
      simp
    · have ih2 := binom_step n (k + 1) (by omega)
      have e1 : n + 1 - (k + 1) = n - k := by omega
      have e2 : n - k = (n - (k + 1)) + 1 := by omega
      rw [e1, Nat.add_mul, ih1]
      have e3 : binom n (k + 1) * (n - k) = binom n (k + 1) * (n - (k + 1)) + binom n (k + 1) := by
        rw [e2, Nat.mul_add, Nat.mul_one]
      rw [e3, ih2]
      rw [Nat.add_mul, Nat.mul_add (binom n (k + 1)) (k + 1) 1, Nat.mul_one]
      omega
theorem binom_le_two_pow : ∀ (n k : Nat), binom n k ≤ 2 ^ n
  | n, 0 => by rw [binom_zero]; exact Nat.one_le_two_pow
  | 0, _ + 1 => Nat.zero_le _
  | n + 1, k + 1 => by
    rw [binom_succ, Nat.pow_succ]
    have h1 := binom_le_two_pow n k
    have h2 := binom_le_two_pow n (k + 1)
    omega
theorem binom_div (n k : Nat) (h : k ≤ n) : binom n k * (n - k) / (k + 1) = binom n (k + 1) := by
  rw [binom_step n k h]
  exact Nat.mul_div_cancel _ (Nat.succ_pos k)
def S (g : Nat → Nat) : Nat → Nat
  | 0 => 0
  | n + 1 => S g n + g n
theorem S_congr {g h : Nat → Nat} : ∀ {n : Nat}, (∀ i, i < n → g i = h i) → S g n = S h n
  | 0, _ => rfl
  | n + 1, e => by
    show S g n + g n = S h n + h n
    rw [S_congr fun i hi => e i (by omega), e n (by omega)]
theorem S_add (g h : Nat → Nat) : ∀ n : Nat, S (fun i => g i + h i) n = S g n + S h n
  | 0 => rfl
  | n + 1 => by
    show S (fun i => g i + h i) n + (g n + h n) = S g n + g n + (S h n + h n)
    rw [S_add g h n]
    omega
theorem S_zero {g : Nat → Nat} : ∀ {n : Nat}, (∀ i, i < n → g i = 0) → S g n = 0
  | 0, _ => rfl
  | n + 1, e => by
    show S g n + g n = 0
    rw [S_zero fun i hi => e i (by omega), e n (by omega)]
theorem S_head (g : Nat → Nat) : ∀ n : Nat, S g (n + 1) = g 0 + S (fun i => g (i + 1)) n
  | 0 => by show 0 + g 0 = g 0 + 0; omega
  | n + 1 => by
    show S g (n + 1) + g (n + 1) = g 0 + (S (fun i => g (i + 1)) n + g (n + 1))
    rw [S_head g n]
    omega
theorem S_range (g : Nat → Nat) : ∀ n : Nat, ((List.range n).map g).sum = S g n
  | 0 => rfl
  | n + 1 => by
    rw [List.range_succ, List.map_append, List.sum_append, S_range g n]
    show S g n + (g n + 0) = S g n + g n
    rw [Nat.add_zero]
theorem S_cut {g : Nat → Nat} {m : Nat} : ∀ {n : Nat}, m ≤ n → (∀ i, m ≤ i → i < n → g i = 0) → S g n = S g m
  | 0, h, _ => by rw [Nat.le_zero.mp h]
  | n + 1, h, e => by
    by_cases q : m = n + 1
    · rw [q]
    · show S g n + g n = S g m
      rw [S_cut (n := n) (by omega) fun i a b => e i a (by omega), e n (by omega) (by omega)]
      rfl
theorem S_swap {α : Type} (f : α → Nat → Nat) (c : Nat → Nat) (l : List α) (n : Nat) :
    S (fun z => c z * (l.map fun d => f d z).sum) n = (l.map fun d => S (fun z => c z * f d z) n).sum := by
  induction l with
  | nil =>
    show S (fun z => c z * 0) n = 0
    exact S_zero fun i _ => Nat.mul_zero _
  | cons a r ih =>
    rw [List.map_cons, List.sum_cons, ← ih, ← S_add]
    refine S_congr fun i _ => ?_
    show c i * ((a :: r).map fun d => f d i).sum = _
    rw [List.map_cons, List.sum_cons, Nat.mul_add]
def F : List Nat → Nat → Nat
  | [], t => if t = 0 then 1 else 0
  | x :: c, t => S (fun z => binom t z * F c (t - z)) (x + 1)
def decs : List Nat → List (List Nat)
  | [] => []
  | x :: c => (if x = 0 then [] else [(x - 1) :: c]) ++ (decs c).map (x :: ·)
theorem F_zero : ∀ c : List Nat, F c 0 = 1
  | [] => rfl
  | x :: c => by
    show S (fun z => binom 0 z * F c (0 - z)) (x + 1) = 1
    rw [S_head]
    rw [S_zero (g := fun i => binom 0 (i + 1) * F c (0 - (i + 1))) fun i _ => by show 0 * _ = 0; exact Nat.zero_mul _]
    show 1 * F c 0 + 0 = 1
    rw [F_zero c]
theorem F_step : ∀ (c : List Nat) (t : Nat), F c (t + 1) = ((decs c).map fun d => F d t).sum
  | [], t => rfl
  | x :: c, t => by
    have ih := F_step c
    show S (fun z => binom (t + 1) z * F c (t + 1 - z)) (x + 1) = _
    have e1 : S (fun z => binom (t + 1) z * F c (t + 1 - z)) (x + 1) = S (fun z => binom t z * F c (t + 1 - z)) (x + 1) + S (fun z => binom t z * F c (t - z)) x := by
      rw [S_head (fun z => binom (t + 1) z * F c (t + 1 - z)), S_head (fun z => binom t z * F c (t + 1 - z))]
      have e2 : S (fun i => binom (t + 1) (i + 1) * F c (t + 1 - (i + 1))) x = S (fun i => binom t (i + 1) * F c (t + 1 - (i + 1))) x + S (fun z => binom t z * F c (t - z)) x := by
        rw [← S_add]
        refine S_congr fun i _ => ?_
        show binom (t + 1) (i + 1) * F c (t + 1 - (i + 1)) = binom t (i + 1) * F c (t + 1 - (i + 1)) + binom t i * F c (t - i)
        rw [binom_succ, Nat.add_mul, Nat.add_sub_add_right]
        omega
      rw [e2, binom_zero, binom_zero]
      omega
    rw [e1]
    have e3 : S (fun z => binom t z * F c (t + 1 - z)) (x + 1) = (((decs c).map (x :: ·)).map fun d => F d t).sum := by
      rw [List.map_map]
      show _ = ((decs c).map fun d => S (fun z => binom t z * F d (t - z)) (x + 1)).sum
      rw [← S_swap (fun d z => F d (t - z)) (fun z => binom t z) (decs c) (x + 1)]
      refine S_congr fun z _ => ?_
      by_cases hz : z ≤ t
      · have e : t + 1 - z = (t - z) + 1 := by omega
        show binom t z * F c (t + 1 - z) = binom t z * ((decs c).map fun d => F d (t - z)).sum
        rw [e, ih]
      · show binom t z * _ = binom t z * _
        rw [binom_over t z (by omega), Nat.zero_mul, Nat.zero_mul]
    rw [e3]
    show _ = (((if x = 0 then [] else [(x - 1) :: c]) ++ (decs c).map (x :: ·)).map fun d => F d t).sum
    rw [List.map_append, List.sum_append]
    have e4 : S (fun z => binom t z * F c (t - z)) x = ((if x = 0 then [] else [(x - 1) :: c]).map fun d => F d t).sum := by
      cases x with
      | zero => rfl
      | succ y =>
        rw [if_neg (Nat.succ_ne_zero y)]
        show _ = F (y :: c) t + 0
        rw [Nat.add_zero]
        rfl
    rw [e4]
    omega
theorem decs_perm {a b : List Nat} (h : a.Perm b) : ∀ (g : List Nat → Nat), (∀ x y : List Nat, x.Perm y → g x = g y) → ((decs a).map g).sum = ((decs b).map g).sum := by
  induction h with
  | nil => intro g _; rfl
  | @cons x a b h ih =>
    intro g hg
    have q := ih (fun d => g (x :: d)) fun u v p => hg _ _ (p.cons x)
    show (((if x = 0 then [] else [(x - 1) :: a]) ++ (decs a).map (x :: ·)).map g).sum = (((if x = 0 then [] else [(x - 1) :: b]) ++ (decs b).map (x :: ·)).map g).sum
    rw [List.map_append, List.map_append, List.sum_append, List.sum_append, List.map_map, List.map_map]
    have e : ((decs a).map (g ∘ (x :: ·))).sum = ((decs b).map (g ∘ (x :: ·))).sum := q
    rw [e]
    by_cases hx : x = 0
    · rw [if_pos hx, if_pos hx]
    · rw [if_neg hx, if_neg hx]
      show g ((x - 1) :: a) + 0 + _ = g ((x - 1) :: b) + 0 + _
      rw [hg _ _ (h.cons (x - 1))]
  | swap x y l =>
    intro g hg
    have a1 : ((decs (y :: x :: l)).map g).sum = ((if y = 0 then [] else [(y - 1) :: x :: l]).map g).sum + (((if x = 0 then [] else [y :: (x - 1) :: l]).map g).sum + ((decs l).map fun d => g (y :: x :: d)).sum) := by
      show (((if y = 0 then [] else [(y - 1) :: x :: l]) ++ ((if x = 0 then [] else [(x - 1) :: l]) ++ (decs l).map (x :: ·)).map (y :: ·)).map g).sum = _
      rw [List.map_append, List.sum_append, List.map_append, List.map_append, List.sum_append, List.map_map, List.map_map]
      have e1 : ((if x = 0 then [] else [(x - 1) :: l]).map (g ∘ (y :: ·))) = ((if x = 0 then [] else [y :: (x - 1) :: l]).map g) := by
        by_cases hx : x = 0
        · rw [if_pos hx, if_pos hx]; rfl
        · rw [if_neg hx, if_neg hx]; rfl
      rw [e1, List.map_map]
      rfl
    have a2 : ((decs (x :: y :: l)).map g).sum = ((if x = 0 then [] else [(x - 1) :: y :: l]).map g).sum + (((if y = 0 then [] else [x :: (y - 1) :: l]).map g).sum + ((decs l).map fun d => g (x :: y :: d)).sum) := by
      show (((if x = 0 then [] else [(x - 1) :: y :: l]) ++ ((if y = 0 then [] else [(y - 1) :: l]) ++ (decs l).map (y :: ·)).map (x :: ·)).map g).sum = _
      rw [List.map_append, List.sum_append, List.map_append, List.map_append, List.sum_append, List.map_map, List.map_map]
      have e1 : ((if y = 0 then [] else [(y - 1) :: l]).map (g ∘ (x :: ·))) = ((if y = 0 then [] else [x :: (y - 1) :: l]).map g) := by
        by_cases hy : y = 0
        · rw [if_pos hy, if_pos hy]; rfl
        · rw [if_neg hy, if_neg hy]; rfl
      rw [e1, List.map_map]
      rfl
    rw [a1, a2]
    have b1 : ((decs l).map fun d => g (y :: x :: d)).sum = ((decs l).map fun d => g (x :: y :: d)).sum :=
      congrArg (fun f => ((decs l).map f).sum) (funext fun d => hg _ _ (List.Perm.swap x y d))
    have b2 : ((if y = 0 then [] else [(y - 1) :: x :: l]).map g).sum = ((if y = 0 then [] else [x :: (y - 1) :: l]).map g).sum := by
      by_cases hy : y = 0
      · rw [if_pos hy, if_pos hy]
      · rw [if_neg hy, if_neg hy]
        show g _ + 0 = g _ + 0
        rw [hg _ _ (List.Perm.swap x (y - 1) l)]
    have b3 : ((if x = 0 then [] else [y :: (x - 1) :: l]).map g).sum = ((if x = 0 then [] else [(x - 1) :: y :: l]).map g).sum := by
      by_cases hx : x = 0
      · rw [if_pos hx, if_pos hx]
      · rw [if_neg hx, if_neg hx]
        show g _ + 0 = g _ + 0
        rw [hg _ _ (List.Perm.swap (x - 1) y l)]
    rw [b1, b2, b3]
    omega
  | trans _ _ ih1 ih2 => intro g hg; exact (ih1 g hg).trans (ih2 g hg)
theorem F_perm : ∀ (t : Nat) {a b : List Nat}, a.Perm b → F a t = F b t
  | 0, a, b, _ => by rw [F_zero, F_zero]
  | t + 1, a, b, h => by
    rw [F_step, F_step]
    exact decs_perm h (fun d => F d t) fun x y p => F_perm t p
def fS (b : Nat) : Nat → Nat → Nat
  | 0, k => if k = 0 then 1 else 0
  | n + 1, k => ((List.range (min b k + 1)).map fun z => binom k z * fS b n (k - z)).sum
theorem fS_succ (b n k : Nat) : fS b (n + 1) k = S (fun z => binom k z * fS b n (k - z)) (min b k + 1) := S_range _ _
theorem fS_F (b : Nat) : ∀ n k : Nat, fS b n k = F (List.replicate n b) k
  | 0, k => rfl
  | n + 1, k => by
    rw [fS_succ]
    show _ = S (fun z => binom k z * F (List.replicate n b) (k - z)) (b + 1)
    rw [S_cut (n := b + 1) (m := min b k + 1) (by omega) fun i h1 h2 => by
      show binom k i * _ = 0
      rw [binom_over k i (by omega), Nat.zero_mul]]
    exact S_congr fun i _ => by
      show binom k i * fS b n (k - i) = binom k i * F (List.replicate n b) (k - i)
      rw [fS_F b n]
theorem decs_len (c : List Nat) : (decs c).length ≤ c.length := by
  induction c with
  | nil => exact Nat.le_refl _
  | cons x c ih =>
    show (((if x = 0 then [] else [(x - 1) :: c]) ++ (decs c).map (x :: ·))).length ≤ c.length + 1
    rw [List.length_append, List.length_map]
    split
    · show 0 + _ ≤ _
      omega
    · show 1 + _ ≤ _
      omega
theorem decs_each {c d : List Nat} (h : d ∈ decs c) : d.length = c.length ∧ d.sum + 1 = c.sum := by
  induction c generalizing d with
  | nil => exact absurd h (List.not_mem_nil)
  | cons x c ih =>
    rcases List.mem_append.mp (show d ∈ (if x = 0 then [] else [(x - 1) :: c]) ++ (decs c).map (x :: ·) from h) with q | q
    · by_cases hx : x = 0
      · rw [if_pos hx] at q
        exact absurd q (List.not_mem_nil)
      · rw [if_neg hx] at q
        rw [List.mem_singleton.mp q, List.length_cons, List.length_cons, List.sum_cons, List.sum_cons]
        exact ⟨rfl, by omega⟩
    · obtain ⟨e, he, rfl⟩ := List.mem_map.mp q
      obtain ⟨a1, a2⟩ := ih he
      rw [List.length_cons, List.length_cons, List.sum_cons, List.sum_cons, a1]
      exact ⟨rfl, by omega⟩
theorem sum_le_mul {α : Type} (f : α → Nat) (m : Nat) : ∀ l : List α, (∀ a ∈ l, f a ≤ m) → (l.map f).sum ≤ l.length * m
  | [], _ => Nat.zero_le _
  | a :: l, h => by
    rw [List.map_cons, List.sum_cons, List.length_cons, Nat.add_mul, Nat.one_mul]
    have h1 := h a List.mem_cons_self
    have h2 := sum_le_mul f m l fun b hb => h b (List.mem_cons_of_mem _ hb)
    omega
theorem sum_le_sum {α : Type} (f g : α → Nat) : ∀ l : List α, (∀ a ∈ l, f a ≤ g a) → (l.map f).sum ≤ (l.map g).sum
  | [], _ => Nat.le_refl _
  | a :: l, h => by
    rw [List.map_cons, List.sum_cons, List.map_cons, List.sum_cons]
    have h1 := h a List.mem_cons_self
    have h2 := sum_le_sum f g l fun b hb => h b (List.mem_cons_of_mem _ hb)
    omega
theorem F_le : ∀ (t : Nat) (c : List Nat), F c t ≤ c.length ^ t
  | 0, c => by rw [F_zero]; exact Nat.le_refl _
  | t + 1, c => by
    rw [F_step, Nat.pow_succ, Nat.mul_comm]
    refine Nat.le_trans (sum_le_mul _ (c.length ^ t) _ fun d hd => ?_) (Nat.mul_le_mul_right _ (decs_len c))
    rw [← (decs_each hd).1]
    exact F_le t d
theorem fS_le (b n k : Nat) : fS b n k ≤ n ^ k := by
  rw [fS_F]
  have h := F_le k (List.replicate n b)
  rw [List.length_replicate] at h
  exact h
theorem decs_ne {c : List Nat} (h : 1 ≤ c.sum) : 1 ≤ (decs c).length := by
  induction c with
  | nil => exact absurd h (by decide)
  | cons x c ih =>
    show 1 ≤ (((if x = 0 then [] else [(x - 1) :: c]) ++ (decs c).map (x :: ·))).length
    rw [List.length_append, List.length_map]
    by_cases hx : x = 0
    · rw [if_pos hx]
      rw [List.sum_cons, hx, Nat.zero_add] at h
      have := ih h
      omega
    · rw [if_neg hx]
      show 1 ≤ 1 + _
      omega
theorem sum_ones {α : Type} : ∀ l : List α, (l.map fun _ => 1).sum = l.length
  | [] => rfl
  | a :: l => by
    rw [List.map_cons, List.sum_cons, List.length_cons, sum_ones l]
    omega
theorem F_rise : ∀ (t : Nat) (c : List Nat), t + 1 ≤ c.sum → F c t ≤ F c (t + 1)
  | 0, c, h => by
    rw [F_step, F_zero]
    have e : ((decs c).map fun d => F d 0) = (decs c).map fun _ => 1 := congrArg (fun f => (decs c).map f) (funext fun d => F_zero d)
    rw [e, sum_ones]
    exact decs_ne h
  | t + 1, c, h => by
    rw [F_step, F_step c (t + 1)]
    refine sum_le_sum _ _ _ fun d hd => F_rise t d ?_
    have := (decs_each hd).2
    omega
theorem sum_rep (n b : Nat) : (List.replicate n b).sum = n * b := by
  induction n with
  | zero => exact (Nat.zero_mul b).symm
  | succ n ih =>
    rw [List.replicate_succ, List.sum_cons, ih, Nat.add_mul, Nat.one_mul]
    omega
theorem fS_rise (b n k : Nat) (h : k + 1 ≤ b * n) : fS b n k ≤ fS b n (k + 1) := by
  rw [fS_F, fS_F]
  refine F_rise k _ ?_
  rw [sum_rep, Nat.mul_comm]
  exact h
theorem fS_mono (b n : Nat) : ∀ (d k : Nat), k + d ≤ b * n → fS b n k ≤ fS b n (k + d)
  | 0, _, _ => Nat.le_refl _
  | d + 1, k, h => Nat.le_trans (fS_mono b n d k (by omega)) (fS_rise b n (k + d) (by omega))
theorem fS_one (b k : Nat) : fS b 1 k = if k ≤ b then 1 else 0 := by
  rw [fS_succ]
  by_cases h : k ≤ b
  · rw [if_pos h, Nat.min_eq_right h]
    show S (fun z => binom k z * if k - z = 0 then 1 else 0) k + (binom k k * if k - k = 0 then 1 else 0) = 1
    rw [S_zero fun i hi => by
      show binom k i * (if k - i = 0 then 1 else 0) = 0
      rw [if_neg (by omega), Nat.mul_zero]]
    rw [binom_self, if_pos (by omega)]
  · rw [if_neg h]
    refine S_zero fun i hi => ?_
    show binom k i * (if k - i = 0 then 1 else 0) = 0
    rw [if_neg (by omega), Nat.mul_zero]
def duo (b r i : Nat) : Nat := S (fun z => if r - b ≤ z then binom r z else 0) i
theorem fS_two (b r : Nat) : fS b 2 r = duo b r (min b r + 1) := by
  rw [fS_succ]
  refine S_congr fun i hi => ?_
  show binom r i * fS b 1 (r - i) = if r - b ≤ i then binom r i else 0
  rw [fS_one]
  by_cases h : r - b ≤ i
  · rw [if_pos h, if_pos (by omega), Nat.mul_one]
  · rw [if_neg h, if_neg (by omega), Nat.mul_zero]
def ff (n : Nat) : Nat → Nat
  | 0 => 1
  | r + 1 => ff n r * (n - r)
theorem ff_over (n : Nat) : ∀ r : Nat, n < r → ff n r = 0
  | 0, h => absurd h (by omega)
  | r + 1, h => by
    show ff n r * (n - r) = 0
    rw [show n - r = 0 by omega, Nat.mul_zero]
theorem ff_head (n : Nat) : ∀ r : Nat, ff (n + 1) (r + 1) = (n + 1) * ff n r
  | 0 => by show 1 * (n + 1 - 0) = (n + 1) * 1; omega
  | r + 1 => by
    show ff (n + 1) (r + 1) * (n + 1 - (r + 1)) = (n + 1) * (ff n r * (n - r))
    rw [ff_head n r, Nat.mul_assoc, Nat.add_sub_add_right]
theorem ff_add (n r : Nat) : ff (n + 1) (r + 1) = ff n (r + 1) + (r + 1) * ff n r := by
  rw [ff_head]
  show _ = ff n r * (n - r) + (r + 1) * ff n r
  by_cases h : r ≤ n
  · rw [Nat.mul_comm (ff n r), ← Nat.add_mul]
    congr 1
    omega
  · rw [ff_over n r (by omega)]
    simp
theorem fS_ff : ∀ n k : Nat, fS 1 n k = ff n k
  | 0, 0 => rfl
  | 0, k + 1 => by
    show 0 = ff 0 k * (0 - k)
    rw [Nat.zero_sub, Nat.mul_zero]
  | n + 1, 0 => by
    rw [fS_succ]
    show 0 + 1 * fS 1 n 0 = 1
    rw [fS_ff n 0]
    rfl
  | n + 1, k + 1 => by
    rw [fS_succ, ff_add]
    have e : min 1 (k + 1) + 1 = 2 := by omega
    rw [e]
    show 0 + binom (k + 1) 0 * fS 1 n (k + 1 - 0) + binom (k + 1) 1 * fS 1 n (k + 1 - 1) = _
    have e1 : binom (k + 1) 1 = k + 1 := by
      have h : binom (k + 1) 0 * (k + 1 - 0) = binom (k + 1) 1 * 1 := binom_step (k + 1) 0 (Nat.zero_le _)
      rw [binom_zero] at h
      omega
    rw [binom_zero, e1, Nat.sub_zero, Nat.add_sub_cancel, fS_ff n (k + 1), fS_ff n k]
    omega
def cnt (p : List Nat) (j : Nat) : Nat := (p.filter fun x => decide (x = j)).length
theorem cnt_snoc (p : List Nat) (i j : Nat) : cnt (p ++ [i]) j = cnt p j + if i = j then 1 else 0 := by
  unfold cnt
  rw [List.filter_append, List.length_append]
  congr 1
  by_cases h : i = j
  · rw [if_pos h, List.filter_cons_of_pos (by simpa using h)]
    rfl
  · rw [if_neg h, List.filter_cons_of_neg (by simpa using h)]
    rfl
def exts (b many : Nat) (p : List Nat) : List (List Nat) := ((List.range many).filter fun j => decide (cnt p j < b)).map fun j => p ++ [j]
def plcs (b many : Nat) : Nat → List (List Nat)
  | 0 => [[]]
  | r + 1 => (plcs b many r).flatMap (exts b many)
theorem decs_map {h : Nat → Nat} : ∀ l : List Nat, l.Nodup → decs (l.map h) = (l.filter fun j => decide (0 < h j)).map fun j => l.map fun i => if i = j then h i - 1 else h i
  | [], _ => rfl
  | a :: l, hn => by
    obtain ⟨h1, h2⟩ := List.nodup_cons.mp hn
    have ih := decs_map (h := h) l h2
    show (if h a = 0 then [] else [(h a - 1) :: l.map h]) ++ (decs (l.map h)).map (h a :: ·) = _
    rw [ih, List.map_map]
    have e1 : ∀ j ∈ l, j ≠ a := fun j hj e => h1 (e ▸ hj)
    have tailE : ((l.filter fun j => decide (0 < h j)).map fun j => (a :: l).map fun i => if i = j then h i - 1 else h i) = (l.filter fun j => decide (0 < h j)).map ((h a :: ·) ∘ fun j => l.map fun i => if i = j then h i - 1 else h i) := by
      refine List.map_congr_left fun j hj => ?_
      have hj' := (List.mem_filter.mp hj).1
      show (if a = j then h a - 1 else h a) :: _ = h a :: _
      rw [if_neg fun e => e1 j hj' e.symm]
    have headE : ((a :: l).map fun i => if i = a then h i - 1 else h i) = (h a - 1) :: l.map h := by
      rw [List.map_cons, if_pos rfl]
      congr 1
      refine List.map_congr_left fun j hj => ?_
      rw [if_neg (e1 j hj)]
    by_cases q : h a = 0
    · rw [if_pos q, List.filter_cons_of_neg (by simpa using q), tailE]
      rfl
    · rw [if_neg q, List.filter_cons_of_pos (by simp; omega), List.map_cons, headE, tailE]
      rfl
def capsP (b many : Nat) (p : List Nat) : List Nat := (List.range many).map fun j => b - cnt p j
theorem caps_exts (b many : Nat) (p : List Nat) (g : List Nat → Nat) : ((exts b many p).map fun q => g (capsP b many q)).sum = ((decs (capsP b many p)).map g).sum := by
  unfold exts capsP
  rw [decs_map _ List.nodup_range, List.map_map, List.map_map]
  have e : (List.range many).filter (fun j => decide (0 < b - cnt p j)) = (List.range many).filter (fun j => decide (cnt p j < b)) := by
    refine List.filter_congr fun j _ => ?_
    by_cases h : cnt p j < b
    · rw [decide_eq_true h, decide_eq_true (show 0 < b - cnt p j by omega)]
    · rw [decide_eq_false h, decide_eq_false (show ¬ 0 < b - cnt p j by omega)]
  rw [e]
  congr 1
  refine List.map_congr_left fun j _ => ?_
  show g ((List.range many).map fun i => b - cnt (p ++ [j]) i) = g ((List.range many).map fun i => if i = j then b - cnt p i - 1 else b - cnt p i)
  congr 1
  refine List.map_congr_left fun i _ => ?_
  rw [cnt_snoc]
  by_cases h : i = j
  · rw [if_pos h, if_pos h.symm]
    omega
  · rw [if_neg h, if_neg fun e => h e.symm]
    omega
theorem sum_flat {α : Type} (f : α → Nat) (e : α → List α) : ∀ l : List α, ((l.flatMap e).map f).sum = (l.map fun a => ((e a).map f).sum).sum
  | [] => rfl
  | a :: l => by
    rw [List.flatMap_cons, List.map_append, List.sum_append, sum_flat f e l, List.map_cons, List.sum_cons]
theorem plcs_weight (b many : Nat) : ∀ r t : Nat, ((plcs b many r).map fun p => F (capsP b many p) t).sum = F (List.replicate many b) (r + t)
  | 0, t => by
    show F (capsP b many []) t + 0 = _
    rw [Nat.add_zero, Nat.zero_add]
    congr 1
    unfold capsP
    have e : ((List.range many).map fun j => b - cnt [] j) = (List.range many).map fun _ => b := List.map_congr_left fun j _ => by show b - 0 = b; omega
    rw [e, List.map_const', List.length_range]
  | r + 1, t => by
    show (((plcs b many r).flatMap (exts b many)).map fun p => F (capsP b many p) t).sum = _
    rw [sum_flat (fun p => F (capsP b many p) t)]
    have ih := plcs_weight b many r (t + 1)
    have e : ((plcs b many r).map fun p => ((exts b many p).map fun q => F (capsP b many q) t).sum) = (plcs b many r).map fun p => F (capsP b many p) (t + 1) :=
      List.map_congr_left fun p _ => by rw [caps_exts b many p fun c => F c t, F_step]
    rw [e, ih]
    congr 1
    omega
theorem plcs_len (b many r : Nat) : (plcs b many r).length = fS b many r := by
  rw [fS_F]
  have h := plcs_weight b many r 0
  have e : ((plcs b many r).map fun p => F (capsP b many p) 0) = (plcs b many r).map fun _ => 1 := List.map_congr_left fun p _ => F_zero _
  rw [e, sum_ones] at h
  exact h
theorem exts_len (b many : Nat) (p : List Nat) : (exts b many p).length ≤ many := by
  unfold exts
  rw [List.length_map]
  have := List.length_filter_le (fun j => decide (cnt p j < b)) (List.range many)
  rw [List.length_range] at this
  exact this
def capsS : List Nat → List Nat
  | [] => []
  | m :: s => List.replicate m s.length ++ capsS s
def move (s : List Nat) (k : Nat) : List Nat := (s.set k (s.getD k 0 - 1)).set (k + 1) (s.getD (k + 1) 0 + 1)
theorem move_zero (m n : Nat) (s : List Nat) : move (m :: n :: s) 0 = (m - 1) :: (n + 1) :: s := rfl
theorem move_succ (m : Nat) (s : List Nat) (k : Nat) : move (m :: s) (k + 1) = m :: move s k := rfl
theorem move_length (s : List Nat) (k : Nat) : (move s k).length = s.length := by
  unfold move
  rw [List.length_set, List.length_set]
theorem move_sum : ∀ (s : List Nat) (k : Nat), k + 1 < s.length → 0 < s.getD k 0 → (move s k).sum = s.sum
  | [], k, h, _ => absurd h (by simp)
  | [m], k, h, _ => absurd h (by simp)
  | m :: n :: s, 0, _, h => by
    rw [move_zero]
    have h : 0 < m := h
    simp only [List.sum_cons]
    omega
  | m :: n :: s, k + 1, hk, h => by
    rw [move_succ, List.sum_cons, List.sum_cons, move_sum (n :: s) k (by simpa using hk) h]
theorem capsS_zero (n : Nat) : capsS (List.replicate n 0) = [] := by
  induction n with
  | zero => rfl
  | succ n ih =>
    rw [List.replicate_succ]
    show List.replicate 0 _ ++ capsS (List.replicate n 0) = []
    rw [ih]
    rfl
theorem decs_rep (L : Nat) (rest : List Nat) : ∀ (m : Nat) (g : List Nat → Nat), (∀ x y : List Nat, x.Perm y → g x = g y) →
    ((decs (List.replicate m L ++ rest)).map g).sum = m * (if L = 0 then 0 else g ((L - 1) :: (List.replicate (m - 1) L ++ rest))) + ((decs rest).map fun d => g (List.replicate m L ++ d)).sum
  | 0, g, _ => by
    rw [Nat.zero_mul, Nat.zero_add]
    rfl
  | m + 1, g, hg => by
    have ih := decs_rep L rest m (fun d => g (L :: d)) fun x y p => hg _ _ (p.cons L)
    show (((if L = 0 then [] else [(L - 1) :: (List.replicate m L ++ rest)]) ++ (decs (List.replicate m L ++ rest)).map (L :: ·)).map g).sum = _
    rw [List.map_append, List.sum_append, List.map_map]
    have e : ((decs (List.replicate m L ++ rest)).map (g ∘ (L :: ·))).sum = ((decs (List.replicate m L ++ rest)).map fun d => g (L :: d)).sum := rfl
    rw [e, ih, Nat.add_sub_cancel]
    have e2 : ((decs rest).map fun d => g (List.replicate (m + 1) L ++ d)).sum = ((decs rest).map fun d => g (L :: (List.replicate m L ++ d))).sum := rfl
    rw [e2, Nat.add_mul, Nat.one_mul]
    by_cases h : L = 0
    · simp only [if_pos h]
      show 0 + (m * 0 + _) = m * 0 + 0 + _
      omega
    · simp only [if_neg h]
      show g ((L - 1) :: (List.replicate m L ++ rest)) + 0 + (m * g (L :: (L - 1) :: (List.replicate (m - 1) L ++ rest)) + _) = m * g ((L - 1) :: (List.replicate m L ++ rest)) + g ((L - 1) :: (List.replicate m L ++ rest)) + _
      cases m with
      | zero => simp
      | succ m =>
        have e3 : g (L :: ((L - 1) :: (List.replicate (m + 1 - 1) L ++ rest))) = g ((L - 1) :: (List.replicate (m + 1) L ++ rest)) :=
          hg _ _ (List.Perm.swap _ _ _)
        rw [e3]
        omega
theorem caps_moves : ∀ (b : Nat) (s : List Nat), s.length = b + 1 → ∀ g : List Nat → Nat, (∀ x y : List Nat, x.Perm y → g x = g y) →
    S (fun k => s.getD k 0 * g (capsS (move s k))) b = ((decs (capsS s)).map g).sum
  | 0, s, hs, g, _ => by
    obtain ⟨m, rfl⟩ : ∃ m, s = [m] := List.length_eq_one_iff.mp hs
    show 0 = ((decs (List.replicate m 0 ++ [])).map g).sum
    rw [List.append_nil]
    have : decs (List.replicate m 0) = [] := by
      induction m with
      | zero => rfl
      | succ m ih =>
        rw [List.replicate_succ]
        show (if 0 = 0 then [] else _) ++ (decs (List.replicate m 0)).map _ = []
        rw [ih (by simp), if_pos rfl]
        rfl
    rw [this]
    rfl
  | b + 1, s, hs, g, hg => by
    match s, hs with
    | [], hs => exact absurd hs (by simp)
    | [_], hs => exact absurd hs (by simp)
    | m :: n :: s, hs =>
      have hl : (n :: s).length = b + 1 := by simpa using hs
      have ih := caps_moves b (n :: s) hl (fun c => g (List.replicate m (b + 1) ++ c)) fun x y p => hg _ _ (p.append_left _)
      rw [S_head]
      show m * g (capsS (move (m :: n :: s) 0)) + S (fun k => (n :: s).getD k 0 * g (capsS (m :: move (n :: s) k))) b = ((decs (List.replicate m (n :: s).length ++ capsS (n :: s))).map g).sum
      rw [hl, decs_rep (b + 1) (capsS (n :: s)) m g hg, if_neg (Nat.succ_ne_zero b), ← ih]
      have e1 : S (fun k => (n :: s).getD k 0 * g (capsS (m :: move (n :: s) k))) b = S (fun k => (n :: s).getD k 0 * g (List.replicate m (b + 1) ++ capsS (move (n :: s) k))) b :=
        S_congr fun k _ => by
          show (n :: s).getD k 0 * g (List.replicate m (move (n :: s) k).length ++ capsS (move (n :: s) k)) = _
          rw [move_length, hl]
      rw [e1]
      congr 1
      cases m with
      | zero => rw [Nat.zero_mul, Nat.zero_mul]
      | succ m =>
        congr 1
        rw [move_zero]
        show g (List.replicate m ((n + 1) :: s).length ++ (List.replicate (n + 1) s.length ++ capsS s)) = g (b :: (List.replicate m (b + 1) ++ (List.replicate n s.length ++ capsS s)))
        have hb : s.length = b := by simpa using hl
        rw [List.length_cons, hb]
        refine hg _ _ ?_
        rw [List.replicate_succ]
        exact List.perm_middle
abbrev Tab := List (List Nat × Nat)
def valN (d : Tab) (k : List Nat) : Option Nat := (d.find? fun p => decide (p.1 = k)).map (·.2)
def putN (d : Tab) (k : List Nat) (v : Nat) : Tab := if (d.any fun p => decide (p.1 = k)) = true then d.map (fun p => if p.1 = k then (p.1, v) else p) else d ++ [(k, v)]
def wt (t : Nat) (d : Tab) : Nat := (d.map fun p => p.2 * F (capsS p.1) t).sum
theorem wt_put (t : Nat) (k : List Nat) (x : Nat) : ∀ d : Tab, (d.map (·.1)).Nodup → wt t (putN d k ((valN d k).getD 0 + x)) = wt t d + x * F (capsS k) t := by
  intro d hn
  unfold putN
  by_cases a : (d.any fun p => decide (p.1 = k)) = true
  · rw [if_pos a]
    induction d with
    | nil => exact absurd a (by simp)
    | cons p d ih =>
      have hn : (p.1 :: d.map (·.1)).Nodup := hn
      obtain ⟨h1, h2⟩ := List.nodup_cons.mp hn
      by_cases e : p.1 = k
      · have ev : valN (p :: d) k = some p.2 := by
          unfold valN
          rw [List.find?_cons_of_pos (by simpa using e)]
          rfl
        have er : d.map (fun q => if q.1 = k then (q.1, (valN (p :: d) k).getD 0 + x) else q) = d := by
          have : d.map (fun q => if q.1 = k then (q.1, (valN (p :: d) k).getD 0 + x) else q) = d.map id := List.map_congr_left fun q hq => by
            rw [if_neg fun z => h1 (by rw [e, ← z]; exact List.mem_map.mpr ⟨q, hq, rfl⟩)]
            rfl
          rw [this, List.map_id]
        rw [List.map_cons, if_pos e, er, ev]
        show (p.2 + x) * F (capsS p.1) t + wt t d = p.2 * F (capsS p.1) t + wt t d + x * F (capsS k) t
        rw [e, Nat.add_mul]
        omega
      · have ev : valN (p :: d) k = valN d k := by
          unfold valN
          rw [List.find?_cons_of_neg (by simpa using e)]
        have a' : (d.any fun p => decide (p.1 = k)) = true := by
          rw [List.any_cons, decide_eq_false e, Bool.false_or] at a
          exact a
        rw [List.map_cons, if_neg e, ev]
        show p.2 * F (capsS p.1) t + wt t (d.map fun q => if q.1 = k then (q.1, (valN d k).getD 0 + x) else q) = p.2 * F (capsS p.1) t + wt t d + x * F (capsS k) t
        rw [ih h2 a']
        omega
  · rw [if_neg a]
    have ev : valN d k = none := by
      unfold valN
      rw [List.find?_eq_none.mpr fun p hp => by
        intro q
        exact a (List.any_eq_true.mpr ⟨p, hp, q⟩)]
      rfl
    rw [ev]
    unfold wt
    rw [List.map_append, List.sum_append]
    show _ + ((0 + x) * F (capsS k) t + 0) = _
    rw [Nat.zero_add, Nat.add_zero]
theorem put_keys (d : Tab) (k : List Nat) (v : Nat) (hn : (d.map (·.1)).Nodup) : ((putN d k v).map (·.1)).Nodup ∧ ∀ q ∈ (putN d k v).map (·.1), q = k ∨ q ∈ d.map (·.1) := by
  unfold putN
  by_cases a : (d.any fun p => decide (p.1 = k)) = true
  · rw [if_pos a]
    have e : (d.map (fun p => if p.1 = k then (p.1, v) else p)).map (·.1) = d.map (·.1) := by
      rw [List.map_map]
      refine List.map_congr_left fun p _ => ?_
      show (if p.1 = k then (p.1, v) else p).1 = p.1
      split <;> rfl
    rw [e]
    exact ⟨hn, fun q hq => .inr hq⟩
  · rw [if_neg a, List.map_append]
    refine ⟨List.nodup_append.mpr ⟨hn, by simp, ?_⟩, fun q hq => ?_⟩
    · intro x hx y hy e
      have hy : y = k := by simpa using hy
      subst hy
      obtain ⟨p, hp, hpe⟩ := List.mem_map.mp hx
      exact a (List.any_eq_true.mpr ⟨p, hp, by simpa [e] using hpe⟩)
    · rcases List.mem_append.mp hq with h | h
      · exact .inr h
      · exact .inl (by simpa using h)
def stp (s : List Nat) (c : Nat) (d : Tab) (k : Nat) : Tab := if 0 < s.getD k 0 then putN d (move s k) ((valN d (move s k)).getD 0 + c * s.getD k 0) else d
def innr (s : List Nat) (c : Nat) (d : Tab) : Nat → Tab
  | 0 => d
  | k + 1 => stp s c (innr s c d k) k
def outr (b : Nat) (ws : Tab) : Nat → Tab
  | 0 => []
  | i + 1 => innr (ws.getD i ([], 0)).1 (ws.getD i ([], 0)).2 (outr b ws i) b
def wys (b many : Nat) : Nat → Tab
  | 0 => [(many :: List.replicate b 0, 1)]
  | r + 1 => outr b (wys b many r) (wys b many r).length
structure TabOk (b many : Nat) (d : Tab) : Prop where
  nd : (d.map (·.1)).Nodup
  st : ∀ q ∈ d.map (·.1), q.length = b + 1 ∧ q.sum = many
theorem TabOk.at {b many : Nat} {d : Tab} (h : TabOk b many d) {i : Nat} {p : List Nat × Nat} (e : d[i]? = some p) : p.1.length = b + 1 ∧ p.1.sum = many :=
  h.st _ (List.mem_map.mpr ⟨p, List.mem_of_getElem? e, rfl⟩)
theorem stp_ok {b many : Nat} {d : Tab} {s : List Nat} {c k : Nat} (h : TabOk b many d) (hs : s.length = b + 1 ∧ s.sum = many) (hk : k < b) : TabOk b many (stp s c d k) := by
  unfold stp
  by_cases e : 0 < s.getD k 0
  · rw [if_pos e]
    obtain ⟨h1, h2⟩ := put_keys d (move s k) ((valN d (move s k)).getD 0 + c * s.getD k 0) h.nd
    refine ⟨h1, fun q hq => ?_⟩
    rcases h2 q hq with z | z
    · rw [z, move_length, move_sum s k (by omega) e]
      exact hs
    · exact h.st q z
  · rw [if_neg e]
    exact h
theorem innr_ok {b many : Nat} {d : Tab} {s : List Nat} {c : Nat} (h : TabOk b many d) (hs : s.length = b + 1 ∧ s.sum = many) : ∀ k : Nat, k ≤ b → TabOk b many (innr s c d k)
  | 0, _ => h
  | k + 1, hk => stp_ok (innr_ok h hs k (by omega)) hs (by omega)
theorem getD_of {α : Type} {l : List α} {i : Nat} {a d : α} (h : l[i]? = some a) : l.getD i d = a := by
  rw [List.getD_eq_getElem?_getD, h]
  rfl
theorem outr_ok {b many : Nat} {ws : Tab} (h : TabOk b many ws) : ∀ i : Nat, i ≤ ws.length → TabOk b many (outr b ws i)
  | 0, _ => ⟨List.nodup_nil, fun q hq => absurd hq (List.not_mem_nil)⟩
  | i + 1, hi => by
    have e : ws[i]? = some ws[i] := List.getElem?_eq_getElem (by omega)
    show TabOk b many (innr (ws.getD i ([], 0)).1 (ws.getD i ([], 0)).2 (outr b ws i) b)
    rw [getD_of e]
    exact innr_ok (outr_ok h i (by omega)) (h.at e) b (Nat.le_refl _)
theorem wys_ok (b many : Nat) : ∀ r : Nat, TabOk b many (wys b many r)
  | 0 => ⟨by simp [wys], fun q hq => by
      have hq : q = many :: List.replicate b 0 := by simpa [wys] using hq
      rw [hq, List.length_cons, List.length_replicate, List.sum_cons, sum_rep, Nat.mul_zero]
      exact ⟨rfl, rfl⟩⟩
  | r + 1 => outr_ok (wys_ok b many r) _ (Nat.le_refl _)
theorem innr_wt (t : Nat) {b many : Nat} {d : Tab} {s : List Nat} {c : Nat} (h : TabOk b many d) (hs : s.length = b + 1 ∧ s.sum = many) : ∀ k : Nat, k ≤ b →
    wt t (innr s c d k) = wt t d + c * S (fun k => s.getD k 0 * F (capsS (move s k)) t) k
  | 0, _ => rfl
  | k + 1, hk => by
    have ih := innr_wt t (c := c) h hs k (by omega)
    show wt t (stp s c (innr s c d k) k) = wt t d + c * (S _ k + s.getD k 0 * F (capsS (move s k)) t)
    rw [Nat.mul_add, ← Nat.add_assoc, ← ih]
    unfold stp
    by_cases e : 0 < s.getD k 0
    · rw [if_pos e, wt_put t _ _ _ (innr_ok h hs k (by omega)).nd, Nat.mul_assoc]
    · rw [if_neg e, show s.getD k 0 = 0 by omega, Nat.zero_mul, Nat.mul_zero]
      rfl
theorem outr_wt (t : Nat) {b many : Nat} {ws : Tab} (h : TabOk b many ws) : ∀ i : Nat, i ≤ ws.length → wt t (outr b ws i) = wt (t + 1) (ws.take i)
  | 0, _ => rfl
  | i + 1, hi => by
    have e : ws[i]? = some ws[i] := List.getElem?_eq_getElem (by omega)
    show wt t (innr (ws.getD i ([], 0)).1 (ws.getD i ([], 0)).2 (outr b ws i) b) = _
    rw [getD_of e, innr_wt t (outr_ok h i (by omega)) (h.at e) b (Nat.le_refl _), outr_wt t h i (by omega),
      caps_moves b _ (h.at e).1 (fun c => F c t) fun x y p => F_perm t p, ← F_step]
    rw [List.take_add_one, e]
    unfold wt
    rw [List.map_append, List.sum_append]
    rfl
theorem wys_wt (b many : Nat) : ∀ r t : Nat, wt t (wys b many r) = F (List.replicate many b) (r + t)
  | 0, t => by
    show 1 * F (List.replicate many (List.replicate b 0).length ++ capsS (List.replicate b 0)) t + 0 = _
    rw [capsS_zero, List.append_nil, List.length_replicate, Nat.one_mul, Nat.add_zero, Nat.zero_add]
  | r + 1, t => by
    show wt t (outr b (wys b many r) (wys b many r).length) = _
    rw [outr_wt t (wys_ok b many r) _ (Nat.le_refl _), List.take_length, wys_wt b many r (t + 1)]
    congr 1
    omega
theorem wys_sum (b many r : Nat) : ((wys b many r).map (·.2)).sum = fS b many r := by
  rw [fS_F]
  have h := wys_wt b many r 0
  have e : wt 0 (wys b many r) = ((wys b many r).map (·.2)).sum := by
    unfold wt
    congr 1
    refine List.map_congr_left fun p _ => ?_
    rw [F_zero, Nat.mul_one]
  rw [e] at h
  exact h
end Cnt
namespace Sh
open PySem L2 Cnt
def top (i : Nat) : Stmt := PySem.Challenge.pw_fewestpours_k63_whole_shares_counted.main.body.getD i (.Pass ⟨0, 0, 0, 0⟩)
abbrev sChosen : Stmt := top 1
abbrev sShare : Stmt := top 2
abbrev sPour : Stmt := top 3
abbrev sDraw : Stmt := top 5
abbrev sAny : Stmt := top 6
abbrev sOf : Stmt := top 7
abbrev sPlac : Stmt := top 8
abbrev sWays : Stmt := top 9
abbrev sChoi : Stmt := top 10
abbrev sStep : Stmt := top 11
abbrev sLaw : Stmt := top 12
abbrev vN (n : Nat) : V := .int (n : Int)
theorem sl_small {n : Nat} (h : n ≤ 16777216) : n ≤ sizeLine := by rw [PySem.sizeLine_eq]; exact h
theorem sl_lt {n : Nat} (h : n < 16777216) : n < sizeLine := by rw [PySem.sizeLine_eq]; exact h
structure Txt (mg : Str → Option Value) : Prop where
  range : mg "range" = none
  len : mg "len" = none
  sum : mg "sum" = none
  min : mg "min" = none
  max : mg "max" = none
  abs : mg "abs" = none
  int : mg "int" = none
  list : mg "list" = none
  tuple : mg "tuple" = none
  repr : mg "repr" = none
  sorted : mg "sorted" = none
theorem Same.upd {H H2 : Hp} {p : Addr} {o : HO} (s : Same H H2) (hp : H p = none) : Same H (L2.upd H2 p o) := fun b u e => by
  rw [upd_ne (ne_of_none e hp)]
  exact s b u e
theorem Same.new {H H2 : Hp} {p : Addr} {o : HO} (s : Same H H2) (hp : H2 p = none) : Same H (L2.upd H2 p o) := Same.upd s (s.free hp)
theorem nth_map {α : Type} {f : α → V} {l : List α} {i : Nat} {a : α} (h : l[i]? = some a) : (l.map f)[i]? = some (f a) := by
  rw [List.getElem?_map, h]
  rfl
theorem nth_range {n i : Nat} (h : i < n) : (List.range n)[i]? = some i := by
  rw [List.getElem?_range h]
theorem at_back {xs : List V} {m : Nat} {v : V} (hl : xs.length = m + 1) (h : xs[m]? = some v) : atI xs (-1) = some v := by
  have e : ixN xs.length (-1) = some m := by
    unfold ixN
    rw [if_neg (by decide), if_pos (by omega), hl]
    congr 1
    omega
  unfold atI
  rw [e]
  exact h
theorem map_range_succ {α : Type} (f : Nat → α) (n : Nat) : (List.range (n + 1)).map f = (List.range n).map f ++ [f n] := by
  rw [List.range_succ, List.map_append]
  rfl
theorem nth_snoc_old {α : Type} {l : List α} {x y : α} {i : Nat} (h : i < l.length) (e : (l ++ [x])[i]? = some y) : l[i]? = some y := by
  rw [List.getElem?_append_left h] at e
  exact e
theorem nth_snoc_new {α : Type} {l : List α} {x y : α} {i : Nat} (h : i = l.length) (e : (l ++ [x])[i]? = some y) : y = x := by
  rw [h, List.getElem?_append_right (Nat.le_refl _), Nat.sub_self] at e
  exact (Option.some.inj e).symm
theorem nth_lt {α : Type} {l : List α} {i : Nat} {x : α} (h : l[i]? = some x) : i < l.length := (List.getElem?_eq_some_iff.mp h).1
structure Hd (K : PySem.W.Frag) (mg : Str → Option Value) (x : Str) (st : Stmt) (ps : List Str) (f : Addr) (fd : FuncData) : Prop where
  fn : Fun K x x st f fd
  mg : mg x = some (.ref f)
  bd : Binds K fd ps []
theorem sum_cast : ∀ l : List Nat, (l.map fun n : Nat => (n : Int)).sum = (l.sum : Int)
  | [] => rfl
  | a :: l => by
    rw [List.map_cons, List.sum_cons, List.sum_cons, sum_cast l]
    omega
theorem sum_map_cast {α : Type} (f : α → Nat) : ∀ l : List α, (l.map fun x => ((f x : Nat) : Int)).sum = ((l.map f).sum : Nat)
  | [] => rfl
  | a :: l => by
    rw [List.map_cons, List.sum_cons, List.map_cons, List.sum_cons, sum_map_cast f l]
    omega
theorem mul_cast (a b : Nat) : V.int ((a : Int) * (b : Int)) = vN (a * b) := by rw [← Int.natCast_mul]
theorem seq_mid {t u : TS} {D : Ends} {σ : St} {H : Hp} (Mid : St → Hp → Prop) (main : (∀ σ H, Mid σ H → u D σ H) → tSeq t u D σ H) (behind : ∀ σ H, Mid σ H → u D σ H) : tSeq t u D σ H := main behind
section
variable {X : Cx}
theorem ixK (K : PySem.W.Frag) (h : X.K = K := by rfl) : IxR X (rIxL K) := h ▸ ix_list
theorem lenK (K : PySem.W.Frag) (h : X.K = K := by rfl) : CallR X (.builtin "len") (fun xs H Q => ∃ p ys, xs = [.ref p] ∧ (SqL K H p ys ∨ SqT K H p ys) ∧ Q (.int ys.length) H) := h ▸ call_len_seq
theorem tupK {tg l : Expr} {tl : TE} (K : PySem.W.Frag) (hl : PE X l tl) (h : X.K = K := by rfl) : PI X tg l (iTup K tl) := h ▸ pi_tup hl
theorem catK (K : PySem.W.Frag) (h : X.K = K := by rfl) : OpR X (binaryOp .Add) (rCatA K) := h ▸ op_catA
theorem sumK (K : PySem.W.Frag) (h : X.K = K := by rfl) (hc : X.calm = true := by rfl) : CallR X (.builtin "sum") (rSum K) := h ▸ cr_sum hc
end
end Sh
namespace Sh
open PySem L2 Cnt
def rowV (n : Nat) : List V := (List.range (n + 1)).map fun k => vN (binom n k)
theorem rowV_len (n : Nat) : (rowV n).length = n + 1 := by simp [rowV]
theorem rowV_at {n k : Nat} (h : k ≤ n) : (rowV n)[k]? = some (vN (binom n k)) := nth_map (nth_range (by omega))
theorem rowV_next (n : Nat) : [V.int 1] ++ ((List.range n).map fun k => V.int ((binom n k : Int) + (binom n (k + 1) : Int))) ++ [V.int 1] = rowV (n + 1) := by
  unfold rowV
  rw [List.range_succ_eq_map, List.map_cons, List.range_succ, List.map_append, List.map_append, List.map_map]
  have e1 : vN (binom (n + 1) 0) = V.int 1 := by rw [binom_zero]; rfl
  rw [e1]
  show V.int 1 :: (((List.range n).map _) ++ [V.int 1]) = V.int 1 :: (((List.range n).map _) ++ [vN (binom (n + 1) (n + 1))])
  rw [binom_self]
  rfl
def spChosen : Sp := fun vs H Q _ => ∃ n : Nat, vs = [.int n] ∧ n ≤ 1000 ∧ ∀ (H' : Hp) (p : Addr) (as : List Addr), Same H H' → H p = none → H' p = some (.lst (as.map V.ref)) → as.length = n + 1 →
  (∀ i a, as[i]? = some a → H' a = some (.lst (rowV i))) → Q (.ref p) H'
section
variable {P : Program} {w : World} {K : PySem.W.Frag} {mg : Str → Option Value} {base : Heap}
theorem scC : FnScope ["many", "rows", "turn", "ahead", "at"] ["many"] (defScope sChosen) := ⟨rfl, rfl, rfl, by decide +kernel, rfl, by decide +kernel, by decide +kernel⟩
theorem ok_chosen {f : Addr} {fd : FuncData} (F : Fun K "chosen" "chosen" sChosen f fd) (T : Txt mg) : FnOk P w K mg base CX0 1 f fd ["many"] spChosen := by
  refine F.ok scC (fun vs H Q E h => ?_) (fun cdv A outer s H vs Q E hr h => ?_)
  · obtain ⟨n, rfl, _⟩ := h
    rfl
  · obtain ⟨n, rfl, hn, k⟩ := h
    refine ⟨_, pss_cons (ps_set (i := 1) scC.nd rfl (.inl rfl) (pe_lst (pa_cons (pe_lst (pa_cons pe_int pa_nil)) pa_nil)))
      (pss_cons (ps_for PassesOwn.never rfl (pi_range1 (by rfl) T.range (pa_cons (pv 0) pa_nil)) (pg_name (i := 2) scC.nd rfl (Or.inl rfl))
        (pss_cons (ps_set (i := 3) scC.nd rfl (.inr rfl) (pe_ix ix_list (pv 1) (pe_un un_neg pe_int) (fun _ _ => rfl)))
        (pss_one (ps_expr (pe_bm PySem.F.plainAttrs_list PySem.F.slot_list_append PySem.F.type_list_append mt_append (pv 1)
          (pa_cons (pe_op op_cat (pe_op op_cat (pe_lst (pa_cons pe_int pa_nil))
            (pe_lc (own := [("at", 4)]) (g := gName 4) (by rfl) scC.nd (pi_range1 (by rfl) T.range (pa_cons (pe_op op_sub (pe_callB call_len_seq (by rfl) T.len PySem.boot_len (pa_cons (pv 3) pa_nil)) pe_int) pa_nil))
              (blkOk_by (own := [("at", 4)]) (N := ["many", "rows", "turn", "ahead", "at"]) (sc := defScope sChosen) (by decide +kernel))
              (fun _ _ _ _ _ => pg_name (i := 4) scC.nd rfl (Or.inl rfl)) (fun _ _ _ _ _ => pts_nil)
              (fun _ _ _ _ _ => pe_op op_add (pe_ix (ixK K) (pv 3) (pv 4) (fun _ _ => rfl)) (pe_ix (ixK K) (pv 3) (pe_op op_add (pv 4) pe_int) (fun _ _ => rfl)))))
            (pe_lst (pa_cons pe_int pa_nil))) pa_nil))))))
      (pss_one (ps_ret (pv 1)))), ?_⟩
    refine ⟨(by show 1 ≤ sizeLine; decide), fun r0 hr0 => ⟨(by show 1 ≤ sizeLine; decide), fun p hp => ?_⟩⟩
    have npr : p ≠ r0 := fun e => by
      rw [e, upd_same] at hp
      cases hp
    have hp0 : H p = none := by
      rw [upd_ne npr] at hp
      exact hp
    refine ⟨_, rfl, (n : Int), rfl, by omega, by omega, for_range (lo := 0) (n := (n : Int).toNat) (fun i σ H2 => ∃ (as : List Addr) (vt va : Option V), σ = [some (vN n), some (.ref p), vt, va, none] ∧ Same H H2 ∧ H2 p = some (.lst (as.map V.ref)) ∧ as.length = i + 1 ∧
        ∀ j a, as[j]? = some a → a ≠ p ∧ H2 a = some (.lst (rowV j))) ?_ ?_ ?_⟩
    · refine ⟨[r0], none, none, rfl, Same.upd (Same.upd (Same.refl H) hr0) hp0, upd_same, rfl, fun j a e => ?_⟩
      cases j with
      | zero =>
        obtain rfl : r0 = a := Option.some.inj e
        exact ⟨npr.symm, by rw [upd_ne npr.symm, upd_same]; rfl⟩
      | succ j => exact absurd (nth_lt e) (by simp)
    · rintro i σ H2 hi ⟨as, vt, va, rfl, s2, hP, hl, hA⟩
      have hi' : i < n := by omega
      obtain ⟨a, ha⟩ : ∃ a, as[i]? = some a := ⟨as[i]'(by omega), List.getElem?_eq_getElem _⟩
      obtain ⟨nap, hR⟩ := hA i a ha
      refine ⟨_, rfl, 1, rfl, p, _, -1, .ref a, rfl, rfl, SqL.of hP, at_back (m := i) (by rw [List.length_map, hl]) (nth_map ha), ?_⟩
      refine ⟨_, rfl, .inl ⟨rfl, _, SqL.of hP⟩, ?_⟩
      refine ⟨(by show 1 ≤ sizeLine; decide), fun o1 h1 => ?_⟩
      have n1p : p ≠ o1 := ne_of_none hP h1
      have n1a : a ≠ o1 := ne_of_none hR h1
      refine ⟨_, rfl, a, rowV i, rfl, .inl (SqL.of (by rw [upd_ne n1a]; exact hR)), _, _, rfl, rfl, _, rfl, by rw [rowV_len]; omega, by rw [rowV_len]; omega, fun D hD => ?_⟩
      have n1D : o1 ≠ D := fun e => by
        rw [← e, upd_same] at hD
        cases hD
      have hD2 : H2 D = none := by
        rw [upd_ne n1D.symm] at hD
        exact hD
      have naD : a ≠ D := ne_of_none hR hD2
      have npD : p ≠ D := ne_of_none hP hD2
      have em : ((((rowV i).length : Nat) : Int) - 1).toNat = i := by rw [rowV_len]; omega
      refine lc_range (lo := 0) (n := ((((rowV i).length : Nat) : Int) - 1).toNat) (fun j H' => H' = L2.upd (L2.upd H2 o1 (.lst [V.int 1])) D (.lst ((List.range j).map fun k => V.int ((binom i k : Int) + (binom i (k + 1) : Int))))) rfl ?_ ?_
      · rintro j H' hj rfl
        have hj' : j < i := by omega
        have hRa : (L2.upd (L2.upd H2 o1 (.lst [V.int 1])) D (.lst ((List.range j).map fun k => V.int ((binom i k : Int) + (binom i (k + 1) : Int))))) a = some (.lst (rowV i)) := by
          rw [upd_ne naD, upd_ne n1a]
          exact hR
        refine ⟨rfl, ?_⟩
        refine ⟨_, rfl, _, rfl, a, rowV i, _, vN (binom i j), rfl, rfl, SqL.of hRa, at_of (by omega) (rowV_at (by omega)), _, rfl, _, rfl, _, _, rfl, rfl, a, rowV i, _, vN (binom i (j + 1)), rfl, rfl, SqL.of hRa, at_of (j := j + 1) (by omega) (rowV_at (by omega)), _, _, rfl, rfl,
          _, upd_same, sl_lt (by simp; omega), ?_⟩
        rw [upd_upd, map_range_succ]
      · rintro H' rfl
        rw [em]
        refine ⟨o1, D, _, _, rfl, rfl, by rw [upd_ne n1D]; exact upd_same, upd_same, sl_small (by simp; omega), fun o2 h2 => ?_⟩
        generalize hH3 : L2.upd (L2.upd H2 o1 (.lst [V.int 1])) D (.lst ((List.range i).map fun k => V.int ((binom i k : Int) + (binom i (k + 1) : Int)))) = H3 at h2
        have s3 : Same H2 H3 := by
          rw [← hH3]
          exact Same.upd (Same.upd (Same.refl _) h1) hD2
        refine ⟨(by show 1 ≤ sizeLine; decide), fun o3 h3 => ?_⟩
        have n23 : o2 ≠ o3 := fun e => by
          rw [← e, upd_same] at h3
          cases h3
        refine ⟨o2, o3, _, _, rfl, rfl, by rw [upd_ne n23]; exact upd_same, upd_same, sl_small (by simp; omega), fun o4 h4 => ?_⟩
        have h3' : H3 o3 = none := by
          rw [upd_ne n23.symm] at h3
          exact h3
        generalize hH5 : L2.upd (L2.upd H3 o2 _) o3 _ = H5 at h4
        have s5 : Same H2 H5 := by
          rw [← hH5]
          exact Same.new (Same.new s3 h2) h3
        have hP5 : H5 p = some (.lst (as.map V.ref)) := s5 _ _ hP
        have np4 : p ≠ o4 := ne_of_none hP5 h4
        refine ⟨p, as.map V.ref, .ref o4, rfl, rfl, by rw [upd_ne np4]; exact hP5, sl_lt (by rw [List.length_map]; omega), ?_⟩
        refine ⟨as ++ [o4], _, _, rfl, ?_, ?_, by rw [List.length_append, hl]; rfl, fun j b e => ?_⟩
        · exact Same.upd (Same.new (s2.trans s5) h4) hp0
        · rw [upd_same, List.map_append]
          rfl
        · by_cases q : j < as.length
          · obtain ⟨x1, x2⟩ := hA j b (nth_snoc_old q e)
            have x3 := s5 _ _ x2
            exact ⟨x1, by rw [upd_ne x1, upd_ne (ne_of_none x3 h4)]; exact x3⟩
          · have hj : j = as.length := by
              have := nth_lt e
              rw [List.length_append, List.length_singleton] at this
              omega
            obtain rfl := nth_snoc_new hj e
            refine ⟨np4.symm, ?_⟩
            rw [upd_ne np4.symm, upd_same, hj, hl, ← rowV_next]
    · rintro σ H2 ⟨as, vt, va, rfl, s2, hP, hl, hA⟩
      have e0 : (n : Int).toNat = n := Int.toNat_natCast n
      rw [e0] at hl
      exact ⟨_, rfl, k H2 p as s2 hp0 hP hl fun i a e => (hA i a e).2⟩
end
end Sh
namespace Sh
open PySem L2 Cnt
def waysV (b i r : Nat) : List V := (List.range (r + 1)).map fun k => vN (fS b i k)
theorem waysV_at {b i r k : Nat} (h : k ≤ r) : (waysV b i r)[k]? = some (vN (fS b i k)) := nth_map (nth_range (by omega))
theorem flat_one {α : Type} (x : α) : ∀ r : Nat, (List.replicate r [x]).flatten = List.replicate r x
  | 0 => rfl
  | r + 1 => by
    rw [List.replicate_succ, List.replicate_succ, List.flatten_cons, flat_one x r]
    rfl
theorem waysV_zero (b r : Nat) : [V.int 1] ++ (List.replicate r [V.int 0]).flatten = waysV b 0 r := by
  unfold waysV
  rw [List.range_succ_eq_map, List.map_cons, List.map_map]
  show V.int 1 :: (List.replicate r [V.int 0]).flatten = V.int 1 :: _
  congr 1
  have e : ((List.range r).map ((fun k => vN (fS b 0 k)) ∘ Nat.succ)) = (List.range r).map fun _ => V.int 0 := List.map_congr_left fun k _ => by
    show V.int ((if k + 1 = 0 then 1 else 0 : Nat) : Int) = V.int 0
    rw [if_neg (Nat.succ_ne_zero k)]
    rfl
  rw [e, List.map_const', List.length_range]
  exact flat_one (V.int 0) r
def spShare : Sp := fun vs H Q _ => ∃ b many r : Nat, vs = [.int b, .int many, .int r] ∧ b ≤ 1000 ∧ many ≤ 64 ∧ r ≤ 200 ∧ ∀ H' : Hp, Same H H' → Q (vN (fS b many r)) H'
theorem lt_pow_of {x a b : Nat} (h : x ≤ 2 ^ a) (hab : a < b) : ((x : Nat) : Int).natAbs < 2 ^ b := by
  rw [Int.natAbs_natCast]
  exact Nat.lt_of_le_of_lt h (Nat.pow_lt_pow_right (by decide) hab)
theorem fS_bits {b i k : Nat} (hi : i ≤ 64) (hk : k ≤ 200) : fS b i k ≤ 2 ^ 1200 := by
  refine Nat.le_trans (fS_le b i k) (Nat.le_trans (Nat.pow_le_pow_left hi k) ?_)
  have e : (64 : Nat) = 2 ^ 6 := by decide
  rw [e, ← Nat.pow_mul]
  exact Nat.pow_le_pow_right (by decide) (by omega)
theorem binom_bits {k z : Nat} (hk : k ≤ 200) : binom k z ≤ 2 ^ 200 := Nat.le_trans (binom_le_two_pow k z) (Nat.pow_le_pow_right (by decide) hk)
abbrev nSh : List Str := ["b", "many", "records", "rows", "ways", "block", "k", "z"]
section
variable {P : Program} {w : World} {K : PySem.W.Frag} {mg : Str → Option Value} {base : Heap}
theorem scSh : FnScope nSh ["b", "many", "records"] (defScope sShare) := ⟨rfl, rfl, rfl, by decide +kernel, rfl, by decide +kernel, by decide +kernel⟩
theorem ok_share {f fC : Addr} {fd fdC : FuncData} (F : Fun K "share_count" "share_count" sShare f fd) (T : Txt mg) (DC : Hd K mg "chosen" sChosen ["many"] fC fdC) : FnOk P w K mg base CX0 2 f fd ["b", "many", "records"] spShare := by
  have GC : FnOk P w K mg base CX0 1 fC fdC ["many"] spChosen := ok_chosen DC.fn T
  refine F.ok scSh (fun vs H Q E h => ?_) (fun cdv A outer s H vs Q E hr h => ?_)
  · obtain ⟨b, many, r, rfl, _⟩ := h
    rfl
  · obtain ⟨b, many, r, rfl, hb, hm, hrr, k⟩ := h
    refine ⟨_, pss_cons (ps_asg (pe_tup (pa_cons (pe_call GC hr rfl DC.mg DC.fn.kp DC.bd .nil pass0 (pa_cons (pv 2) pa_nil))
        (pa_cons (pe_op op_cat (pe_lst (pa_cons pe_int pa_nil)) (pe_op op_rep (pe_lst (pa_cons pe_int pa_nil)) (pv 2))) pa_nil)))
        (pg_tup rfl (pgs_cons (pg_name (i := 3) scSh.nd rfl (.inr rfl)) (pgs_cons (pg_name (i := 4) scSh.nd rfl (.inr rfl)) pgs_nil))))
      (pss_cons (ps_for PassesOwn.never rfl (pi_range1 (by rfl) T.range (pa_cons (pv 1) pa_nil)) (pg_name (i := 5) scSh.nd rfl (Or.inl rfl))
        (pss_one (ps_set (i := 4) scSh.nd rfl (.inr rfl)
          (pe_lc (own := [("k", 6)]) (g := gName 6) (by rfl) scSh.nd (pi_range1 (by rfl) T.range (pa_cons (pe_op op_add (pv 2) pe_int) pa_nil))
            (blkOk_by (own := [("k", 6)]) (N := nSh) (sc := defScope sShare) (by decide +kernel))
            (fun _ _ _ _ _ => pg_name (i := 6) scSh.nd rfl (Or.inr rfl)) (fun _ _ _ _ _ => pts_nil)
            (fun _ _ _ _ _ => pe_callB (sumK K) (by rfl) T.sum PyProof.Rows.boot_sum (pa_cons
              (pe_lc (own := [("z", 7)]) (g := gName 7) (by rfl) scSh.nd (pi_range1 (by rfl) T.range (pa_cons (pe_op op_add (pe_callB (call_min2 (by rfl)) (by rfl) T.min PyProof.Rows.boot_min (pa_cons (pv 0) (pa_cons (pv 6) pa_nil))) pe_int) pa_nil))
                (blkOk_by (own := [("z", 7)]) (N := nSh) (by kernel_rfl))
                (fun _ _ _ _ _ => pg_name (i := 7) scSh.nd rfl (Or.inl rfl)) (fun _ _ _ _ _ => pts_nil)
                (fun _ _ _ _ _ => pe_op op_mulW (pe_ix (ixK K) (pe_ix (ixK K) (pv 3) (pv 6) (fun _ _ => rfl)) (pv 7) (fun _ _ => rfl)) (pe_ix (ixK K) (pv 4) (pe_op op_sub (pv 6) (pv 7)) (fun _ _ => rfl)))) pa_nil))))))
      (pss_one (ps_ret (pe_ix ix_list (pv 4) (pv 2) (fun _ _ => rfl))))), ?_⟩
    refine ⟨_, rfl, r, rfl, by omega, fun H1 pr as s1 npr hP hl hA => ?_⟩
    refine ⟨(by show 1 ≤ sizeLine; decide), fun l1 h1 => ⟨(by show 1 ≤ sizeLine; decide), fun l2 h2 => ?_⟩⟩
    refine ⟨_, rfl, l2, (r : Int), _, rfl, rfl, upd_same, by omega, by omega, sl_small (by simp; omega), fun l3 h3 => ?_⟩
    have n12 : l1 ≠ l2 := ne_of_none upd_same h2
    have n13 : l1 ≠ l3 := ne_of_none (by rw [upd_ne n12]; exact upd_same) h3
    refine ⟨l1, l3, _, _, rfl, rfl, by rw [upd_ne n13, upd_ne n12]; exact upd_same, upd_same, sl_small (by simp; omega), fun wa hwa => ?_⟩
    refine ⟨(by show 2 ≤ sizeLine; decide), fun tp htp => ?_⟩
    refine ⟨tp, _, rfl, SqT.of upd_same, rfl, _, _, rfl, _, _, rfl, rfl, ?_⟩
    have nwt : wa ≠ tp := ne_of_none upd_same htp
    generalize hH4 : L2.upd (L2.upd _ wa _) tp _ = H4
    have s4 : Same H1 H4 := by
      rw [← hH4]
      exact Same.new (Same.new (Same.new (Same.new (Same.new (Same.refl _) h1) h2) h3) hwa) htp
    have hW : H4 wa = some (.lst (waysV b 0 r)) := by
      rw [← hH4, upd_ne nwt, upd_same, Int.toNat_natCast, waysV_zero b r]
    have hP4 := s4 _ _ hP
    have hA4 : ∀ i a, as[i]? = some a → H4 a = some (.lst (rowV i)) := fun i a e => s4 _ _ (hA i a e)
    have s04 := s1.trans s4
    clear hH4 htp nwt hwa n13 h3 n12 h2 h1 hP hA s4 s1 npr
    refine ⟨_, rfl, (many : Int), rfl, by omega, by omega, for_range (lo := 0) (n := (many : Int).toNat) (fun i σ H' => ∃ (wa : Addr) (vb : Option V), σ = [some (vN b), some (vN many), some (vN r), some (.ref pr), some (.ref wa), vb, none, none] ∧ Same H4 H' ∧
        H' wa = some (.lst (waysV b i r))) ⟨wa, none, rfl, Same.refl _, hW⟩ ?_ ?_⟩
    · rintro i σ H5 hi ⟨wi, vb, rfl, s5, hWi⟩
      have hi' : i < many := by omega
      refine ⟨_, rfl, _, _, rfl, rfl, _, rfl, by omega, by omega, fun D hD => ?_⟩
      have er : ((r : Int) + 1).toNat = r + 1 := by omega
      refine lc_range (lo := 0) (n := ((r : Int) + 1).toNat) (fun j H' => Same H5 H' ∧ H' D = some (.lst ((List.range j).map fun k => vN (fS b (i + 1) k)))) ⟨Same.new (Same.refl _) hD, upd_same⟩ ?_ ?_
      · rintro j H6 hj ⟨s6, hD6⟩
        have hj' : j ≤ r := by omega
        refine ⟨rfl, ?_⟩
        have eM : (if 0 + (j : Int) < (b : Int) then 0 + (j : Int) else (b : Int)) = ((min b j : Nat) : Int) := by split <;> omega
        have eT : ((if 0 + (j : Int) < (b : Int) then 0 + (j : Int) else (b : Int)) + 1).toNat = min b j + 1 := by rw [eM]; omega
        refine ⟨_, rfl, _, rfl, _, _, rfl, _, _, rfl, rfl, _, rfl, by rw [eM]; omega, by rw [eM]; omega, fun D2 hD2 => ?_⟩
        have hWi6 := s6 _ _ hWi
        have hP6 := s6 _ _ (s5 _ _ hP4)
        obtain ⟨aj, haj⟩ : ∃ a, as[j]? = some a := ⟨as[j]'(by omega), List.getElem?_eq_getElem _⟩
        have hR6 : H6 aj = some (.lst (rowV j)) := s6 _ _ (s5 _ _ (hA4 j aj haj))
        have nD : D ≠ D2 := ne_of_none hD6 hD2
        refine lc_range (lo := 0) (n := ((if 0 + (j : Int) < (b : Int) then 0 + (j : Int) else (b : Int)) + 1).toNat) (fun z H' => H' = L2.upd H6 D2 (.lst ((List.range z).map fun z => vN (binom j z * fS b i (j - z))))) rfl ?_ ?_
        · rintro z H7 hz rfl
          rw [eT] at hz
          refine ⟨rfl, ?_⟩
          have up : ∀ {a : Addr} {o o' : HO}, H6 a = some o → (L2.upd H6 D2 o') a = some o := fun {a o o'} e => by rw [upd_ne (ne_of_none e hD2)]; exact e
          refine ⟨_, rfl, _, rfl, pr, _, _, .ref aj, rfl, rfl, SqL.of (up hP6), at_of (j := j) (by omega) (nth_map haj), ?_⟩
          refine ⟨_, rfl, aj, rowV j, _, vN (binom j z), rfl, rfl, SqL.of (up hR6), at_of (j := z) (by omega) (rowV_at (by omega)), ?_⟩
          refine ⟨_, rfl, _, rfl, _, rfl, _, _, rfl, rfl, wi, waysV b i r, _, vN (fS b i (j - z)), rfl, rfl, SqL.of (up hWi6), at_of (j := j - z) (by omega) (waysV_at (by omega)), ?_⟩
          refine ⟨_, _, rfl, rfl, wide_mul (lt_pow_of (b := 201) (binom_bits (by omega)) (by decide)) (lt_pow_of (b := 1201) (fS_bits (by omega) (by omega)) (by decide)) (by decide) (by decide) (by decide), ?_⟩
          refine ⟨_, upd_same, sl_lt (by simp; omega), ?_⟩
          rw [upd_upd, map_range_succ, ← mul_cast]
        · rintro H7 rfl
          rw [eT]
          refine ⟨D2, (List.range (min b j + 1)).map fun z => ((binom j z * fS b i (j - z) : Nat) : Int), rfl, SqL.of ?_, ?_⟩
          · rw [upd_same, List.map_map]
            rfl
          · refine ⟨_, by rw [upd_ne nD]; exact hD6, sl_lt (by simp; omega), ?_⟩
            refine ⟨Same.upd (Same.new s6 hD2) hD, ?_⟩
            rw [upd_same, sum_map_cast, map_range_succ (fun k => vN (fS b (i + 1) k))]
            rfl
      · rintro H6 ⟨s6, hD6⟩
        rw [er] at hD6
        exact ⟨D, _, rfl, s5.trans s6, hD6⟩
    · rintro σ H5 ⟨wi, vb, rfl, s5, hWi⟩
      rw [Int.toNat_natCast] at hWi
      exact ⟨_, rfl, _, rfl, wi, _, (r : Int), _, rfl, rfl, SqL.of hWi, atI_nat (waysV_at (Nat.le_refl r)), k H5 (s04.trans s5)⟩
end
end Sh
namespace Sh
open PySem L2 Cnt
def mostN (b many r m : Nat) : Nat := binom many (min many m) * fS b (min many m) (min r (b * min many m))
def spPour : Sp := fun vs H Q _ => ∃ b many r m : Nat, vs = [.int b, .int many, .int r, .int m] ∧ b ≤ 64 ∧ many ≤ 64 ∧ r ≤ 200 ∧ ∀ H' : Hp, Same H H' → Q (vN (mostN b many r m)) H'
def spChoi : Sp := fun vs H Q _ => ∃ many w : Nat, vs = [.int many, .int w] ∧ many ≤ 64 ∧ w ≤ many ∧ ∀ H' : Hp, Same H H' → Q (vN (binom many w)) H'
theorem min_int (a b : Nat) : (if (b : Int) < (a : Int) then (b : Int) else (a : Int)) = ((min a b : Nat) : Int) := by split <;> omega
section
variable {P : Program} {w : World} {K : PySem.W.Frag} {mg : Str → Option Value} {base : Heap}
theorem scP : FnScope ["b", "many", "records", "m", "w"] ["b", "many", "records", "m"] (defScope sPour) := ⟨rfl, rfl, rfl, by decide +kernel, rfl, by decide +kernel, by decide +kernel⟩
theorem ok_pour {f fC fS : Addr} {fd fdC fdS : FuncData} (F : Fun K "pour_most" "pour_most" sPour f fd) (T : Txt mg) (DC : Hd K mg "chosen" sChosen ["many"] fC fdC) (DS : Hd K mg "share_count" sShare ["b", "many", "records"] fS fdS) :
    FnOk P w K mg base CX0 3 f fd ["b", "many", "records", "m"] spPour := by
  have GC : FnOk P w K mg base CX0 1 fC fdC ["many"] spChosen := ok_chosen DC.fn T
  have GS : FnOk P w K mg base CX0 2 fS fdS ["b", "many", "records"] spShare := ok_share DS.fn T DC
  refine F.ok scP (fun vs H Q E h => ?_) (fun cdv A outer s H vs Q E hr h => ?_)
  · obtain ⟨b, many, r, m, rfl, _⟩ := h
    rfl
  · obtain ⟨b, many, r, m, rfl, hb, hm, hrr, k⟩ := h
    refine ⟨_, pss_cons (ps_set (i := 4) scP.nd rfl (.inl rfl) (pe_callB (call_min2 (by rfl)) (by rfl) T.min PyProof.Rows.boot_min (pa_cons (pv 1) (pa_cons (pv 3) pa_nil))))
      (pss_one (ps_ret (pe_op op_mulW (pe_ix ix_list (pe_ix ix_list (pe_call GC (hr.mono (by decide)) rfl DC.mg DC.fn.kp DC.bd .nil pass0 (pa_cons (pv 1) pa_nil)) (pv 1) (fun _ _ => rfl)) (pv 4) (fun _ _ => rfl))
        (pe_call GS hr rfl DS.mg DS.fn.kp DS.bd .nil pass0 (pa_cons (pv 0) (pa_cons (pv 4) (pa_cons (pe_callB (call_min2 (by rfl)) (by rfl) T.min PyProof.Rows.boot_min (pa_cons (pv 2) (pa_cons (pe_op op_mul (pv 0) (pv 4)) pa_nil))) pa_nil))))))), ?_⟩
    refine ⟨_, rfl, _, rfl, _, _, rfl, ?_⟩
    rw [min_int]
    refine ⟨_, rfl, many, rfl, by omega, fun H1 p as s1 hp hP hl hA => ?_⟩
    obtain ⟨a, ha⟩ : ∃ a, as[many]? = some a := ⟨as[many]'(by omega), List.getElem?_eq_getElem _⟩
    refine ⟨_, rfl, p, _, (many : Int), .ref a, rfl, rfl, SqL.of hP, atI_nat (nth_map ha), ?_⟩
    refine ⟨_, rfl, a, _, ((min many m : Nat) : Int), vN (binom many (min many m)), rfl, rfl, SqL.of (hA _ _ ha), atI_nat (rowV_at (Nat.min_le_left _ _)), ?_⟩
    refine ⟨_, rfl, _, rfl, _, rfl, _, rfl, _, rfl, _, _, rfl, rfl, .inl ⟨by omega, by omega⟩, _, _, rfl, b, min many m, min r (b * min many m), ?_, by omega, by omega, by omega, fun H2 s2 => ?_⟩
    · show [V.int b, V.int ((min many m : Nat) : Int), V.int (if (b : Int) * ((min many m : Nat) : Int) < (r : Int) then (b : Int) * ((min many m : Nat) : Int) else (r : Int))] ++ [] = _
      rw [← Int.natCast_mul, min_int]
      rfl
    · refine ⟨_, _, rfl, rfl, wide_mul (lt_pow_of (b := 201) (binom_bits (by omega)) (by decide)) (lt_pow_of (b := 1201) (fS_bits (by omega) (by omega)) (by decide)) (by decide) (by decide) (by decide), ?_⟩
      dsimp only
      rw [mul_cast]
      exact k H2 (s1.trans s2)
theorem scCh : FnScope ["_law_many", "_law_w", "_law_found", "_law_at"] ["_law_many", "_law_w"] (defScope sChoi) := ⟨rfl, rfl, rfl, by decide +kernel, rfl, by decide +kernel, by decide +kernel⟩
theorem ok_choi {f : Addr} {fd : FuncData} (F : Fun K "_law_choices" "_law_choices" sChoi f fd) (T : Txt mg) : FnOk P w K mg base CX0 1 f fd ["_law_many", "_law_w"] spChoi := by
  refine F.ok scCh (fun vs H Q E h => ?_) (fun cdv A outer s H vs Q E hr h => ?_)
  · obtain ⟨many, w, rfl, _⟩ := h
    rfl
  · obtain ⟨many, w, rfl, hm, hw, k⟩ := h
    refine ⟨_, pss_cons (ps_set (i := 2) scCh.nd rfl (.inl rfl) pe_int)
      (pss_cons (ps_for PassesOwn.never rfl (pi_range1 (by rfl) T.range (pa_cons (pv 1) pa_nil)) (pg_name (i := 3) scCh.nd rfl (Or.inl rfl))
        (pss_one (ps_set (i := 2) scCh.nd rfl (.inl rfl) (pe_op op_fdivW (pe_op op_mul (pv 2) (pe_op op_sub (pv 0) (pv 3))) (pe_op op_add (pv 3) pe_int)))))
      (pss_one (ps_ret (pv 2)))), ?_⟩
    refine ⟨_, rfl, (w : Int), rfl, by omega, by omega, for_range (lo := 0) (n := (w : Int).toNat) (fun i σ H' => H' = H ∧ ∃ v, σ = [some (vN many), some (vN w), some (vN (binom many i)), v]) ⟨rfl, none, ?_⟩ ?_ ?_⟩
    · rw [binom_zero]
      rfl
    · rintro i σ H' hi ⟨rfl, v, rfl⟩
      have hi' : i < w := by omega
      refine ⟨_, rfl, _, rfl, _, rfl, _, _, rfl, rfl, _, _, rfl, rfl, .inr ⟨by omega, by omega⟩, _, rfl, _, _, rfl, rfl, _, _, rfl, rfl, wide_div (b := 8) (by omega) (by omega) (by decide) (by decide), rfl, some (.int (0 + (i : Int))), ?_⟩
      have e1 : (many : Int) - (0 + (i : Int)) = ((many - i : Nat) : Int) := by omega
      have e2 : 0 + (i : Int) + 1 = ((i + 1 : Nat) : Int) := by omega
      have e3 : V.int ((binom many i : Int) * ((many : Int) - (0 + (i : Int))) / (0 + (i : Int) + 1)) = vN (binom many (i + 1)) := by
        rw [e1, e2, ← Int.natCast_mul, ← Int.natCast_ediv, binom_div many i (by omega)]
      show [some (vN many), some (vN w), some (V.int ((binom many i : Int) * ((many : Int) - (0 + (i : Int))) / (0 + (i : Int) + 1))), _] = _
      rw [e3]
    · rintro σ H' ⟨rfl, v, rfl⟩
      rw [Int.toNat_natCast]
      exact ⟨_, rfl, k _ (Same.refl _)⟩
end
end Sh
namespace Sh
open PySem L2 Cnt
theorem dAll_ints {K : PySem.W.Frag} {H : Hp} : ∀ ns : List Int, DpAll K H (ns.map V.int) (ns.map PyData.int)
  | [] => .nil
  | n :: ns => .cons (.int n) (dAll_ints ns)
theorem canLay_ints : ∀ ns : List Int, PyData.canLayAll0 (ns.map PyData.int) = true
  | [] => by rw [List.map_nil, PyData.canLayAll0]
  | n :: ns => by rw [List.map_cons, PyData.canLayAll0, PyData.canLay0, canLay_ints ns]; rfl
theorem depth_ints : ∀ ns : List Int, PyData.depthAll (ns.map PyData.int) = 0
  | [] => by rw [List.map_nil, PyData.depthAll]
  | n :: ns => by rw [List.map_cons, PyData.depthAll, PyData.depth, depth_ints ns]; rfl
theorem shaped_ints (ns : List Int) : SeqAt.shaped (.list (ns.map PyData.int)) = true := by
  unfold SeqAt.shaped
  rw [PyData.canLay0, canLay_ints, PyData.depth, depth_ints]
  rfl
theorem eqv_ints_nil (ns : List Int) : PyData.eqv (.list (ns.map PyData.int)) (.list (([] : List Int).map PyData.int)) = ns.isEmpty := by
  cases ns with
  | nil => rw [PyData.eqv, List.map_nil, PyData.eqvAll]; rfl
  | cons n ns => rw [PyData.eqv, List.map_nil, List.map_cons, PyData.eqvAll]; rfl
theorem eqv_ints_self (ns : List Int) : PyData.eqv (.list (ns.map PyData.int)) (.list (ns.map PyData.int)) = true := by
  rw [PyData.eqv]
  induction ns with
  | nil => rw [List.map_nil, PyData.eqvAll]
  | cons n ns ih => rw [List.map_cons, PyData.eqvAll, ih, PyData.eqv, beq_self_eq_true]; rfl
structure Deal (H : Hp) (d c : Addr) (ns : List Int) (z : Int) : Prop where
  hd : H d = some (.lst [.ref c, .int z])
  hc : H c = some (.lst (ns.map V.int))
  ne : d ≠ c
  len : ns.length ≤ 100
  lo : 0 ≤ z
  hi : z < 2147483647
def But (d c : Addr) (H H' : Hp) : Prop := ∀ b o, H b = some o → b ≠ d → b ≠ c → H' b = some o
theorem But.refl (d c : Addr) (H : Hp) : But d c H H := fun _ _ e _ _ => e
theorem But.trans {d c : Addr} {H H1 H2 : Hp} (a : But d c H H1) (b : But d c H1 H2) : But d c H H2 := fun x o e h1 h2 => b x o (a x o e h1 h2) h1 h2
theorem But.same {d c : Addr} {H H1 H2 : Hp} (a : But d c H H1) (b : Same H1 H2) : But d c H H2 := fun x o e h1 h2 => b x o (a x o e h1 h2)
theorem But.of {d c : Addr} {H H1 : Hp} (b : Same H H1) : But d c H H1 := fun x o e _ _ => b x o e
theorem But.updD {d c : Addr} {H H1 : Hp} {o : HO} (a : But d c H H1) : But d c H (L2.upd H1 d o) := fun x u e h1 h2 => by rw [upd_ne h1]; exact a x u e h1 h2
theorem But.updC {d c : Addr} {H H1 : Hp} {o : HO} (a : But d c H H1) : But d c H (L2.upd H1 c o) := fun x u e h1 h2 => by rw [upd_ne h2]; exact a x u e h1 h2
theorem Deal.same {H H' : Hp} {d c : Addr} {ns : List Int} {z : Int} (D : Deal H d c ns z) (s : Same H H') : Deal H' d c ns z := ⟨s _ _ D.hd, s _ _ D.hc, D.ne, D.len, D.lo, D.hi⟩
theorem last_at {α : Type} (xs : List α) (x : α) : (xs ++ [x])[(xs ++ [x]).length - 1]? = some x := by
  rw [List.length_append, List.length_singleton, Nat.add_sub_cancel, List.getElem?_append_right (Nat.le_refl _), Nat.sub_self]
  rfl
theorem Deal.popped {H : Hp} {d c : Addr} {ns : List Int} {n z : Int} (D : Deal H d c (ns.concat n) z) : Deal (L2.upd H c (.lst (ns.map V.int ++ [V.int n]).dropLast)) d c ns z := by
  refine ⟨by rw [upd_ne D.ne]; exact D.hd, ?_, D.ne, ?_, D.lo, D.hi⟩
  · rw [upd_same, List.dropLast_concat]
  · have := D.len
    rw [List.length_concat] at this
    omega
theorem Deal.pushed {H : Hp} {d c : Addr} {ns : List Int} {y z : Int} (D : Deal H d c ns z) (hl : ns.length + 1 ≤ 100) : Deal (L2.upd H c (.lst (ns.map V.int ++ [V.int y]))) d c (ns ++ [y]) z := by
  refine ⟨by rw [upd_ne D.ne]; exact D.hd, ?_, D.ne, ?_, D.lo, D.hi⟩
  · rw [upd_same, List.map_append]
    rfl
  · rw [List.length_append, List.length_singleton]
    exact hl
theorem Deal.blended {H : Hp} {d c : Addr} {ns : List Int} {y z : Int} (D : Deal H d c ns z) (h0 : 0 ≤ y) (h1 : y < 2147483647) : Deal (L2.upd H d (.lst [.ref c, .int y])) d c ns y :=
  ⟨upd_same, by rw [upd_ne D.ne.symm]; exact D.hc, D.ne, D.len, h0, h1⟩
def spAny : Sp := fun vs H Q _ => ∃ (d c : Addr) (ns : List Int) (z : Int) (bd : Nat), vs = [.ref d, .int bd] ∧ Deal H d c ns z ∧ 0 < bd ∧ bd ≤ 1000000 ∧
  ∀ (H' : Hp) (ns' : List Int) (z' : Int) (r : Nat), Deal H' d c ns' z' → But d c H H' → r < bd → Q (vN r) H'
section
variable {P : Program} {w : World} {K : PySem.W.Frag} {mg : Str → Option Value} {base : Heap}
theorem mod_nat (a : Int) {b : Nat} (h : 0 < b) : ∃ r : Nat, r < b ∧ a % (b : Int) = (r : Int) := by
  have h1 := Int.emod_nonneg a (show (b : Int) ≠ 0 by omega)
  have h2 := Int.emod_lt_of_pos a (show (0 : Int) < b by omega)
  exact ⟨(a % (b : Int)).toNat, by omega, by omega⟩
theorem at2a (x y : V) : atI [x, y] 0 = some x := rfl
theorem at2b (x y : V) : atI [x, y] 1 = some y := rfl
theorem scA : FnScope ["_law_deal", "_law_bound", "_law_rest"] ["_law_deal", "_law_bound"] (defScope sAny) := ⟨rfl, rfl, rfl, by decide +kernel, rfl, by decide +kernel, by decide +kernel⟩
theorem ok_any {f : Addr} {fd : FuncData} (F : Fun K "_law_any" "_law_any" sAny f fd) (T : Txt mg) : FnOk P w K mg base CX0 1 f fd ["_law_deal", "_law_bound"] spAny := by
  refine F.ok scA (fun vs H Q E h => ?_) (fun cdv A outer s H vs Q E hr h => ?_)
  · obtain ⟨d, c, ns, z, bd, rfl, _⟩ := h
    rfl
  · obtain ⟨d, c, ns, z, bd, rfl, D, hb0, hb1, k⟩ := h
    refine ⟨_, pss_cons (ps_while PassesOwn.never (PW.pt (pw_and (pt_cmpR (op_neD hr.units) (pe_ix ix_list (pv 0) pe_int (fun _ _ => rfl)) (pe_lst pa_nil) (nomark _))
          (pw_and1 (pt_cmpR op_eq (pe_ix ix_list (pe_ix ix_list (pv 0) pe_int (fun _ _ => rfl)) (pe_un un_neg pe_int) (fun _ _ => rfl)) pe_int (nomark _)))))
        (pss_one (ps_expr (pe_bm0 PySem.F.plainAttrs_list PySem.F.slot_list_pop PySem.F.type_list_pop mt_pop (pe_ix ix_list (pv 0) pe_int (fun _ _ => rfl))))))
      (pss_cons (ps_if (pt_cmpR (op_neD hr.units) (pe_ix ix_list (pv 0) pe_int (fun _ _ => rfl)) (pe_lst pa_nil) (nomark _))
        (pss_cons (ps_set (i := 2) scA.nd rfl (.inl rfl) (pe_callTy call_int1 (by rfl) T.int PyProof.Rows.boot_int (pa_cons (pe_bm0 PySem.F.plainAttrs_list PySem.F.slot_list_pop PySem.F.type_list_pop mt_pop (pe_ix ix_list (pv 0) pe_int (fun _ _ => rfl))) pa_nil)))
        (pss_cons (ps_expr (pe_bm PySem.F.plainAttrs_list PySem.F.slot_list_append PySem.F.type_list_append mt_append (pe_ix ix_list (pv 0) pe_int (fun _ _ => rfl)) (pa_cons (pe_op op_fdiv (pv 2) (pv 1)) pa_nil)))
        (pss_one (ps_ret (pe_op op_mod (pv 2) (pv 1)))))) pss_nil)
      (pss_cons (ps_asg (pe_op op_mod (pe_callTy call_int1 (by rfl) T.int PyProof.Rows.boot_int (pa_cons (pe_op op_add (pe_op op_mul (pe_ix ix_list (pv 0) pe_int (fun _ _ => rfl)) pe_int) pe_int) pa_nil)) pe_int) (pg_sub (pv 0) pe_int set_list))
      (pss_one (ps_ret (pe_op op_mod (pe_callTy call_int1 (by rfl) T.int PyProof.Rows.boot_int (pa_cons (pe_op op_fdiv (pe_ix ix_list (pv 0) pe_int (fun _ _ => rfl)) pe_int) pa_nil)) (pv 1)))))), ?_⟩
    refine seq_mid (fun σ H2 => ∃ ns1 : List Int, σ = [some (.ref d), some (vN bd), none] ∧ Deal H2 d c ns1 z ∧ But d c H H2) (fun behind => ?_) ?_
    · refine ⟨fun m σ H' => ∃ ns' : List Int, σ = [some (.ref d), some (vN bd), none] ∧ Deal H' d c ns' z ∧ But d c H H' ∧ m = ns'.length, ⟨_, ns, rfl, D, But.refl d c H, rfl⟩, ?_⟩
      rintro m σ H1 ⟨ns1, rfl, D1, B1, rfl⟩
      refine ⟨_, rfl, d, _, 0, .ref c, rfl, rfl, SqL.of D1.hd, at2a _ _, (by show 0 ≤ sizeLine; decide), fun l hl => ?_⟩
      have s2 : Same H1 (L2.upd H1 l (.lst [])) := Same.new (Same.refl _) hl
      have D2 := D1.same s2
      refine ⟨_, _, .lst (SqL.of D2.hc) (dAll_ints ns1), .lst (xs := ([] : List Int).map V.int) (SqL.of upd_same) (dAll_ints []), shaped_ints _, shaped_ints _, _, rfl, ?_⟩
      rw [eqv_ints_nil]
      have B2 : But d c H (L2.upd H1 l (.lst [])) := B1.same s2
      generalize L2.upd H1 l (.lst []) = H2 at D2 B2
      clear s2 hl l D1 B1 D
      rcases List.eq_nil_or_concat ns1 with rfl | ⟨ns0, n0, rfl⟩
      · refine iteF ?_
        refine iteF ?_
        exact behind _ _ ⟨[], rfl, D2, B2⟩
      · have ee : (ns0.concat n0).isEmpty = false := by simp
        rw [ee]
        refine iteT ?_
        have hC : H2 c = some (.lst (ns0.map V.int ++ [V.int n0])) := by
          rw [D2.hc]
          simp
        refine ⟨_, rfl, d, _, 0, .ref c, rfl, rfl, SqL.of D2.hd, at2a _ _, 1, rfl, c, _, -1, V.int n0, rfl, rfl, SqL.of hC, atI_last _ _, rfl, _, rfl, ?_⟩
        by_cases e0 : n0 = 0
        · subst e0
          rw [decide_eq_true rfl]
          refine iteT ⟨fun σ' H' => ∃ ns' : List Int, σ' = [some (.ref d), some (vN bd), none] ∧ Deal H' d c ns' z ∧ But d c H H' ∧ ns'.length = ns0.length, ?_, ?_⟩
          · rintro σ' H' ⟨ns', rfl, D', B', hl'⟩
            exact ⟨ns'.length, by rw [hl', List.length_concat]; omega, ns', rfl, D', B', rfl⟩
          · refine ⟨_, rfl, d, _, 0, .ref c, rfl, rfl, SqL.of D2.hd, at2a _ _, .inl ⟨rfl, _, SqL.of hC⟩, c, _, .int 0, rfl, rfl, hC, last_at _ _, ?_⟩
            exact ⟨ns0, rfl, D2.popped, B2.updC, rfl⟩
        · rw [decide_eq_false fun q => e0 (V.int.inj q)]
          refine iteF ?_
          exact behind _ _ ⟨_, rfl, D2, B2⟩
    · rintro σ H1 ⟨ns1, rfl, D1, B1⟩
      clear D
      refine ⟨_, rfl, d, _, 0, .ref c, rfl, rfl, SqL.of D1.hd, at2a _ _, (by show 0 ≤ sizeLine; decide), fun l hl => ?_⟩
      have s2 : Same H1 (L2.upd H1 l (.lst [])) := Same.new (Same.refl _) hl
      have D2 := D1.same s2
      refine ⟨_, _, .lst (SqL.of D2.hc) (dAll_ints ns1), .lst (xs := ([] : List Int).map V.int) (SqL.of upd_same) (dAll_ints []), shaped_ints _, shaped_ints _, _, rfl, ?_⟩
      rw [eqv_ints_nil]
      have B2 : But d c H (L2.upd H1 l (.lst [])) := B1.same s2
      generalize L2.upd H1 l (.lst []) = H2 at D2 B2
      clear s2 hl l D1 B1
      rcases List.eq_nil_or_concat ns1 with rfl | ⟨ns0, n0, rfl⟩
      · refine iteF ?_
        have zl := D2.lo
        have zh := D2.hi
        refine ⟨_, rfl, d, _, 1, .int z, rfl, rfl, SqL.of D2.hd, at2b _ _, z, 40693, rfl, rfl, .inl ⟨by omega, by omega⟩, _, _, rfl, rfl, .inl ⟨_, rfl, ?_⟩⟩
        refine ⟨_, _, rfl, rfl, (by show (0 : Int) < 2147483647; decide), _, rfl, d, _, 1, 1, rfl, rfl, D2.hd, rfl, ?_⟩
        have D3 := D2.blended (y := (z * 40693 + 71) % 2147483647) (Int.emod_nonneg _ (by decide)) (Int.emod_lt_of_pos _ (by decide))
        have B3 : But d c H (L2.upd H2 d (.lst [.ref c, .int ((z * 40693 + 71) % 2147483647)])) := B2.updD
        refine ⟨_, rfl, d, _, 1, _, rfl, rfl, SqL.of D3.hd, at2b _ _, _, 64, rfl, rfl, ⟨by decide, by decide⟩, .inl ⟨_, rfl, ?_⟩⟩
        obtain ⟨r, hr1, hr2⟩ := mod_nat ((z * 40693 + 71) % 2147483647 / 64) hb0
        refine ⟨_, rfl, _, _, rfl, rfl, (by show (0 : Int) < (bd : Int); omega), ?_⟩
        show Q (V.int ((z * 40693 + 71) % 2147483647 / 64 % (bd : Int))) _
        rw [hr2]
        exact k _ _ _ r D3 B3 hr1
      · have ee : (ns0.concat n0).isEmpty = false := by simp
        rw [ee]
        refine iteT ?_
        have hC : H2 c = some (.lst (ns0.map V.int ++ [V.int n0])) := by
          rw [D2.hc]
          simp
        refine ⟨_, rfl, d, _, 0, .ref c, rfl, rfl, SqL.of D2.hd, at2a _ _, .inl ⟨rfl, _, SqL.of hC⟩, c, _, .int n0, rfl, rfl, hC, last_at _ _, .inl ⟨n0, rfl, ?_⟩⟩
        have D3 := D2.popped
        have B3 : But d c H (L2.upd H2 c (.lst (ns0.map V.int ++ [V.int n0]).dropLast)) := B2.updC
        generalize L2.upd H2 c (.lst (ns0.map V.int ++ [V.int n0]).dropLast) = H3 at D3 B3
        refine ⟨_, rfl, d, _, 0, .ref c, rfl, rfl, SqL.of D3.hd, at2a _ _, .inl ⟨rfl, _, SqL.of D3.hc⟩, _, rfl, _, rfl, _, _, rfl, rfl, ⟨by omega, by omega⟩, c, _, _, rfl, rfl, D3.hc, ?_, ?_⟩
        · have := D3.len
          exact sl_lt (by rw [List.length_map]; omega)
        · obtain ⟨r, hr1, hr2⟩ := mod_nat n0 hb0
          refine ⟨_, rfl, _, rfl, _, _, rfl, rfl, (by show (0 : Int) < (bd : Int); omega), ?_⟩
          show Q (V.int (n0 % (bd : Int))) _
          rw [hr2]
          have hl2 := D2.len
          rw [List.length_concat] at hl2
          exact k _ _ _ r (D3.pushed (y := n0 / (bd : Int)) (by omega)) B3.updC hr1
end
end Sh
namespace Sh
open PySem L2 Cnt
def spOf : Sp := fun vs H Q _ => ∃ (d c p : Addr) (ns : List Int) (z : Int) (xs : List V), vs = [.ref d, .ref p] ∧ Deal H d c ns z ∧ H p = some (.lst xs) ∧ p ≠ d ∧ p ≠ c ∧ 0 < xs.length ∧ xs.length ≤ 1000 ∧
  ∀ (H' : Hp) (ns' : List Int) (z' : Int) (i : Nat) (v : V), Deal H' d c ns' z' → But d c H H' → xs[i]? = some v → Q v H'
def spDraw (K : PySem.W.Frag) : Sp := fun vs H Q _ => ∃ (a : Addr) (ns : List Int), vs = [.ref a, .int 63] ∧ SqL K H a (ns.map V.int) ∧ ns.length ≤ 63 ∧
  ∀ (H' : Hp) (d c : Addr) (ns' : List Int) (z' : Int), Same H H' → H d = none → H c = none → Deal H' d c ns' z' → Q (.ref d) H'
theorem cut_ints (ns : List Int) (lo hi : Option Int) : ∃ ms : List Int, cutV (ns.map V.int) lo hi = ms.map V.int ∧ ms.length ≤ ns.length := by
  refine ⟨(ns.drop (HT.sIx (ns.map V.int).length 0 lo)).take (HT.sIx (ns.map V.int).length (ns.map V.int).length hi - HT.sIx (ns.map V.int).length 0 lo), ?_, ?_⟩
  · unfold cutV
    rw [List.map_take, List.map_drop]
  · rw [List.length_take, List.length_drop]
    omega
def absI (n : Int) : Int := if n < 0 then -n else n
theorem take_nextD {α : Type} {l : List α} {i : Nat} {x : α} (h : l[i]? = some x) : l.take (i + 1) = l.take i ++ [x] := by
  rw [List.take_add_one, h]
  rfl
theorem nth_ints {ns : List Int} {i : Nat} {x : V} (h : (ns.map V.int)[i]? = some x) : ∃ n, ns[i]? = some n ∧ x = V.int n := by
  rw [List.getElem?_map] at h
  cases e : ns[i]? with
  | none => rw [e] at h; cases h
  | some n => rw [e] at h; exact ⟨n, rfl, (Option.some.inj h).symm⟩
abbrev nDr : List Str := ["_law_script", "_law_salt", "_law_cell", "_law_cells", "_law_blend"]
section
variable {P : Program} {w : World} {K : PySem.W.Frag} {mg : Str → Option Value} {base : Heap}
theorem scO : FnScope ["_law_deal", "_law_some"] ["_law_deal", "_law_some"] (defScope sOf) := ⟨rfl, rfl, rfl, by decide +kernel, rfl, by decide +kernel, by decide +kernel⟩
theorem ok_of {f fA : Addr} {fd fdA : FuncData} (F : Fun K "_law_of" "_law_of" sOf f fd) (T : Txt mg) (DA : Hd K mg "_law_any" sAny ["_law_deal", "_law_bound"] fA fdA) : FnOk P w K mg base CX0 2 f fd ["_law_deal", "_law_some"] spOf := by
  have GA : FnOk P w K mg base CX0 1 fA fdA ["_law_deal", "_law_bound"] spAny := ok_any DA.fn T
  refine F.ok scO (fun vs H Q E h => ?_) (fun cdv A outer s H vs Q E hr h => ?_)
  · obtain ⟨d, c, p, ns, z, xs, rfl, _⟩ := h
    rfl
  · obtain ⟨d, c, p, ns, z, xs, rfl, D, hp, npd, npc, h0, h1, k⟩ := h
    refine ⟨_, pss_one (ps_ret (pe_ix ix_list (pv 1) (pe_call GA hr rfl DA.mg DA.fn.kp DA.bd .nil pass0 (pa_cons (pv 0) (pa_cons (pe_callB call_len_seq (by rfl) T.len PySem.boot_len (pa_cons (pv 1) pa_nil)) pa_nil))) (fun _ _ => rfl))), ?_⟩
    refine ⟨_, rfl, _, rfl, _, rfl, p, xs, rfl, .inl (SqL.of hp), d, c, ns, z, xs.length, rfl, D, h0, by omega, fun H1 ns1 z1 r D1 B1 hr1 => ?_⟩
    obtain ⟨v, hv⟩ : ∃ v, xs[r]? = some v := ⟨xs[r], List.getElem?_eq_getElem hr1⟩
    exact ⟨p, xs, (r : Int), v, rfl, rfl, SqL.of (B1 _ _ hp npd npc), atI_nat hv, k H1 ns1 z1 r v D1 B1 hv⟩
theorem scD : FnScope nDr ["_law_script", "_law_salt"] (defScope sDraw) := ⟨rfl, rfl, rfl, by decide +kernel, rfl, by decide +kernel, by decide +kernel⟩
theorem boot_abs : bootBuiltins "abs" = some (.builtin "abs") := by decide +kernel
theorem ok_draw {f : Addr} {fd : FuncData} (F : Fun K "_law_draw" "_law_draw" sDraw f fd) (T : Txt mg) : FnOk P w K mg base CX0 1 f fd ["_law_script", "_law_salt"] (spDraw K) := by
  refine F.ok scD (fun vs H Q E h => ?_) (fun cdv A outer s H vs Q E hr h => ?_)
  · obtain ⟨a, ns, rfl, _⟩ := h
    rfl
  · obtain ⟨a, ns, rfl, hS, hl, k⟩ := h
    refine ⟨_, pss_cons (ps_setLc (i := 3) (own := [("_law_cell", 2)]) (g := gName 2) (by rfl) scD.nd rfl rfl (sw_true rfl rfl rfl (by decide +kernel)) (pi_list (pe_slice sl_list (pv 0) po_none (po_some pe_int)))
        (blkOk_by (own := [("_law_cell", 2)]) (N := nDr) (sc := defScope sDraw) (by decide +kernel))
        (fun _ _ _ _ _ => pg_name (i := 2) scD.nd rfl (Or.inl rfl)) (fun _ _ _ _ _ => pts_nil)
        (fun _ _ _ _ _ => pe_callB call_abs (by rfl) T.abs boot_abs (pa_cons (pe_callTy call_int1 (by rfl) T.int PyProof.Rows.boot_int (pa_cons (pv 2) pa_nil)) pa_nil)))
      (pss_cons (ps_set (i := 4) scD.nd rfl (.inl rfl) (pe_op op_add pe_int (pe_op op_mul pe_int (pv 1))))
      (pss_cons (ps_for PassesOwn.never rfl (pi_list (pv 3)) (pg_name (i := 2) scD.nd rfl (Or.inl rfl))
        (pss_one (ps_set (i := 4) scD.nd rfl (.inl rfl) (pe_op op_mod (pe_callTy call_int1 (by rfl) T.int PyProof.Rows.boot_int (pa_cons (pe_op op_add (pe_op op_add (pe_op op_mul (pv 4) pe_int) (pe_op op_mod (pv 2) pe_int)) pe_int) pa_nil)) pe_int))))
      (pss_one (ps_ret (pe_lst (pa_cons (pe_revL (pe_lc (own := [("_law_cell", 2)]) (g := gName 2) (by rfl) scD.nd (pi_list (pv 3))
          (blkOk_by (own := [("_law_cell", 2)]) (N := nDr) (sc := defScope sDraw) (by decide +kernel))
          (fun _ _ _ _ _ => pg_name (i := 2) scD.nd rfl (Or.inl rfl)) (fun _ _ _ _ _ => pts_one (pt_cmpR op_ge (pv 2) (pe_op op_pow pe_int pe_int) (nomark _)))
          (fun _ _ _ _ _ => pv 2))) (pa_cons (pv 4) pa_nil))))))), ?_⟩
    obtain ⟨ms, em, lm⟩ := cut_ints ns none (some 48)
    refine ⟨_, rfl, 48, rfl, a, _, rfl, hS, fun p hp => ?_⟩
    rw [em]
    refine ⟨p, rfl, ⟨_, SqL.of upd_same⟩, fun D hD => ?_⟩
    have npD : p ≠ D := ne_of_none upd_same hD
    have hD0 : H D = none := by
      rw [upd_ne npD.symm] at hD
      exact hD
    refine lc_list (K := K) (a := p) (xs := ms.map V.int) (fun i H' => H' = L2.upd (L2.upd H p (.lst (ms.map V.int))) D (.lst (((ms.take i).map absI).map V.int))) rfl ?_ ?_ ?_
    · rintro i H' _ rfl
      exact SqL.of (by rw [upd_ne npD, upd_same])
    · rintro i x H' hx rfl
      obtain ⟨n, hn, rfl⟩ := nth_ints hx
      have hi := nth_lt hn
      refine ⟨rfl, _, rfl, .inl ⟨n, rfl, n, rfl, _, upd_same, ?_, ?_⟩⟩
      · exact sl_lt (by rw [List.length_map, List.length_map, List.length_take]; omega)
      · rw [upd_upd, take_nextD hn, List.map_append, List.map_append]
        rfl
    · rintro H1 rfl
      rw [List.length_map, List.take_length]
      have s1 : Same H (L2.upd (L2.upd H p (.lst (ms.map V.int))) D (.lst ((ms.map absI).map V.int))) := Same.new (Same.new (Same.refl _) hp) hD
      have hD1 : (L2.upd (L2.upd H p (.lst (ms.map V.int))) D (.lst ((ms.map absI).map V.int))) D = some (.lst ((ms.map absI).map V.int)) := upd_same
      generalize L2.upd (L2.upd H p (.lst (ms.map V.int))) D (.lst ((ms.map absI).map V.int)) = H1 at s1 hD1
      have lc : (ms.map absI).length ≤ 63 := by rw [List.length_map]; omega
      generalize ms.map absI = cs at hD1 lc
      clear hD npD hp em lm hS
      refine ⟨_, rfl, _, _, rfl, rfl, .inl ⟨by decide, by decide⟩, _, _, rfl, rfl, ?_⟩
      refine ⟨_, rfl, D, rfl, ⟨_, SqL.of hD1⟩, for_list (K := K) (a := D) (xs := cs.map V.int) (fun i σ H' => H' = H1 ∧ ∃ (v : Option V) (z : Int), σ = [some (.ref a), some (.int 63), v, some (.ref D), some (.int z)] ∧ 0 ≤ z ∧ z < 2147483647)
        ⟨rfl, none, 6605846, rfl, by decide, by decide⟩ ?_ ?_ ?_⟩
      · rintro i σ H' _ ⟨rfl, _⟩
        exact SqL.of hD1
      · rintro i x σ H' hx ⟨rfl, v, z, rfl, z0, z1⟩
        obtain ⟨n, hn, rfl⟩ := nth_ints hx
        refine ⟨_, rfl, z, 48271, rfl, rfl, .inl ⟨by omega, by omega⟩, _, rfl, n, 2147483549, rfl, rfl, (by show (0 : Int) < 2147483549; decide), _, _, rfl, rfl, _, _, rfl, rfl, .inl ⟨_, rfl, ?_⟩⟩
        refine ⟨_, _, rfl, rfl, (by show (0 : Int) < 2147483647; decide), rfl, _, _, rfl, ?_, ?_⟩
        · exact Int.emod_nonneg _ (by decide)
        · exact Int.emod_lt_of_pos _ (by decide)
      · rintro σ H3 ⟨rfl, v, z, rfl, z0, z1⟩
        refine ⟨_, rfl, D, rfl, ⟨_, SqL.of hD1⟩, fun D2 hD2 => ?_⟩
        have nD2 : D ≠ D2 := ne_of_none hD1 hD2
        refine lc_list (K := K) (a := D) (xs := cs.map V.int) (fun i H' => ∃ fs : List Int, H' = L2.upd H3 D2 (.lst (fs.map V.int)) ∧ fs.length ≤ i) ⟨[], rfl, Nat.le_refl _⟩ ?_ ?_ ?_
        · rintro i H' _ ⟨fs, rfl, _⟩
          exact SqL.of (by rw [upd_ne nD2]; exact hD1)
        · rintro i x H' hx ⟨fs, rfl, hf⟩
          obtain ⟨n, hn, rfl⟩ := nth_ints hx
          have hi := nth_lt hn
          refine ⟨rfl, _, rfl, 10, 18, rfl, rfl, ⟨by decide, by decide, by decide⟩, _, _, rfl, rfl, _, rfl, ?_⟩
          refine ite2 (fun _ => ?_) (fun _ => ?_)
          · refine ⟨_, rfl, _, upd_same, sl_lt (by rw [List.length_map]; omega), fs ++ [n], ?_, ?_⟩
            · rw [upd_upd, List.map_append]
              rfl
            · rw [List.length_append, List.length_singleton]
              omega
          · exact ⟨fs, rfl, by omega⟩
        · rintro H' ⟨fs, rfl, hf⟩
          rw [List.length_map] at hf
          refine ⟨D2, _, rfl, SqL.of upd_same, fun c hc => ?_⟩
          rw [← List.map_reverse]
          refine ⟨_, rfl, (by show 2 ≤ sizeLine; decide), fun d hd => ?_⟩
          have s2 : Same H (L2.upd (L2.upd H3 D2 (.lst (fs.map V.int))) c (.lst (fs.reverse.map V.int))) := Same.new (Same.new s1 hD2) hc
          have ncd : c ≠ d := ne_of_none upd_same hd
          refine k _ d c fs.reverse z (Same.new s2 hd) (s2.free hd) ((Same.new s1 hD2).free hc) ⟨upd_same, by rw [upd_ne ncd, upd_same], ncd.symm, ?_, z0, z1⟩
          rw [List.length_reverse]
          omega
end
end Sh
namespace Sh
open PySem L2 Cnt
def Tups (H : Hp) (as : List Addr) (ps : List (List Nat)) : Prop := as.map H = ps.map fun p => some (HO.tup (p.map vN))
theorem Tups.nil (H : Hp) : Tups H [] [] := rfl
theorem Tups.len {H : Hp} {as : List Addr} {ps : List (List Nat)} (t : Tups H as ps) : as.length = ps.length := by
  have := congrArg List.length t
  rw [List.length_map, List.length_map] at this
  exact this
theorem Tups.get {H : Hp} {as : List Addr} {ps : List (List Nat)} (t : Tups H as ps) {i : Nat} {a : Addr} (h : as[i]? = some a) : ∃ p, ps[i]? = some p ∧ H a = some (.tup (p.map vN)) := by
  have e : (as.map H)[i]? = (ps.map fun p => some (HO.tup (p.map vN)))[i]? := by rw [t]
  rw [List.getElem?_map, List.getElem?_map, h] at e
  cases q : ps[i]? with
  | none => rw [q] at e; cases e
  | some p => rw [q] at e; exact ⟨p, rfl, Option.some.inj e⟩
theorem Tups.same {H H' : Hp} {as : List Addr} {ps : List (List Nat)} (t : Tups H as ps) (s : Same H H') : Tups H' as ps := by
  unfold Tups
  rw [← t]
  refine List.map_congr_left fun a ha => ?_
  obtain ⟨i, hi⟩ := List.getElem?_of_mem ha
  obtain ⟨p, _, hp⟩ := t.get hi
  rw [hp, s _ _ hp]
theorem Tups.append {H : Hp} {as bs : List Addr} {ps qs : List (List Nat)} (t : Tups H as ps) (u : Tups H bs qs) : Tups H (as ++ bs) (ps ++ qs) := by
  unfold Tups
  rw [List.map_append, List.map_append, t, u]
theorem Tups.one {H : Hp} {a : Addr} {p : List Nat} (h : H a = some (.tup (p.map vN))) : Tups H [a] [p] := by
  unfold Tups
  rw [List.map_cons, List.map_cons, h]
  rfl
theorem nth_refs {as : List Addr} {i : Nat} {x : V} (h : (as.map V.ref)[i]? = some x) : ∃ a, as[i]? = some a ∧ x = V.ref a := by
  rw [List.getElem?_map] at h
  cases e : as[i]? with
  | none => rw [e] at h; cases h
  | some n => rw [e] at h; exact ⟨n, rfl, (Option.some.inj h).symm⟩
theorem nth_nats {ns : List Nat} {i : Nat} {x : V} (h : (ns.map vN)[i]? = some x) : ∃ n, ns[i]? = some n ∧ x = vN n := by
  rw [List.getElem?_map] at h
  cases e : ns[i]? with
  | none => rw [e] at h; cases h
  | some n => rw [e] at h; exact ⟨n, rfl, (Option.some.inj h).symm⟩
theorem flat_len (b many : Nat) : ∀ l : List (List Nat), (l.flatMap (exts b many)).length ≤ l.length * many
  | [] => Nat.zero_le _
  | p :: l => by
    rw [List.flatMap_cons, List.length_append, List.length_cons, Nat.add_mul, Nat.one_mul]
    have h1 := exts_len b many p
    have h2 := flat_len b many l
    omega
theorem plcs_each (b many : Nat) : ∀ (r : Nat) (p : List Nat), p ∈ plcs b many r → p.length = r
  | 0, p, h => by rw [List.mem_singleton.mp h]; rfl
  | r + 1, p, h => by
    obtain ⟨q, hq, hp⟩ := List.mem_flatMap.mp h
    obtain ⟨j, _, rfl⟩ := List.mem_map.mp hp
    rw [List.length_append, plcs_each b many r q hq]
    rfl
theorem dec_vN (i j : Nat) : decide (vN i = vN j) = decide (i = j) := by
  by_cases h : i = j
  · rw [h, decide_eq_true rfl, decide_eq_true rfl]
  · have e : ¬ vN i = vN j := fun q => h (Int.ofNat.inj (V.int.inj q))
    rw [decide_eq_false h, decide_eq_false e]
theorem take_next {α : Type} {l : List α} {i : Nat} {x : α} (h : l[i]? = some x) : l.take (i + 1) = l.take i ++ [x] := by
  rw [List.take_add_one, h]
  rfl
def spPlac : Sp := fun vs H Q _ => ∃ b many r : Nat, vs = [.int b, .int many, .int r] ∧ b ≤ 64 ∧ many ≤ 4 ∧ r ≤ 6 ∧ ∀ (H' : Hp) (p : Addr) (as : List Addr), Same H H' → H' p = some (.lst (as.map V.ref)) → as.length = (plcs b many r).length → Q (.ref p) H'
abbrev nPl : List Str := ["_law_b", "_law_many", "_law_records", "_law_found", "_law_record", "_law_later", "_law_some", "_law_block", "_law_one"]
section
variable {P : Program} {w : World} {K : PySem.W.Frag} {mg : Str → Option Value} {base : Heap}
theorem scPl : FnScope nPl ["_law_b", "_law_many", "_law_records"] (defScope sPlac) := ⟨rfl, rfl, rfl, by decide +kernel, rfl, by decide +kernel, by decide +kernel⟩
theorem ok_plac {f : Addr} {fd : FuncData} (F : Fun K "_law_placings" "_law_placings" sPlac f fd) (T : Txt mg) : FnOk P w K mg base CX0 1 f fd ["_law_b", "_law_many", "_law_records"] spPlac := by
  refine F.ok scPl (fun vs H Q E h => ?_) (fun cdv A outer s H vs Q E hr h => ?_)
  · obtain ⟨b, many, r, rfl, _⟩ := h
    rfl
  · obtain ⟨b, many, r, rfl, hb, hm, hrr, k⟩ := h
    refine ⟨_, pss_cons (ps_set (i := 3) scPl.nd rfl (.inl rfl) (pe_lst (pa_cons (pe_tup pa_nil) pa_nil)))
      (pss_cons (ps_for PassesOwn.never rfl (pi_range1 (by rfl) T.range (pa_cons (pv 2) pa_nil)) (pg_name (i := 4) scPl.nd rfl (Or.inl rfl))
        (pss_cons (ps_set (i := 5) scPl.nd rfl (.inl rfl) (pe_lst pa_nil))
        (pss_cons (ps_for PassesOwn.never rfl (pi_list (pv 3)) (pg_name (i := 6) scPl.nd rfl (Or.inr rfl))
          (pss_one (ps_set (i := 5) scPl.nd rfl (.inl rfl) (pe_op op_cat (pv 5)
            (pe_lc (own := [("_law_block", 7)]) (g := gName 7) (by rfl) scPl.nd (pi_range1 (by rfl) T.range (pa_cons (pv 1) pa_nil))
              (blkOk_by (own := [("_law_block", 7)]) (N := nPl) (sc := defScope sPlac) (by decide +kernel))
              (fun _ _ _ _ _ => pg_name (i := 7) scPl.nd rfl (Or.inr rfl))
              (fun _ _ _ _ _ => pts_one (pt_cmpR op_lt (pe_callB (lenK K) (by rfl) T.len PySem.boot_len (pa_cons
                (pe_lc (own := [("_law_one", 8)]) (g := gName 8) (by rfl) scPl.nd (tupK K (pv 6)) (blkOk_by (own := [("_law_one", 8)]) (N := nPl) (by kernel_rfl))
                  (fun _ _ _ _ _ => pg_name (i := 8) scPl.nd rfl (Or.inl rfl)) (fun _ _ _ _ _ => pts_one (pt_cmpR op_eq (pv 8) (pv 7) (nomark _)))
                  (fun _ _ _ _ _ => pv 8)) pa_nil)) (pv 0) (nomark _)))
              (fun _ _ _ _ _ => pe_op (catK K) (pv 6) (pe_tup (pa_cons (pv 7) pa_nil))))))))
        (pss_one (ps_set (i := 3) scPl.nd rfl (.inl rfl) (pv 5))))))
      (pss_one (ps_ret (pv 3)))), ?_⟩
    refine ⟨(by show 0 ≤ sizeLine; decide), fun t0 ht0 => ⟨(by show 1 ≤ sizeLine; decide), fun f0 hf0 => ?_⟩⟩
    have ntf : t0 ≠ f0 := ne_of_none upd_same hf0
    have s0 : Same H (L2.upd (L2.upd H t0 (.tup [])) f0 (.lst [.ref t0])) := Same.new (Same.new (Same.refl _) ht0) hf0
    refine ⟨_, rfl, (r : Int), rfl, by omega, by omega, for_range (lo := 0) (n := (r : Int).toNat) (fun i σ H' => ∃ (fa : Addr) (as : List Addr) (v4 v5 v6 : Option V), σ = [some (vN b), some (vN many), some (vN r), some (.ref fa), v4, v5, v6, none, none] ∧ Same H H' ∧
        H' fa = some (.lst (as.map V.ref)) ∧ Tups H' as (plcs b many i)) ⟨f0, [t0], none, none, none, rfl, s0, upd_same, Tups.one (by rw [upd_ne ntf, upd_same]; rfl)⟩ ?_ ?_⟩
    · rintro i σ H1 hi ⟨fa, as, v4, v5, v6, rfl, s1, hF, hT⟩
      have hi' : i < r := by omega
      have hps : (plcs b many i).length ≤ 4096 := by
        rw [plcs_len]
        refine Nat.le_trans (fS_le b many i) (Nat.le_trans (Nat.pow_le_pow_left hm i) ?_)
        exact Nat.le_trans (Nat.pow_le_pow_right (by decide) (show i ≤ 6 by omega)) (by decide)
      have hpl : ∀ p ∈ plcs b many i, p.length + 1 ≤ sizeLine := fun p hp => by
        have := plcs_each b many i p hp
        exact sl_small (by omega)
      refine ⟨(by show 0 ≤ sizeLine; decide), fun l0 hl0 => ?_⟩
      have s2 : Same H1 (L2.upd H1 l0 (.lst [])) := Same.new (Same.refl _) hl0
      refine ⟨_, rfl, fa, rfl, ⟨_, SqL.of (s2 _ _ hF)⟩, for_list (K := K) (a := fa) (xs := as.map V.ref) (fun t σ H' => ∃ (la : Addr) (ls : List Addr) (v6 : Option V), σ = [some (vN b), some (vN many), some (vN r), some (.ref fa), some (.int (0 + (i : Int))), some (.ref la), v6, none, none] ∧ Same H1 H' ∧
        H' la = some (.lst (ls.map V.ref)) ∧ Tups H' ls (((plcs b many i).take t).flatMap (exts b many))) ⟨l0, [], v6, rfl, s2, upd_same, Tups.nil _⟩ ?_ ?_ ?_⟩
      · rintro t σ H2 _ ⟨_, _, _, _, s3, _⟩
        exact SqL.of (s3 _ _ hF)
      · rintro t x σ H2 hx ⟨la, ls, v6, rfl, s3, hL, hTL⟩
        obtain ⟨a, ha, rfl⟩ := nth_refs hx
        obtain ⟨p, hp, hpa⟩ := hT.get ha
        have ht : t < as.length := nth_lt ha
        have hta := hT.len
        have hpa2 := s3 _ _ hpa
        refine ⟨_, rfl, _, rfl, (many : Int), rfl, by omega, by omega, fun D hD => ?_⟩
        refine lc_range (lo := 0) (n := (many : Int).toNat) (fun j H' => ∃ cs : List Addr, Same H2 H' ∧ H' D = some (.lst (cs.map V.ref)) ∧ Tups H' cs (((List.range j).filter fun j => decide (cnt p j < b)).map fun j => p ++ [j])) ⟨[], Same.new (Same.refl _) hD, upd_same, Tups.nil _⟩ ?_ ?_
        · rintro j H3 hj ⟨cs, s4, hD3, hTC⟩
          have hj' : j < many := by omega
          have hpa3 := s4 _ _ hpa2
          rw [Int.zero_add (j : Int)]
          refine ⟨rfl, _, rfl, a, rfl, ⟨_, SqT.of hpa3⟩, fun D2 hD2 => ?_⟩
          have na2 : a ≠ D2 := ne_of_none hpa3 hD2
          refine lc_tup (K := K) (a := a) (xs := p.map vN) (fun t H' => H' = L2.upd H3 D2 (.lst (((p.take t).filter fun x => decide (x = j)).map vN))) rfl ?_ ?_ ?_
          · rintro u H' _ rfl
            exact SqT.of (by rw [upd_ne na2]; exact hpa3)
          · rintro u x H' hx rfl
            obtain ⟨n, hn, rfl⟩ := nth_nats hx
            have hlen : ((p.take u).filter fun x => decide (x = j)).length ≤ p.length := Nat.le_trans (List.length_filter_le _ _) (by rw [List.length_take]; omega)
            refine ⟨rfl, _, rfl, _, rfl, rfl, _, rfl, ?_⟩
            rw [dec_vN, take_next hn, List.filter_append]
            by_cases e : n = j
            · rw [decide_eq_true e]
              refine iteT ⟨_, rfl, _, upd_same, ?_, ?_⟩
              · rw [List.length_map]
                exact Nat.lt_of_le_of_lt hlen (hpl p (List.mem_of_getElem? hp))
              · rw [upd_upd, List.filter_cons_of_pos (by simpa using e), List.map_append]
                rfl
            · rw [decide_eq_false e]
              refine iteF ?_
              rw [List.filter_cons_of_neg (by simpa using e), List.filter_nil, List.append_nil]
          · rintro H' rfl
            rw [List.length_map, List.take_length]
            refine ⟨D2, _, rfl, .inl (SqL.of upd_same), _, rfl, _, _, rfl, rfl, _, rfl, ?_⟩
            rw [List.length_map]
            show if decide (((cnt p j : Nat) : Int) < (b : Int)) = true then _ else _
            have s5 : Same H3 (L2.upd H3 D2 (.lst ((p.filter fun x => decide (x = j)).map vN))) := Same.new (Same.refl _) hD2
            generalize L2.upd H3 D2 (.lst ((p.filter fun x => decide (x = j)).map vN)) = H4 at s5
            have hD4 := s5 _ _ hD3
            have hpa4 := s5 _ _ hpa3
            have hTC4 := hTC.same s5
            rw [List.range_succ, List.filter_append, List.map_append]
            by_cases e : cnt p j < b
            · rw [decide_eq_true (show ((cnt p j : Nat) : Int) < (b : Int) by omega)]
              refine iteT ⟨_, rfl, _, rfl, (by show 1 ≤ sizeLine; decide), fun q hq => ?_⟩
              have naq : a ≠ q := ne_of_none hpa4 hq
              have s6 : Same H4 (L2.upd H4 q (.tup [vN j])) := Same.new (Same.refl _) hq
              have fin : ∀ (H5 : Hp) (e5 : Addr), Same H4 H5 → H5 e5 = some (.tup ((p ++ [j]).map vN)) → ∃ acc, H5 D = some (HO.lst acc) ∧ acc.length < sizeLine ∧ ∃ cs, Same H2 (L2.upd H5 D (HO.lst (acc ++ [V.ref e5]))) ∧
                  L2.upd H5 D (HO.lst (acc ++ [V.ref e5])) D = some (HO.lst (List.map V.ref cs)) ∧ Tups (L2.upd H5 D (HO.lst (acc ++ [V.ref e5]))) cs
                    (List.map (fun j => p ++ [j]) (List.filter (fun j => decide (cnt p j < b)) (List.range j)) ++ List.map (fun j => p ++ [j]) (List.filter (fun j => decide (cnt p j < b)) [j])) := fun H5 e5 s7 he5 => by
                refine ⟨_, s7 _ _ hD4, ?_, cs ++ [e5], Same.upd ((s4.trans s5).trans s7) hD, by rw [upd_same, List.map_append]; rfl, ?_⟩
                · rw [List.length_map, hTC.len, List.length_map]
                  have := List.length_filter_le (fun j => decide (cnt p j < b)) (List.range j)
                  rw [List.length_range] at this
                  exact sl_lt (by omega)
                · have hDl : H5 D = some (.lst (cs.map V.ref)) := s7 _ _ hD4
                  have keep : ∀ {b : Addr} {p : List Nat}, H5 b = some (.tup (p.map vN)) → (L2.upd H5 D (HO.lst (cs.map V.ref ++ [V.ref e5]))) b = some (.tup (p.map vN)) := fun {b p} hb => by
                    rw [upd_ne (ne_of hb hDl (by intro z; cases z))]
                    exact hb
                  rw [List.filter_cons_of_pos (by simpa using e), List.filter_nil]
                  refine Tups.append ?_ (Tups.one (keep he5))
                  have hT5 := hTC4.same s7
                  unfold Tups at hT5 ⊢
                  rw [← hT5]
                  refine List.map_congr_left fun x hx => ?_
                  obtain ⟨ix, hix⟩ := List.getElem?_of_mem hx
                  obtain ⟨px, _, hpx⟩ := (show Tups H5 cs _ from hT5).get hix
                  rw [hpx, keep hpx]
              refine ⟨a, q, p.map vN, [vN j], rfl, rfl, SqT.of (s6 _ _ hpa4), SqT.of upd_same, ?_, ?_, ?_, ?_⟩
              · rw [List.length_map]
                have := hpl p (List.mem_of_getElem? hp)
                exact this
              · intro hp0
                have hp0 : p = [] := List.map_eq_nil_iff.mp hp0
                subst hp0
                exact fin _ q s6 upd_same
              · intro _ h
                cases h
              · intro _ _ e6 he6
                refine fin _ e6 (Same.new s6 he6) ?_
                rw [upd_same, List.map_append]
                rfl
            · rw [decide_eq_false (show ¬ ((cnt p j : Nat) : Int) < (b : Int) by omega)]
              refine iteF ?_
              rw [List.filter_cons_of_neg (by simpa using e), List.filter_nil, List.map_nil, List.append_nil]
              exact ⟨cs, s4.trans s5, hD4, hTC4⟩
        · rintro H3 ⟨cs, s4, hD3, hTC⟩
          rw [Int.toNat_natCast] at hTC
          have hl1 : ls.length ≤ 16384 := by
            rw [hTL.len]
            have h1 := flat_len b many ((plcs b many i).take t)
            rw [List.length_take] at h1
            have h2 : min t (plcs b many i).length * many ≤ 4096 * 4 := Nat.mul_le_mul (by omega) hm
            omega
          have hl2 : cs.length ≤ 4 := by
            have h1 := exts_len b many p
            unfold exts at h1
            rw [hTC.len]
            omega
          have nLD : la ≠ D := ne_of_none hL hD
          refine ⟨la, D, _, _, rfl, rfl, s4 _ _ hL, hD3, sl_small (by rw [List.length_map, List.length_map]; omega), fun l2 hl2' => ?_⟩
          have s5 : Same H3 (L2.upd H3 l2 (.lst (ls.map V.ref ++ cs.map V.ref))) := Same.new (Same.refl _) hl2'
          refine ⟨l2, ls ++ cs, _, rfl, s3.trans (s4.trans s5), by rw [upd_same, List.map_append], ?_⟩
          rw [take_next hp, List.flatMap_append, List.flatMap_singleton]
          exact Tups.append (hTL.same (s4.trans s5)) (hTC.same s5)
      · rintro σ H2 ⟨la, ls, v6, rfl, s3, hL, hTL⟩
        rw [List.length_map, hT.len, List.take_length] at hTL
        exact ⟨_, rfl, la, ls, _, _, _, rfl, s1.trans s3, hL, hTL⟩
    · rintro σ H1 ⟨fa, as, v4, v5, v6, rfl, s1, hF, hT⟩
      rw [Int.toNat_natCast] at hT
      exact ⟨_, rfl, k H1 fa as s1 hF hT.len⟩
end
end Sh
namespace Sh
open PySem PySem.Spec PyProof.Rows L2
theorem tuple_mul1 (l : Addr) (items : Array Value) (n : Nat) (dd : Option Addr) (sl : Array (Option Value)) (u : Tok) :
    Meets (Builtin.«tuple.__mul__» ⟨[.ref l, .int 1 u], []⟩) (fun _ R s => s.heap.get? l = some { cls := .type "tuple", dict := dd, data := .seq items n, slots := sl } ∧
      R (.ok (.ret (Value.ref l))) s) :=
  .of_wp fun prog w A R s h => by
    obtain ⟨hp, g, d, tk, os⟩ := s
    obtain ⟨hl, h⟩ := h
    have f1 := AutoSeq1.idx_int
    wp_walk using wpAny_loadPart' hl
    exact ⟨_, rfl, h⟩
def rRep1 : R2 := fun x y H Q => ∃ l k xs, x = .ref l ∧ y = .int k ∧ H l = some (.tup xs) ∧ xs ≠ [] ∧ 1 ≤ k ∧ k ≤ 1000 ∧ xs.length ≤ 1000 ∧
  ∀ t H', Same H H' → H' t = some (.tup (List.replicate k.toNat xs).flatten) → Q (.ref t) H'
section
variable {X : Cx}
theorem op_rep1 : OpR X (binaryOp .Mult) rRep1 := by
  intro pins s σ H x y v u Q I rx ry h
  obtain ⟨l, k, xs, rfl, rfl, hT, hne, h1, h2, hz, fin⟩ := h
  by_cases hk : k = 1
  · subst hk
    cases rx
    obtain ⟨t, rfl⟩ := ry
    obtain ⟨its, r, ⟨⟨cls, dd, data, sl⟩, ho, hc, n, hd⟩, hs⟩ := I.tuple (SqT.of hT)
    simp only at hc hd
    subst hc hd
    refine wpAny_binaryOp_repeat_ref (T := "tuple") (U := "int") (by decide) ⟨_, ho, rfl⟩ (fun s' => typeIs_int s' 1 t) noFill_tuple_mul F.fills_int_mul F.slot_int_rmul repeat_tuple F.slot_int_index.lookup
      (call_meets F.slot_int_rmul (typeIs_int s 1 t) F.entry_int_rmul (F.args_int_rmul_2 _ _) (int_rmul_tuple 1 t l its.toArray n dd sl)
        ⟨ho, rfl, ⟨_, ho, rfl⟩, call_meets F.slot_tuple_mul ⟨_, ho, rfl⟩ F.entry_tuple_mul (F.args_tuple_mul_2 _ _) (tuple_mul1 l its.toArray n dd sl t) ⟨ho, ?_⟩⟩)
    refine ⟨.ref l, H, I, rfl, fin l H (Same.refl H) ?_⟩
    rw [hT]
    show _ = some (HO.tup (xs ++ []))
    rw [List.append_nil]
  · exact op_repT pins s σ H _ _ v u Q I rx ry ⟨l, k, xs, rfl, rfl, SqT.of hT, hne, by omega, h2, hz, fun p hp => fin p _ (Same.new (Same.refl H) hp) upd_same⟩
def tDisp1 (tk tv : TE) : TE := fun σ H Q => ∀ p, H p = none → tk σ (upd H p (.dT [])) fun y H1 => tv σ H1 fun v H2 => H2 p = some (.dT []) ∧ ∃ (ks : List Key) (b : Addr), y = .ref b ∧ H2 b = some (.tup (ks.map kV)) ∧ Q (.ref p) (upd H2 p (.dT [(ks, v)]))
theorem pe_disp1 {pos : Pos} {ke ve : Expr} {tk tv : TE} (hu : X.A.units + 1 < cLine) (hk : PE X ke tk) (hv : PE X ve tv) : PE X (.Dict [some ke] [ve] pos) (tDisp1 tk tv) := by
  refine ⟨fun pins s σ H Q I q => ?_⟩
  have hn := I.hok.fresh (Nat.le_refl s.heap.objs.size)
  have I1 := I.laid (a := s.heap.objs.size) (o := .dT []) (h' := s.heap.push { cls := .type "dict", data := .dict #[] }) (t' := s.toks) (fun _ _ q => Heap.get?_push_of_some _ q) (Nat.le_refl _) (dt_empty s.heap I.big)
  have hp := pairTrees_length [some ke] [ve] X.env pos rfl rfl
  have h0 : pairTrees [some ke] [ve] X.env pos ≠ [] := fun e => by
    rw [e] at hp
    cases hp
  rw [arm_eval_Dict, zip_pairTrees [some ke] [ve] X.env pos rfl rfl, dictDisplay_pairs _ h0 (by rw [hp]; show 1 < 17; decide)]
  refine wpAny_bind (wpAny_standAt (wpAny_bind (wpAny_subDictH (knd := tupleKind (mixKind X.prog X.w)) (Nat.lt_of_succ_lt hu) (by rw [hp]; show 1 ≤ 15; decide)
    (pairTrees_cons_walk (thn (hk.run pins _ σ _ _ I1 (q _ hn)) fun u s1 ⟨x, H1, I1, rx, q1⟩ => thn (hv.run pins s1 σ H1 _ I1 q1) fun w2 s2 ⟨y, H2, I2, ry, e, ks, b, ex, eb, q2⟩ => pairTrees_nil_walk ?_)))))
  subst ex
  cases (show u = Value.ref b from rx)
  obtain ⟨z, hd, xs, rel, dd⟩ := dt_of I2.hok e
  cases rel
  refine ⟨[(ks, b, w2)], ⟨rfl, rfl, key_of I2.hok eb, trivial⟩, dd, fun h' tk' dd' hs => wpAny_pure ?_⟩
  obtain ⟨qo, es, ep, hq, h2, h3, h4, _, h5⟩ := dd'
  have new : ObjOk X.prog X.w (L2.upd H2 s.heap.objs.size (.dT [(ks, y)])) h' s.heap.objs.size (.dT [(ks, y)]) := ⟨(by show 1 ≤ sizeLine; decide), hd, [(ks, b, w2)], .cons ⟨rfl, (by rw [upd_ne (ne_of eb e (fun z => nomatch z))]; exact eb), ry⟩ .nil, qo, es, ep, hq, h2, h3, h4, h5⟩
  exact ⟨.ref s.heap.objs.size, _, d_write I2 (by rw [e]; exact True.intro) hs ⟨qo, hq⟩ new, rfl, q2⟩
end
end Sh
namespace Sh
open PySem L2 Cnt
abbrev nk (n : Nat) : Key := Sum.inl (n : Int)
theorem nk_inj {a b : Nat} (h : nk a = nk b) : a = b := Int.ofNat.inj (Sum.inl.inj h)
theorem nks_inj : ∀ {a b : List Nat}, a.map nk = b.map nk → a = b
  | [], [], _ => rfl
  | [], _ :: _, e => by simp at e
  | _ :: _, [], e => by simp at e
  | x :: xs, y :: ys, e => by
    rw [List.map_cons, List.map_cons] at e
    injection e with e1 e2
    rw [nk_inj e1, nks_inj e2]
theorem nks_kV (s : List Nat) : (s.map nk).map kV = s.map vN := by
  rw [List.map_map]
  rfl
def em (p : List Nat × Nat) : List Key × V := (p.1.map nk, vN p.2)
theorem em_iff (p : List Nat × Nat) (k : List Nat) : ((em p).1 = k.map nk) ↔ p.1 = k := ⟨nks_inj, fun h => by rw [← h]; rfl⟩
theorem valV_em (k : List Nat) : ∀ d : Tab, valV (d.map em) (k.map nk) = (valN d k).map vN
  | [] => rfl
  | p :: d => by
    rw [List.map_cons]
    by_cases e : p.1 = k
    · rw [valV_pos ((em_iff p k).mpr e)]
      unfold valN
      rw [List.find?_cons_of_pos (by simpa using e)]
      rfl
    · rw [valV_neg fun h => e ((em_iff p k).mp h), valV_em k d]
      unfold valN
      rw [List.find?_cons_of_neg (by simpa using e)]
theorem getD_em (d : Tab) (k : List Nat) : (valV (d.map em) (k.map nk)).getD (V.int 0) = vN ((valN d k).getD 0) := by
  rw [valV_em]
  cases valN d k <;> rfl
theorem nth_em {d : Tab} {i : Nat} {k : List Key} {v : V} (h : (d.map em)[i]? = some (k, v)) : ∃ s c, d[i]? = some (s, c) ∧ k = s.map nk ∧ v = vN c := by
  rw [List.getElem?_map] at h
  cases e : d[i]? with
  | none => rw [e] at h; cases h
  | some p =>
    rw [e] at h
    have h : em p = (k, v) := Option.some.inj h
    exact ⟨p.1, p.2, rfl, (congrArg Prod.fst h).symm, (congrArg Prod.snd h).symm⟩
theorem any_em (k : List Nat) (d : Tab) : ((d.map em).any fun kv => decide (kv.1 = k.map nk)) = d.any fun p => decide (p.1 = k) := by
  rw [List.any_map]
  congr 1
  funext p
  show decide ((em p).1 = k.map nk) = decide (p.1 = k)
  by_cases e : p.1 = k
  · rw [decide_eq_true e, decide_eq_true ((em_iff p k).mpr e)]
  · rw [decide_eq_false e, decide_eq_false fun h => e ((em_iff p k).mp h)]
theorem putK_em (k : List Nat) (v : Nat) (d : Tab) : putK (d.map em) (k.map nk) (vN v) = (putN d k v).map em := by
  unfold putK putN
  rw [any_em]
  by_cases a : (d.any fun p => decide (p.1 = k)) = true
  · rw [if_pos a, if_pos a, List.map_map, List.map_map]
    refine List.map_congr_left fun p _ => ?_
    show (if (em p).1 = k.map nk then ((em p).1, vN v) else em p) = em (if p.1 = k then (p.1, v) else p)
    by_cases e : p.1 = k
    · rw [if_pos e, if_pos ((em_iff p k).mpr e)]
      rfl
    · rw [if_neg e, if_neg fun h => e ((em_iff p k).mp h)]
  · rw [if_neg a, if_neg a, List.map_append]
    rfl
theorem valN_at : ∀ {d : Tab} {i : Nat} {s : List Nat} {c : Nat}, (d.map (·.1)).Nodup → d[i]? = some (s, c) → valN d s = some c
  | [], i, s, c, _, h => by simp at h
  | p :: d, 0, s, c, _, h => by
    have h : p = (s, c) := Option.some.inj h
    subst h
    unfold valN
    rw [List.find?_cons_of_pos (by simp)]
    rfl
  | p :: d, i + 1, s, c, hn, h => by
    have hn : (p.1 :: d.map (·.1)).Nodup := hn
    obtain ⟨h1, h2⟩ := List.nodup_cons.mp hn
    have h : d[i]? = some (s, c) := h
    have e : ¬ p.1 = s := fun e => h1 (by rw [e]; exact List.mem_map.mpr ⟨(s, c), List.mem_of_getElem? h, rfl⟩)
    have ih := valN_at h2 h
    unfold valN at ih ⊢
    rw [List.find?_cons_of_neg (by simpa using e)]
    exact ih
theorem nth_getD {s : List Nat} {k : Nat} (h : k < s.length) : s[k]? = some (s.getD k 0) := by
  rw [List.getD_eq_getElem?_getD, List.getElem?_eq_getElem h]
  rfl
theorem getD_le_sum : ∀ (s : List Nat) (k : Nat), s.getD k 0 ≤ s.sum
  | [], k => by simp
  | x :: s, 0 => by
    rw [List.sum_cons]
    show x ≤ _
    omega
  | x :: s, k + 1 => by
    rw [List.sum_cons]
    have := getD_le_sum s k
    show s.getD k 0 ≤ _
    omega
theorem move_vals {s : List Nat} {k : Nat} (h : 0 < s.getD k 0) : ((s.map vN).set k (V.int ((s.getD k 0 : Int) - 1))).set (k + 1) (V.int ((s.getD (k + 1) 0 : Int) + 1)) = (move s k).map vN := by
  unfold move
  rw [List.map_set, List.map_set]
  have e1 : V.int ((s.getD k 0 : Int) - 1) = vN (s.getD k 0 - 1) := by
    show V.int _ = V.int _
    congr 1
    omega
  have e2 : V.int ((s.getD (k + 1) 0 : Int) + 1) = vN (s.getD (k + 1) 0 + 1) := by
    show V.int _ = V.int _
    congr 1
  rw [e1, e2]
theorem ixN_nat {n k : Nat} (h : k < n) : ixN n (k : Int) = some k := by
  unfold ixN
  rw [if_pos (by omega), if_pos (by omega), Int.toNat_natCast]
theorem nodup_lt : ∀ (n : Nat) (l : List Nat), l.Nodup → (∀ x ∈ l, x < n) → l.length ≤ n
  | 0, l, _, h => by
    cases l with
    | nil => exact Nat.le_refl _
    | cons a l => exact absurd (h a List.mem_cons_self) (by omega)
  | n + 1, l, hn, h => by
    have ih := nodup_lt n (l.filter fun x => decide (x ≠ n)) (hn.filter _) fun x hx => by
      obtain ⟨h1, h2⟩ := List.mem_filter.mp hx
      have := h x h1
      have : x ≠ n := of_decide_eq_true h2
      omega
    have e : ∀ l : List Nat, l.Nodup → l.length ≤ (l.filter fun x => decide (x ≠ n)).length + 1 := by
      intro l
      induction l with
      | nil => intro _; exact Nat.zero_le _
      | cons a l ih =>
        intro hn
        obtain ⟨h1, h2⟩ := List.nodup_cons.mp hn
        by_cases q : a = n
        · rw [List.filter_cons_of_neg (by simpa using q)]
          have e2 : (l.filter fun x => decide (x ≠ n)) = l := List.filter_eq_self.mpr fun x hx => decide_eq_true fun z => h1 (by rw [q, ← z]; exact hx)
          rw [e2]
          exact Nat.le_refl _
        · rw [List.filter_cons_of_pos (by simpa using q), List.length_cons, List.length_cons]
          have := ih h2
          omega
    have := e l hn
    omega
def code (M : Nat) : List Nat → Nat
  | [] => 0
  | x :: s => x + M * code M s
theorem code_lt {M : Nat} : ∀ {s : List Nat}, (∀ x ∈ s, x < M) → code M s < M ^ s.length
  | [], _ => by show 0 < 1; decide
  | x :: s, h => by
    have h1 := h x List.mem_cons_self
    have h2 := code_lt fun y hy => h y (List.mem_cons_of_mem _ hy)
    show x + M * code M s < M ^ (s.length + 1)
    rw [Nat.pow_succ, Nat.mul_comm]
    have h3 : (code M s + 1) * M ≤ M ^ s.length * M := Nat.mul_le_mul_right _ h2
    rw [Nat.add_mul, Nat.one_mul] at h3
    omega
theorem code_inj {M : Nat} : ∀ {s t : List Nat}, s.length = t.length → (∀ x ∈ s, x < M) → (∀ x ∈ t, x < M) → code M s = code M t → s = t
  | [], [], _, _, _, _ => rfl
  | [], _ :: _, h, _, _, _ => by simp at h
  | _ :: _, [], h, _, _, _ => by simp at h
  | x :: s, y :: t, hl, h1, h2, e => by
    have a := h1 x List.mem_cons_self
    have b := h2 y List.mem_cons_self
    have e : x + M * code M s = y + M * code M t := e
    have m1 : (x + M * code M s) % M = x := by rw [Nat.add_mul_mod_self_left, Nat.mod_eq_of_lt a]
    have m2 : (y + M * code M t) % M = y := by rw [Nat.add_mul_mod_self_left, Nat.mod_eq_of_lt b]
    have exy : x = y := by rw [← m1, ← m2, e]
    subst exy
    have e3 : M * code M s = M * code M t := by omega
    have e4 : code M s = code M t := Nat.eq_of_mul_eq_mul_left (by omega) e3
    rw [code_inj (by simpa using hl) (fun z hz => h1 z (List.mem_cons_of_mem _ hz)) (fun z hz => h2 z (List.mem_cons_of_mem _ hz)) e4]
theorem mem_le_sum : ∀ {s : List Nat} {x : Nat}, x ∈ s → x ≤ s.sum
  | y :: s, x, h => by
    rw [List.sum_cons]
    rcases List.mem_cons.mp h with e | h
    · omega
    · have := mem_le_sum h
      omega
theorem nodup_map {α β : Type} {f : α → β} : ∀ {l : List α}, l.Nodup → (∀ a ∈ l, ∀ b ∈ l, f a = f b → a = b) → (l.map f).Nodup
  | [], _, _ => List.nodup_nil
  | a :: l, hn, h => by
    obtain ⟨h1, h2⟩ := List.nodup_cons.mp hn
    rw [List.map_cons]
    refine List.nodup_cons.mpr ⟨fun m => ?_, nodup_map h2 fun x hx y hy => h x (List.mem_cons_of_mem _ hx) y (List.mem_cons_of_mem _ hy)⟩
    obtain ⟨b, hb, e⟩ := List.mem_map.mp m
    exact h1 (h a List.mem_cons_self b (List.mem_cons_of_mem _ hb) e.symm ▸ hb)
theorem tab_len {b many : Nat} {d : Tab} (h : TabOk b many d) : d.length ≤ (many + 1) ^ (b + 1) := by
  have bd : ∀ q ∈ d.map (·.1), ∀ x ∈ q, x < many + 1 := fun q hq x hx => by
    have h1 := mem_le_sum hx
    have h2 := (h.st q hq).2
    omega
  have n := nodup_lt ((many + 1) ^ (b + 1)) ((d.map (·.1)).map (code (many + 1))) (nodup_map h.nd fun s hs t ht e => code_inj ((h.st s hs).1.trans (h.st t ht).1.symm) (bd s hs) (bd t ht) e) fun x hx => by
    obtain ⟨s, hs, rfl⟩ := List.mem_map.mp hx
    have := code_lt (bd s hs)
    rw [(h.st s hs).1] at this
    exact this
  rw [List.length_map, List.length_map] at n
  exact n
theorem for_keysT {d : Addr} {o : Obj} {kvs : List (List Key × V)} {g : TG} {tb : TS} {D : Ends} {σ : L2.St} {H : Hp} (Pv : Nat → L2.St → Hp → Prop) (h0 : Pv 0 σ H) (hl : ∀ i σ H, i ≤ kvs.length → Pv i σ H → H d = some (.frz o (.dT kvs)))
    (hs : ∀ i k v q σ H, kvs[i]? = some (k, v) → H q = some (.tup (k.map kV)) → Pv i σ H → g (.ref q) σ H fun σ2 H2 => tb { D with nx := Pv (i + 1), ct := Pv (i + 1), bk := D.nx } σ2 H2) (hd : ∀ σ H, Pv kvs.length σ H → D.nx σ H) :
    ∃ W : Nat → Nat → L2.St → Hp → Prop, (∃ m, W 0 m σ H) ∧ ∀ i m σ H, W i m σ H →
      ((Itkt d o kvs).stop i H ∧ D.nx σ H) ∨ ((Itkt d o kvs).go i H ∧ ∃ N : L2.St → Hp → Prop, (∀ σ' H', N σ' H' → ∃ m', m' < m ∧ W (i + 1) m' σ' H') ∧ ∀ x H', (Itkt d o kvs).yld i H x H' → g x σ H' fun σ2 H2 => tb { D with nx := N, ct := N, bk := D.nx } σ2 H2) := by
  refine ⟨fun i m σ H => m = kvs.length - i ∧ i ≤ kvs.length ∧ Pv i σ H, ⟨kvs.length, by simp, Nat.zero_le _, h0⟩, ?_⟩
  rintro i m σ H ⟨rfl, hi, p⟩
  have q := hl i σ H hi p
  by_cases hlt : i < kvs.length
  · refine .inr ⟨⟨q, hlt⟩, Pv (i + 1), fun σ' H' p' => ⟨kvs.length - (i + 1), by omega, rfl, hlt, p'⟩, fun x H' y => ?_⟩
    obtain ⟨rfl, k, v, a, e, rfl, ha⟩ := y
    exact hs i k v a σ _ e ha p
  · have e : i = kvs.length := by omega
    subst e
    exact .inl ⟨⟨q, Nat.le_refl _⟩, hd σ H p⟩
theorem lc_keysT {d : Addr} {o : Obj} {kvs : List (List Key × V)} {g : TG} {tt : TT} {te : TE} {vs : List Nat} {σ : L2.St} {H1 : Hp} {D : Addr} {Qd : Hp → Prop} (Pv : Nat → Hp → Prop) (h0 : Pv 0 (upd H1 D (.lst []))) (hl : ∀ i H, i ≤ kvs.length → Pv i H → H d = some (.frz o (.dT kvs)))
    (hs : ∀ i k v q H, kvs[i]? = some (k, v) → H q = some (.tup (k.map kV)) → Pv i H → g (.ref q) (wipe σ vs) H fun σ2 H2 => wipe σ2 vs = wipe σ vs ∧ tt σ2 H2 fun b H3 =>
      if b = true then te σ2 H3 fun y H4 => ∃ acc, H4 D = some (.lst acc) ∧ acc.length < sizeLine ∧ Pv (i + 1) (upd H4 D (.lst (acc ++ [y]))) else Pv (i + 1) H3) (hd : ∀ H, Pv kvs.length H → Qd H) :
    ∃ W : Nat → Nat → Hp → Prop, (∃ m, W 0 m (upd H1 D (.lst []))) ∧ ∀ i m H, W i m H →
      ((Itkt d o kvs).stop i H ∧ Qd H) ∨ ((Itkt d o kvs).go i H ∧ ∃ Nx : Hp → Prop, (∀ H', Nx H' → ∃ m', m' < m ∧ W (i + 1) m' H') ∧ ∀ x H', (Itkt d o kvs).yld i H x H' → g x (wipe σ vs) H' fun σ2 H2 => wipe σ2 vs = wipe σ vs ∧ tt σ2 H2 fun b H3 =>
        if b = true then te σ2 H3 fun y H4 => ∃ acc, H4 D = some (.lst acc) ∧ acc.length < sizeLine ∧ Nx (upd H4 D (.lst (acc ++ [y]))) else Nx H3) := by
  refine ⟨fun i m H => m = kvs.length - i ∧ i ≤ kvs.length ∧ Pv i H, ⟨kvs.length, by simp, Nat.zero_le _, h0⟩, ?_⟩
  rintro i m H ⟨rfl, hi, p⟩
  have q := hl i H hi p
  by_cases hlt : i < kvs.length
  · refine .inr ⟨⟨q, hlt⟩, Pv (i + 1), fun H' p' => ⟨kvs.length - (i + 1), by omega, rfl, hlt, p'⟩, fun x H' y => ?_⟩
    obtain ⟨rfl, k, v, a, e, rfl, ha⟩ := y
    exact hs i k v a _ e ha p
  · have e : i = kvs.length := by omega
    subst e
    exact .inl ⟨⟨q, Nat.le_refl _⟩, hd H p⟩
end Sh
namespace Sh
open PySem L2 Cnt
theorem tk_next {α : Type} {l : List α} {i : Nat} {x : α} (h : l[i]? = some x) : l.take (i + 1) = l.take i ++ [x] := by
  rw [List.take_add_one, h]
  rfl
def spWays : Sp := fun vs H Q _ => ∃ b many r : Nat, vs = [.int b, .int many, .int r] ∧ 1 ≤ b ∧ b ≤ 64 ∧ many ≤ 64 ∧ r ≤ 200 ∧ (many + 1) ^ (b + 1) ≤ 1000000 ∧ ∀ H' : Hp, Same H H' → Q (vN (fS b many r)) H'
abbrev nWa : List Str := ["_law_b", "_law_many", "_law_records", "_law_counts", "_law_record", "_law_later", "_law_state", "_law_k", "_law_new"]
def But1 (c : Addr) (H H' : Hp) : Prop := ∀ x o, H x = some o → x ≠ c → H' x = some o
theorem But1.same {c : Addr} {H H1 H2 : Hp} (a : But1 c H H1) (s : Same H1 H2) : But1 c H H2 := fun x o e h => s x o (a x o e h)
section
variable {P : Program} {w : World} {K : PySem.W.Frag} {mg : Str → Option Value} {base : Heap}
theorem scW : FnScope nWa ["_law_b", "_law_many", "_law_records"] (defScope sWays) := ⟨rfl, rfl, rfl, by decide +kernel, rfl, by decide +kernel, by decide +kernel⟩
theorem ok_ways {f : Addr} {fd : FuncData} (F : Fun K "_law_ways" "_law_ways" sWays f fd) (T : Txt mg) : FnOk P w K mg base CX0 1 f fd ["_law_b", "_law_many", "_law_records"] spWays := by
  refine F.ok scW (fun vs H Q E h => ?_) (fun cdv A outer s H vs Q E hr h => ?_)
  · obtain ⟨b, many, r, rfl, _⟩ := h
    rfl
  · obtain ⟨b, many, r, rfl, hb0, hb, hm, hrr, hsz, k⟩ := h
    have hu := hu_of hr
    refine ⟨_, pss_cons (ps_set (i := 3) scW.nd rfl (.inr rfl) (pe_disp1 hu (pe_op op_catA (pe_tup (pa_cons (pv 1) pa_nil)) (pe_op op_rep1 (pe_tup (pa_cons pe_int pa_nil)) (pv 0))) pe_int))
      (pss_cons (ps_for PassesOwn.never rfl (pi_range1 (by rfl) T.range (pa_cons (pv 2) pa_nil)) (pg_name (i := 4) scW.nd rfl (Or.inl rfl))
        (pss_cons (ps_set (i := 5) scW.nd rfl (.inl rfl) pe_dnewT)
        (pss_cons (ps_lock (ps_for PassesOwn.never rfl (pi_keys (pv 3)) (pg_name (i := 6) scW.nd rfl (Or.inl rfl))
          (pss_one (ps_for PassesOwn.never rfl (pi_range1 (by rfl) T.range (pa_cons (pv 0) pa_nil)) (pg_name (i := 7) scW.nd rfl (Or.inl rfl))
            (pss_one (ps_if (pt_cmpR op_gt (pe_ix ix_tup (pv 6) (pv 7) (fun _ _ => rfl)) pe_int (nomark _))
              (pss_cons (ps_set (i := 8) scW.nd rfl (.inl rfl) (pe_callTy call_list_of (by rfl) T.list PyProof.Rows.boot_list (pa_cons (pv 6) pa_nil)))
              (pss_cons (ps_asg (pe_tup (pa_cons (pe_op op_sub (pe_ix ix_list (pv 8) (pv 7) (fun _ _ => rfl)) pe_int) (pa_cons (pe_op op_add (pe_ix ix_list (pv 8) (pe_op op_add (pv 7) pe_int) (fun _ _ => rfl)) pe_int) pa_nil)))
                (pg_tup rfl (pgs_cons (pg_sub (pv 8) (pv 7) set_list) (pgs_cons (pg_sub (pv 8) (pe_op op_add (pv 7) pe_int) set_list) pgs_nil))))
              (pss_one (ps_dput hu (pv 5) (pe_callTy call_tuple_of (by rfl) T.tuple PyProof.Rows.boot_tuple (pa_cons (pv 8) pa_nil))
                (pe_op op_add (pe_dget2 hu (pv 5) (pe_callTy call_tuple_of (by rfl) T.tuple PyProof.Rows.boot_tuple (pa_cons (pv 8) pa_nil)) pe_int ⟨rfl, rfl, rfl, rfl⟩)
                  (pe_op op_mul (pe_dget hu (pv 3) (pv 6) (fun _ _ => rfl)) (pe_ix ix_tup (pv 6) (pv 7) (fun _ _ => rfl)))) rfl))))
              pss_nil))))))
        (pss_one (ps_set (i := 3) scW.nd rfl (.inr rfl) (pv 5))))))
      (pss_one (ps_ret (pe_callB (cr_sum rfl) (by rfl) T.sum PyProof.Rows.boot_sum (pa_cons (pe_lock
        (pe_lc (own := [("_law_state", 6)]) (g := gName 6) (by rfl) scW.nd (pi_keys (pv 3)) (blkOk_by (own := [("_law_state", 6)]) (N := nWa) (sc := defScope sWays) (by decide +kernel))
          (fun _ _ _ _ _ => pg_name (i := 6) scW.nd rfl (Or.inl rfl)) (fun _ _ _ _ _ => pts_nil) (fun _ _ _ _ _ => pe_dget hu (pv 3) (pv 6) (fun _ _ => rfl)))) pa_nil))))), ?_⟩
    intro cd hcd
    refine ⟨_, rfl, (by show 1 ≤ sizeLine; decide), fun t1 h1 => ⟨(by show 1 ≤ sizeLine; decide), fun t2 h2 => ?_⟩⟩
    have nc1 : cd ≠ t1 := ne_of_none upd_same h1
    have n12 : t1 ≠ t2 := ne_of_none upd_same h2
    refine ⟨_, rfl, t2, (b : Int), [V.int 0], rfl, rfl, upd_same, (by intro z; cases z), by omega, by omega, (by show 1 ≤ 1000; decide), fun t3 H3 s3 h3 => ?_⟩
    rw [Int.toNat_natCast, flat_one] at h3
    have hT1 : H3 t1 = some (.tup [vN many]) := s3 _ _ (by rw [upd_ne n12, upd_same])
    have hcd2 : (L2.upd (L2.upd (L2.upd H cd (.dT [])) t1 (.tup [vN many])) t2 (.tup [V.int 0])) cd = some (.dT []) := by
      rw [upd_ne (ne_of_none (by rw [upd_ne nc1, upd_same]) h2), upd_ne nc1, upd_same]
    have hcd3 := s3 _ _ hcd2
    have s03 : Same H H3 := (Same.new (Same.new (Same.new (Same.refl H) hcd) h1) h2).trans s3
    refine ⟨t1, t3, [vN many], List.replicate b (V.int 0), rfl, rfl, SqT.of hT1, SqT.of h3, sl_small (by rw [List.length_replicate]; show 1 + b ≤ _; omega), (fun z => nomatch z), ?_, fun _ _ t4 h4 => ?_⟩
    · intro _ z
      have := congrArg List.length z
      rw [List.length_replicate] at this
      exact absurd this (by show ¬ b = 0; omega)
    have nc4 : cd ≠ t4 := ne_of_none hcd3 h4
    have ekey : ((many :: List.replicate b 0).map nk).map kV = [vN many] ++ List.replicate b (V.int 0) := by
      rw [nks_kV, List.map_cons, List.map_replicate]
      rfl
    refine ⟨by rw [upd_ne nc4]; exact hcd3, (many :: List.replicate b 0).map nk, t4, rfl, by rw [upd_same, ekey], ?_⟩
    have s04 : Same H (L2.upd (L2.upd H3 t4 (.tup ([vN many] ++ List.replicate b (V.int 0)))) cd (.dT [((many :: List.replicate b 0).map nk, V.int 1)])) := Same.upd (Same.new s03 h4) hcd
    have hC : (L2.upd (L2.upd H3 t4 (.tup ([vN many] ++ List.replicate b (V.int 0)))) cd (.dT [((many :: List.replicate b 0).map nk, V.int 1)])) cd = some (.dT ((wys b many 0).map em)) := upd_same
    generalize L2.upd (L2.upd H3 t4 (.tup ([vN many] ++ List.replicate b (V.int 0)))) cd (.dT [((many :: List.replicate b 0).map nk, V.int 1)]) = H4 at s04 hC
    clear nc4 h4 s03 hcd3 hcd2 hT1 h3 s3 n12 nc1 h2 h1
    refine ⟨_, rfl, (r : Int), rfl, by omega, by omega, for_range (lo := 0) (n := (r : Int).toNat) (fun i σ H' => ∃ (cd : Addr) (v4 v5 v6 v7 v8 : Option V), σ = [some (vN b), some (vN many), some (vN r), some (.ref cd), v4, v5, v6, v7, v8] ∧ Same H H' ∧
        H cd = none ∧ H' cd = some (.dT ((wys b many i).map em))) ⟨cd, none, none, none, none, none, rfl, s04, hcd, hC⟩ ?_ ?_⟩
    · rintro i σ H1 hi ⟨cd, v4, v5, v6, v7, v8, rfl, s1, hcn, hC⟩
      have hi' : i < r := by omega
      have W0 := wys_ok b many i
      intro ld hld
      have ncl : cd ≠ ld := ne_of_none hC hld
      refine ⟨cd, .dT ((wys b many i).map em), (by rw [upd_ne ncl]; exact hC), trivial, fun od => ?_⟩
      refine ⟨_, rfl, cd, od, rfl, .inr ⟨_, upd_same, for_keysT (d := cd) (o := od) (kvs := (wys b many i).map em) (fun t σ H' => ∃ v6 v7 v8 : Option V, σ = [some (vN b), some (vN many), some (vN r), some (.ref cd), some (.int (0 + (i : Int))), some (.ref ld), v6, v7, v8] ∧
        H' cd = some (.frz od (.dT ((wys b many i).map em))) ∧ H' ld = some (.dT ((outr b (wys b many i) t).map em)) ∧ But1 cd H1 H') ⟨v6, v7, v8, rfl, upd_same, ?_, ?_⟩ ?_ ?_ ?_⟩⟩
      · rw [upd_ne ncl.symm, upd_same]
        rfl
      · intro x o e hx
        rw [upd_ne hx, upd_ne (ne_of_none e hld)]
        exact e
      · rintro t σ H' _ ⟨_, _, _, _, e, _⟩
        exact e
      · rintro t kk vv q σ H2 hkv hq ⟨v6, v7, v8, rfl, hcd, hl2, but⟩
        obtain ⟨st, c, hst, rfl, rfl⟩ := nth_em hkv
        rw [nks_kV] at hq
        have ht : t < (wys b many i).length := nth_lt hst
        obtain ⟨sl, ss⟩ := W0.at hst
        have sl : st.length = b + 1 := sl
        have ss : st.sum = many := ss
        have O0 := outr_ok W0 t (by omega)
        refine ⟨_, rfl, (b : Int), rfl, by omega, by omega, for_range (lo := 0) (n := (b : Int).toNat) (fun u σ H' => ∃ v7 v8 : Option V, σ = [some (vN b), some (vN many), some (vN r), some (.ref cd), some (.int (0 + (i : Int))), some (.ref ld), some (.ref q), v7, v8] ∧
          H' cd = some (.frz od (.dT ((wys b many i).map em))) ∧ H' ld = some (.dT ((innr st c (outr b (wys b many i) t) u).map em)) ∧ H' q = some (.tup (st.map vN)) ∧ But1 cd H1 H') ⟨v7, v8, rfl, hcd, hl2, hq, but⟩ ?_ ?_⟩
        · clear hl2 hcd hq but H2
          rintro u σ H2 hu' ⟨v7, v8, rfl, hcd, hl2, hq, but⟩
          rw [Int.zero_add (u : Int)]
          have hub : u < b := by omega
          have In := innr_ok (c := c) O0 ⟨sl, ss⟩ u (by omega)
          have nu : (st.map vN)[u]? = some (vN (st.getD u 0)) := nth_map (nth_getD (by omega))
          have nu1 : (st.map vN)[u + 1]? = some (vN (st.getD (u + 1) 0)) := nth_map (nth_getD (by omega))
          refine ⟨_, rfl, _, rfl, q, _, (u : Int), vN (st.getD u 0), rfl, rfl, SqT.of hq, atI_nat nu, _, _, rfl, rfl, _, rfl, ?_⟩
          by_cases hp : 0 < st.getD u 0
          · rw [decide_eq_true (show (0 : Int) < ((st.getD u 0 : Nat) : Int) by omega)]
            refine iteT ⟨_, rfl, q, _, rfl, .inr (SqT.of hq), fun nl hnl => ?_⟩
            refine ⟨_, rfl, _, rfl, nl, _, (u : Int), vN (st.getD u 0), rfl, rfl, SqL.of upd_same, atI_nat nu, _, _, rfl, rfl, _, rfl, _, rfl, _, _, rfl, rfl, nl, _, _, vN (st.getD (u + 1) 0), rfl, rfl, SqL.of upd_same, at_of (j := u + 1) (by omega) nu1, _, _, rfl, rfl, (by show 2 ≤ sizeLine; decide), fun tp htp => ?_⟩
            have nlt : nl ≠ tp := ne_of_none upd_same htp
            refine ⟨tp, _, rfl, SqT.of upd_same, rfl, _, _, rfl, _, rfl, _, rfl, nl, _, (u : Int), u, rfl, rfl, (by rw [upd_ne nlt]; exact upd_same), ixN_nat (by rw [List.length_map]; omega), ?_⟩
            refine ⟨_, _, rfl, _, rfl, _, rfl, _, _, rfl, rfl, nl, _, _, u + 1, rfl, rfl, upd_same, ?_, rfl, ?_⟩
            · have e : (u : Int) + 1 = ((u + 1 : Nat) : Int) := by omega
              rw [e]
              exact ixN_nat (by rw [List.length_set, List.length_map]; omega)
            · rw [move_vals hp, upd_upd]
              have s5 : Same H2 (L2.upd (L2.upd (L2.upd H2 nl (.lst (st.map vN))) tp (.tup [V.int ((st.getD u 0 : Int) - 1), V.int ((st.getD (u + 1) 0 : Int) + 1)])) nl (.lst ((move st u).map vN))) :=
                Same.upd (Same.new (Same.new (Same.refl _) hnl) htp) hnl
              have hn5 : (L2.upd (L2.upd (L2.upd H2 nl (.lst (st.map vN))) tp (.tup [V.int ((st.getD u 0 : Int) - 1), V.int ((st.getD (u + 1) 0 : Int) + 1)])) nl (.lst ((move st u).map vN))) nl = some (.lst ((move st u).map vN)) := upd_same
              generalize L2.upd (L2.upd (L2.upd H2 nl (.lst (st.map vN))) tp (.tup [V.int ((st.getD u 0 : Int) - 1), V.int ((st.getD (u + 1) 0 : Int) + 1)])) nl (.lst ((move st u).map vN)) = H5 at s5 hn5
              have hcd5 := s5 _ _ hcd
              have hl5 := s5 _ _ hl2
              have hq5 := s5 _ _ hq
              have but5 := but.same s5
              clear hcd hl2 hq but s5 htp hnl nlt
              refine ⟨_, rfl, ld, rfl, .inr ⟨_, .inl hl5⟩, _, rfl, nl, _, rfl, .inl ⟨SqL.of hn5, fun k1 hk1 => ?_⟩⟩
              have up1 : ∀ {a : Addr} {o : HO}, H5 a = some o → (L2.upd H5 k1 (.tup ((move st u).map vN))) a = some o := fun {a o} e => by rw [upd_ne (ne_of_none e hk1)]; exact e
              refine ⟨_, DGet.t (k := (move st u).map nk) (up1 hl5) (by rw [upd_same, nks_kV]), ?_⟩
              refine ⟨_, rfl, _, rfl, cd, vN c, rfl, .inr ⟨(wys b many i).map em, st.map nk, q, .inr ⟨od, up1 hcd5⟩, rfl, (by rw [nks_kV]; exact up1 hq5), (by rw [valV_em, valN_at W0.nd hst]; rfl)⟩, ?_⟩
              have hsm := getD_le_sum st u
              refine ⟨_, rfl, _, rfl, q, _, (u : Int), vN (st.getD u 0), rfl, rfl, SqT.of (up1 hq5), atI_nat nu, _, _, rfl, rfl, .inr ⟨by omega, by omega⟩, _, _, getD_em _ _, rfl, ?_⟩
              refine ⟨_, rfl, _, rfl, nl, _, rfl, .inl ⟨SqL.of (up1 hn5), fun k2 hk2 => ?_⟩⟩
              have up2 : ∀ {a : Addr} {o : HO}, H5 a = some o → (L2.upd (L2.upd H5 k1 (.tup ((move st u).map vN))) k2 (.tup ((move st u).map vN))) a = some o := fun {a o} e => by rw [upd_ne (ne_of_none (up1 e) hk2)]; exact up1 e
              have htl := tab_len In
              refine ⟨ld, _, rfl, DPut.t (k := (move st u).map nk) (up2 hl5) (by rw [upd_same, nks_kV]) (sl_lt (by rw [List.length_map]; omega)), ?_⟩
              have ev : V.int ((((valN (innr st c (outr b (wys b many i) t) u) (move st u)).getD 0 : Nat) : Int) + ((c : Nat) : Int) * ((st.getD u 0 : Nat) : Int)) = vN ((valN (innr st c (outr b (wys b many i) t) u) (move st u)).getD 0 + c * st.getD u 0) := by
                rw [← Int.natCast_mul, ← Int.natCast_add]
              have ndl : cd ≠ ld := ncl
              have nql : q ≠ ld := ne_of (up2 hq5) (up2 hl5) (by intro z; cases z)
              refine ⟨some (.int (u : Int)), some (.ref nl), rfl, ?_, ?_, ?_, ?_⟩
              · rw [upd_ne ndl]
                exact up2 hcd5
              · rw [upd_same]
                show some (HO.dT (putK _ _ (V.int ((((valN (innr st c (outr b (wys b many i) t) u) (move st u)).getD 0 : Nat) : Int) + ((c : Nat) : Int) * ((st.getD u 0 : Nat) : Int))))) = some (.dT ((stp st c (innr st c (outr b (wys b many i) t) u) u).map em))
                rw [ev, putK_em]
                unfold stp
                rw [if_pos hp]
              · rw [upd_ne nql]
                exact up2 hq5
              · intro x o e hx
                rw [upd_ne (ne_of_none e hld)]
                exact up2 (but5 x o e hx)
          · rw [decide_eq_false (show ¬ (0 : Int) < ((st.getD u 0 : Nat) : Int) by omega)]
            refine iteF ?_
            refine ⟨some (.int (u : Int)), v8, rfl, hcd, ?_, hq, but⟩
            show H2 ld = some (.dT ((stp st c (innr st c (outr b (wys b many i) t) u) u).map em))
            unfold stp
            rw [if_neg hp]
            exact hl2
        · rintro σ H3 ⟨v7, v8, rfl, hcd, hl2, hq, but⟩
          rw [Int.toNat_natCast] at hl2
          refine ⟨_, _, _, rfl, hcd, ?_, but⟩
          show H3 ld = some (.dT ((innr ((wys b many i).getD t ([], 0)).1 ((wys b many i).getD t ([], 0)).2 (outr b (wys b many i) t) b).map em))
          rw [getD_of hst]
          exact hl2
      · rintro σ H2 ⟨v6, v7, v8, rfl, hcd, hl2, but⟩
        rw [List.length_map] at hl2
        refine ⟨hcd, _, rfl, ld, _, _, _, _, _, rfl, ?_, s1.free hld, ?_⟩
        · intro x o e
          have hx : x ≠ cd := ne_of_none e hcn
          rw [upd_ne hx]
          exact but x o (s1 x o e) hx
        · rw [upd_ne ncl.symm]
          exact hl2
    · rintro σ H1 ⟨cd, v4, v5, v6, v7, v8, rfl, s1, hcn, hC⟩
      rw [Int.toNat_natCast] at hC
      have W0 := wys_ok b many r
      refine ⟨cd, _, hC, trivial, fun od => ?_⟩
      refine ⟨_, rfl, cd, od, rfl, .inr ⟨_, upd_same, fun D hD => ?_⟩⟩
      have ncD : cd ≠ D := ne_of_none upd_same hD
      have hD1 : H1 D = none := by
        rw [upd_ne ncD.symm] at hD
        exact hD
      refine lc_keysT (d := cd) (o := od) (kvs := (wys b many r).map em) (fun i H' => H' = L2.upd (L2.upd H1 cd (.frz od (.dT ((wys b many r).map em)))) D (.lst (((wys b many r).take i).map fun p => vN p.2))) rfl ?_ ?_ ?_
      · rintro i H' _ rfl
        rw [upd_ne ncD, upd_same]
      · rintro i kk vv q H' hkv hq rfl
        obtain ⟨st, c, hst, rfl, rfl⟩ := nth_em hkv
        have hl := tab_len W0
        refine ⟨rfl, _, rfl, _, rfl, cd, vN c, rfl, .inr ⟨(wys b many r).map em, st.map nk, q, .inr ⟨od, by rw [upd_ne ncD, upd_same]⟩, rfl, hq, ?_⟩, _, upd_same, ?_, ?_⟩
        · rw [valV_em, valN_at W0.nd hst]
          rfl
        · rw [List.length_map, List.length_take]
          exact sl_lt (by omega)
        · rw [upd_upd, tk_next hst, List.map_append]
          rfl
      · rintro H' rfl
        rw [List.length_map, List.take_length]
        refine ⟨by rw [upd_ne ncD, upd_same], D, (wys b many r).map fun p => ((p.2 : Nat) : Int), rfl, SqL.of ?_, ?_⟩
        · rw [upd_ne ncD.symm, upd_same, List.map_map]
          rfl
        · rw [sum_map_cast, wys_sum]
          refine k _ fun x o e => ?_
          have hx : x ≠ cd := ne_of_none e hcn
          rw [upd_ne hx, upd_ne (ne_of_none (s1 x o e) hD1), upd_ne hx]
          exact s1 x o e
end
end Sh
namespace Sh
open PySem L2 Cnt
def spStep : Sp := fun vs H Q _ => ∃ b many r m : Nat, vs = [.int b, .int many, .int r, .int m] ∧ 1 ≤ b ∧ b ≤ 64 ∧ many ≤ 64 ∧ r ≤ 200 ∧ (min many m + 1) ^ (b + 1) ≤ 1000000 ∧ ∀ H' : Hp, Same H H' → Q (vN (mostN b many r m)) H'
section
variable {P : Program} {w : World} {K : PySem.W.Frag} {mg : Str → Option Value} {base : Heap}
theorem scSt : FnScope ["_law_b", "_law_many", "_law_records", "_law_m", "_law_w"] ["_law_b", "_law_many", "_law_records", "_law_m"] (defScope sStep) := ⟨rfl, rfl, rfl, by decide +kernel, rfl, by decide +kernel, by decide +kernel⟩
theorem ok_step {f fC fW : Addr} {fd fdC fdW : FuncData} (F : Fun K "_law_step" "_law_step" sStep f fd) (T : Txt mg) (DC : Hd K mg "_law_choices" sChoi ["_law_many", "_law_w"] fC fdC) (DW : Hd K mg "_law_ways" sWays ["_law_b", "_law_many", "_law_records"] fW fdW) :
    FnOk P w K mg base CX0 2 f fd ["_law_b", "_law_many", "_law_records", "_law_m"] spStep := by
  have GC : FnOk P w K mg base CX0 1 fC fdC ["_law_many", "_law_w"] spChoi := ok_choi DC.fn T
  have GW : FnOk P w K mg base CX0 1 fW fdW ["_law_b", "_law_many", "_law_records"] spWays := ok_ways DW.fn T
  refine F.ok scSt (fun vs H Q E h => ?_) (fun cdv A outer s H vs Q E hr h => ?_)
  · obtain ⟨b, many, r, m, rfl, _⟩ := h
    rfl
  · obtain ⟨b, many, r, m, rfl, hb0, hb, hm, hrr, hsz, k⟩ := h
    refine ⟨_, pss_cons (ps_set (i := 4) scSt.nd rfl (.inl rfl) (pe_callB (call_min2 (by rfl)) (by rfl) T.min PyProof.Rows.boot_min (pa_cons (pv 1) (pa_cons (pv 3) pa_nil))))
      (pss_one (ps_ret (pe_op op_mulW (pe_call GC hr rfl DC.mg DC.fn.kp DC.bd .nil pass0 (pa_cons (pv 1) (pa_cons (pv 4) pa_nil)))
        (pe_call GW hr rfl DW.mg DW.fn.kp DW.bd .nil pass0 (pa_cons (pv 0) (pa_cons (pv 4) (pa_cons (pe_callB (call_min2 (by rfl)) (by rfl) T.min PyProof.Rows.boot_min (pa_cons (pv 2) (pa_cons (pe_op op_mul (pv 0) (pv 4)) pa_nil))) pa_nil))))))), ?_⟩
    refine ⟨_, rfl, _, rfl, _, _, rfl, ?_⟩
    rw [min_int]
    refine ⟨_, rfl, _, rfl, many, min many m, rfl, hm, Nat.min_le_left _ _, fun H1 s1 => ?_⟩
    refine ⟨_, rfl, _, rfl, _, rfl, _, rfl, _, rfl, _, _, rfl, rfl, .inl ⟨by omega, by omega⟩, _, _, rfl, b, min many m, min r (b * min many m), ?_, hb0, hb, by omega, by omega, hsz, fun H2 s2 => ?_⟩
    · show [V.int b, V.int ((min many m : Nat) : Int), V.int (if (b : Int) * ((min many m : Nat) : Int) < (r : Int) then (b : Int) * ((min many m : Nat) : Int) else (r : Int))] ++ [] = _
      rw [← Int.natCast_mul, min_int]
      rfl
    · refine ⟨_, _, rfl, rfl, wide_mul (lt_pow_of (b := 201) (binom_bits (by omega)) (by decide)) (lt_pow_of (b := 1201) (fS_bits (by omega) (by omega)) (by decide)) (by decide) (by decide) (by decide), ?_⟩
      dsimp only
      rw [mul_cast]
      exact k H2 (s1.trans s2)
end
end Sh
namespace Sh
open PySem PySem.Spec PyProof.Rows L2 Cnt
section
variable {X : Cx} {CX : CXT} {k : Nat} {f : Addr} {fd : FuncData} {ps ks : List Str} {sp : Sp} {E : XK} {x : Str} {p pos : Pos} {kws : List Keyword} {tk : TA} {g : List Value → List Value → List Value} {gV : List V → List V → List V}
theorem pe_callK0 (F : FnOk X.prog X.w X.K X.mg X.base CX k f fd ps sp) (hr : Room k X.A) (hg : Gl X x) (hm : X.mg x = some (.ref f)) (hk : PySem.W.keepIn X.K (.ref f) = true) (hb : KBinds X.K fd ps ks g gV) (hx : Passes CX X E) (hkw : PK X kws tk)
    (hall : (backToKw pos (keywordEach kws X.env)).all (·.1.isSome) = true := by rfl) (hks : (backToKw pos (keywordEach kws X.env)).filterMap (·.1) = ks := by rfl) (hdb : (x == ("__debug__" : Str)) = false := by decide)
    (hpl : ((backTo pos (starEach [] X.env)).any (·.1) || (backToKw pos (keywordEach kws X.env)).any (·.1.isNone)) = false := by rfl) :
    PE X (.Call (.Name x p) [] kws pos) (tCallK sp gV E tNil tk) := by
  refine ⟨fun pins s σ H Q I h => ?_⟩
  refine wpAny_Call_Name_kw (ld_glob I hg hm ?_ hdb)
  refine PySem.W.callWith_KW0 (h₀ := X.base) I.ok.mod.kin hk hall ?_ hpl
  refine thn (hkw.run pos pins s σ H _ I h) fun ws s2 ⟨zs, H2, I2, rz, q2⟩ => ⟨I2.kIn, ?_⟩
  rw [hks]
  exact run_fnk (us := []) (vs := []) F hr hb hx I2 .nil rz q2
end
def g3 {α : Type} : List α → List α → List α
  | [], [r, m, b] => [b, m, r]
  | _, _ => []
def g4 {α : Type} : List α → List α → List α
  | [], [m, r, n, b] => [b, n, r, m]
  | _, _ => []
theorem g3_rel {vs : List V} {us : List Value} {zs : List V} {ws : List Value} (r : Vals vs us) (s : Vals zs ws) : Vals (g3 vs zs) (g3 us ws) := by
  cases r with
  | cons _ _ => exact .nil
  | nil =>
    match zs, ws, s with
    | [], [], _ => exact .nil
    | [_], [_], _ => exact .nil
    | [_, _], [_, _], _ => exact .nil
    | [_, _, _], [_, _, _], .cons a (.cons b (.cons c .nil)) => exact .cons c (.cons b (.cons a .nil))
    | _ :: _ :: _ :: _ :: _, _ :: _ :: _ :: _ :: _, _ => exact .nil
theorem g4_rel {vs : List V} {us : List Value} {zs : List V} {ws : List Value} (r : Vals vs us) (s : Vals zs ws) : Vals (g4 vs zs) (g4 us ws) := by
  cases r with
  | cons _ _ => exact .nil
  | nil =>
    match zs, ws, s with
    | [], [], _ => exact .nil
    | [_], [_], _ => exact .nil
    | [_, _], [_, _], _ => exact .nil
    | [_, _, _], [_, _, _], _ => exact .nil
    | [_, _, _, _], [_, _, _, _], .cons a (.cons b (.cons c (.cons d .nil))) => exact .cons d (.cons c (.cons b (.cons a .nil)))
    | _ :: _ :: _ :: _ :: _ :: _, _ :: _ :: _ :: _ :: _ :: _, _ => exact .nil
theorem kb_share {K : PySem.W.Frag} {f : Addr} {fd : FuncData} (F : Fun K "share_count" "share_count" sShare f fd) : KBinds K fd ["b", "many", "records"] ["records", "many", "b"] g3 g3 := by
  obtain ⟨oc, od, kV, doc, pm, an, cdv, ct, osl, rfl, lk, hcd⟩ := F.ex
  refine ⟨fun s us ws _ hl => ?_, g3_rel⟩
  match us, ws, hl with
  | [], [r, m, b], _ => exact .of_eq rfl
theorem kb_pour {K : PySem.W.Frag} {f : Addr} {fd : FuncData} (F : Fun K "pour_most" "pour_most" sPour f fd) : KBinds K fd ["b", "many", "records", "m"] ["m", "records", "many", "b"] g4 g4 := by
  obtain ⟨oc, od, kV, doc, pm, an, cdv, ct, osl, rfl, lk, hcd⟩ := F.ex
  refine ⟨fun s us ws _ hl => ?_, g4_rel⟩
  match us, ws, hl with
  | [], [m, r, n, b], _ => exact .of_eq rfl
end Sh
namespace Sh
open PySem L2 Cnt
theorem log_of {x a : Nat} (h : x ≤ 2 ^ a) (ha : a < 1919) : ((x : Nat) : Int).natAbs.log2 < 1920 := by
  have h1 : ((x : Nat) : Int).natAbs < 2 ^ (a + 1) := lt_pow_of h (by omega)
  have h2 := PySem.Flt.log2_lt_of (show 0 < a + 1 by omega) h1
  omega
theorem fS_log {b i k : Nat} (hi : i ≤ 64) (hk : k ≤ 200) : ((fS b i k : Nat) : Int).natAbs.log2 < 1920 := log_of (fS_bits hi hk) (by decide)
theorem mostN_log {b many r m : Nat} (hm : many ≤ 64) (hr : r ≤ 200) : ((mostN b many r m : Nat) : Int).natAbs.log2 < 1920 := by
  refine log_of (a := 200 + 1200) ?_ (by decide)
  rw [Nat.pow_add]
  unfold mostN
  exact Nat.mul_le_mul (binom_bits (by omega)) (fS_bits (by omega) (by omega))
theorem ways_rise (b many : Nat) : ((List.range (b * many + 1)).map fun k => ((fS b many k : Nat) : Int)).Pairwise (· ≤ ·) := by
  refine List.pairwise_map.mpr ?_
  refine List.Pairwise.imp_of_mem ?_ List.pairwise_lt_range
  intro x y _ hy hxy
  have hy := List.mem_range.mp hy
  have h := fS_mono b many (y - x) x (by omega)
  rw [show x + (y - x) = y by omega] at h
  exact Int.ofNat_le.mpr h
theorem same_sorted {a b : List Int} (hp : a.Perm b) (ha : a.Pairwise (· ≤ ·)) (hb : b.Pairwise (· ≤ ·)) : a = b := PySem.W.ksm_same hp ha hb
theorem nat_add (a b : Nat) : V.int ((a : Int) + (b : Int)) = vN (a + b) := by rw [← Int.natCast_add]
end Sh
namespace Sh
open PySem L2 Cnt
def spLaw (K : PySem.W.Frag) : Sp := fun vs H Q _ => ∃ (a : Addr) (ns : List Int), vs = [.ref a] ∧ SqL K H a (ns.map V.int) ∧ ns.length ≤ 63 ∧ ∀ H', Q (.bl true) H'
abbrev nLaw : List Str := ["_law_script", "_law_deal", "_law_turn", "_law_b", "_law_many", "_law_m", "_law_records", "_law_due", "_law_k", "_law_ways_here", "_law_low", "_law_part", "_law_first", "_law_record"]
theorem boot_repr : bootBuiltins "repr" = some (.builtin "repr") := by decide +kernel
theorem boot_sorted : bootBuiltins "sorted" = some (.builtin "sorted") := by decide +kernel
section
variable {P : Program} {w : World} {K : PySem.W.Frag} {mg : Str → Option Value} {base : Heap}
theorem scL : FnScope nLaw ["_law_script"] (defScope sLaw) := ⟨rfl, rfl, rfl, by decide +kernel, rfl, by decide +kernel, by decide +kernel⟩
theorem ok_law {f aC aS aP aD aA aO aL aW aX aT : Addr} {fd fdC fdS fdP fdD fdA fdO fdL fdW fdX fdT : FuncData} (F : Fun K "law" "law" sLaw f fd) (T : Txt mg)
    (DC : Hd K mg "chosen" sChosen ["many"] aC fdC) (DS : Hd K mg "share_count" sShare ["b", "many", "records"] aS fdS) (DP : Hd K mg "pour_most" sPour ["b", "many", "records", "m"] aP fdP)
    (DD : Hd K mg "_law_draw" sDraw ["_law_script", "_law_salt"] aD fdD) (DA : Hd K mg "_law_any" sAny ["_law_deal", "_law_bound"] aA fdA) (DO : Hd K mg "_law_of" sOf ["_law_deal", "_law_some"] aO fdO)
    (DL : Hd K mg "_law_placings" sPlac ["_law_b", "_law_many", "_law_records"] aL fdL) (DW : Hd K mg "_law_ways" sWays ["_law_b", "_law_many", "_law_records"] aW fdW)
    (DX : Hd K mg "_law_choices" sChoi ["_law_many", "_law_w"] aX fdX) (DT : Hd K mg "_law_step" sStep ["_law_b", "_law_many", "_law_records", "_law_m"] aT fdT) :
    FnOk P w K mg base CX0 4 f fd ["_law_script"] (spLaw K) := by
  have GS : FnOk P w K mg base CX0 2 aS fdS ["b", "many", "records"] spShare := ok_share DS.fn T DC
  have GP : FnOk P w K mg base CX0 3 aP fdP ["b", "many", "records", "m"] spPour := ok_pour DP.fn T DC DS
  have GD : FnOk P w K mg base CX0 1 aD fdD ["_law_script", "_law_salt"] (spDraw K) := ok_draw DD.fn T
  have GA : FnOk P w K mg base CX0 1 aA fdA ["_law_deal", "_law_bound"] spAny := ok_any DA.fn T
  have GO : FnOk P w K mg base CX0 2 aO fdO ["_law_deal", "_law_some"] spOf := ok_of DO.fn T DA
  have GL : FnOk P w K mg base CX0 1 aL fdL ["_law_b", "_law_many", "_law_records"] spPlac := ok_plac DL.fn T
  have GW : FnOk P w K mg base CX0 1 aW fdW ["_law_b", "_law_many", "_law_records"] spWays := ok_ways DW.fn T
  have GT : FnOk P w K mg base CX0 2 aT fdT ["_law_b", "_law_many", "_law_records", "_law_m"] spStep := ok_step DT.fn T DX DW
  have KS := kb_share DS.fn
  have KP := kb_pour DP.fn
  refine F.ok scL (fun vs H Q E h => ?_) (fun cdv A outer s H vs Q E hr h => ?_)
  · obtain ⟨a, ns, rfl, _⟩ := h
    rfl
  · obtain ⟨a, ns, rfl, hS, hl, k⟩ := h
    refine ⟨_, (pss_cons (ps_set (i := 1) scL.nd rfl (.inl rfl) (pe_call GD (hr.mono (by decide)) rfl DD.mg DD.fn.kp DD.bd .nil pass0 (pa_cons (pv 0) (pa_cons pe_int pa_nil))))
      (pss_cons (ps_for PassesOwn.never rfl (pi_range1 (by rfl) T.range (pa_cons pe_int pa_nil)) (pg_name (i := 2) scL.nd rfl (Or.inl rfl))
      (pss_cons (ps_asg (pe_tup (pa_cons (pe_op op_add pe_int (pe_call GA (hr.mono (by decide)) rfl DA.mg DA.fn.kp DA.bd .nil pass0 (pa_cons (pv 1) (pa_cons pe_int pa_nil)))) (pa_cons (pe_op op_add pe_int (pe_call GA (hr.mono (by decide)) rfl DA.mg DA.fn.kp DA.bd .nil pass0 (pa_cons (pv 1) (pa_cons pe_int pa_nil)))) (pa_cons (pe_op op_add pe_int (pe_call GA (hr.mono (by decide)) rfl DA.mg DA.fn.kp DA.bd .nil pass0 (pa_cons (pv 1) (pa_cons pe_int pa_nil)))) pa_nil)))) (pg_tup rfl (pgs_cons (pg_name (i := 3) scL.nd rfl (.inr rfl)) (pgs_cons (pg_name (i := 4) scL.nd rfl (.inr rfl)) (pgs_cons (pg_name (i := 5) scL.nd rfl (.inl rfl)) pgs_nil)))))
      (pss_cons (ps_set (i := 6) scL.nd rfl (.inl rfl) (pe_call GA (hr.mono (by decide)) rfl DA.mg DA.fn.kp DA.bd .nil pass0 (pa_cons (pv 1) (pa_cons (pe_op op_add (pe_callB (call_min2 (by rfl)) (by rfl) T.min PyProof.Rows.boot_min (pa_cons (pe_op op_mul (pv 3) (pv 4)) (pa_cons (pe_ifExp (pt_cmpR op_lt (pv 4) pe_int (nomark _)) pe_int pe_int) pa_nil))) pe_int) pa_nil))))
      (pss_cons (ps_set (i := 7) scL.nd rfl (.inl rfl) (pe_callB call_len_seq (by rfl) T.len PySem.boot_len (pa_cons (pe_call GL (hr.mono (by decide)) rfl DL.mg DL.fn.kp DL.bd .nil pass0 (pa_cons (pv 3) (pa_cons (pv 4) (pa_cons (pv 6) pa_nil)))) pa_nil)))
      (pss_cons (ps_if (PW.pt (pw_or (pt_cmpR op_ne (pe_callB SkE.call_repr_int (by rfl) T.repr boot_repr (pa_cons (pe_call GS (hr.mono (by decide)) rfl DS.mg DS.fn.kp DS.bd .nil pass0 (pa_cons (pv 3) (pa_cons (pv 4) (pa_cons (pv 6) pa_nil)))) pa_nil)) (pe_callB SkE.call_repr_int (by rfl) T.repr boot_repr (pa_cons (pv 7) pa_nil)) (nomark _)) (pw_or1 (pt_cmpR op_ne (pe_callB SkE.call_repr_int (by rfl) T.repr boot_repr (pa_cons (pe_callK0 GS (hr.mono (by decide)) rfl DS.mg DS.fn.kp KS pass0 (pk_cons (pv 6) (pk_cons (pv 4) (pk_cons (pv 3) pk_nil)))) pa_nil)) (pe_callB SkE.call_repr_int (by rfl) T.repr boot_repr (pa_cons (pv 7) pa_nil)) (nomark _))))) (pss_one (ps_ret pe_bl)) pss_nil)
      (pss_cons (ps_set (i := 7) scL.nd rfl (.inl rfl) (pe_call GT (hr.mono (by decide)) rfl DT.mg DT.fn.kp DT.bd .nil pass0 (pa_cons (pv 3) (pa_cons (pv 4) (pa_cons (pv 6) (pa_cons (pv 5) pa_nil))))))
      (pss_cons (ps_if (PW.pt (pw_or (pt_cmpR op_ne (pe_callB SkE.call_repr_int (by rfl) T.repr boot_repr (pa_cons (pe_call GP (hr.mono (by decide)) rfl DP.mg DP.fn.kp DP.bd .nil pass0 (pa_cons (pv 3) (pa_cons (pv 4) (pa_cons (pv 6) (pa_cons (pv 5) pa_nil))))) pa_nil)) (pe_callB SkE.call_repr_int (by rfl) T.repr boot_repr (pa_cons (pv 7) pa_nil)) (nomark _)) (pw_or1 (pt_cmpR op_ne (pe_callB SkE.call_repr_int (by rfl) T.repr boot_repr (pa_cons (pe_callK0 GP (hr.mono (by decide)) rfl DP.mg DP.fn.kp KP pass0 (pk_cons (pv 5) (pk_cons (pv 6) (pk_cons (pv 4) (pk_cons (pv 3) pk_nil))))) pa_nil)) (pe_callB SkE.call_repr_int (by rfl) T.repr boot_repr (pa_cons (pv 7) pa_nil)) (nomark _))))) (pss_one (ps_ret pe_bl)) pss_nil)
      (pss_cons (ps_asg (pe_tup (pa_cons (pe_op op_add pe_int (pe_call GA (hr.mono (by decide)) rfl DA.mg DA.fn.kp DA.bd .nil pass0 (pa_cons (pv 1) (pa_cons pe_int pa_nil)))) (pa_cons (pe_op op_add pe_int (pe_call GA (hr.mono (by decide)) rfl DA.mg DA.fn.kp DA.bd .nil pass0 (pa_cons (pv 1) (pa_cons pe_int pa_nil)))) pa_nil))) (pg_tup rfl (pgs_cons (pg_name (i := 3) scL.nd rfl (.inr rfl)) (pgs_cons (pg_name (i := 4) scL.nd rfl (.inr rfl)) pgs_nil))))
      (pss_cons (ps_setLc (i := 9) (own := [("_law_k", 8)]) (g := gName 8) (by rfl) scL.nd rfl rfl (sw_true rfl rfl rfl (by decide +kernel)) (pi_range1 (by rfl) T.range (pa_cons (pe_op op_add (pe_op op_mul (pv 3) (pv 4)) pe_int) pa_nil))
        (blkOk_by (own := [("_law_k", 8)]) (N := nLaw) (sc := defScope sLaw) (by decide +kernel)) (fun _ _ _ _ _ => pg_name (i := 8) scL.nd rfl (Or.inl rfl)) (fun _ _ _ _ _ => pts_nil)
        (fun _ _ _ _ _ => (pe_call GS (hr.mono (by decide)) rfl DS.mg DS.fn.kp DS.bd .nil pass0 (pa_cons (pv 3) (pa_cons (pv 4) (pa_cons (pv 8) pa_nil))))))
      (pss_cons (ps_set (i := 8) scL.nd rfl (.inl rfl) (pe_call GA (hr.mono (by decide)) rfl DA.mg DA.fn.kp DA.bd .nil pass0 (pa_cons (pv 1) (pa_cons (pe_op op_add (pe_op op_mul (pv 3) (pv 4)) pe_int) pa_nil))))
      (pss_one (ps_if (PW.pt (pw_or (pt_cmpR (op_neD hr.units) (pv 9) (pe_callB cr_sorted (by rfl) T.sorted boot_sorted (pa_cons (pv 9) pa_nil)) (nomark _)) (pw_or1 (pt_cmpR op_ne (pe_ix ix_list (pv 9) (pv 8) (fun _ _ => rfl)) (pe_call GW (hr.mono (by decide)) rfl DW.mg DW.fn.kp DW.bd .nil pass0 (pa_cons (pv 3) (pa_cons (pv 4) (pa_cons (pv 8) pa_nil)))) (nomark _))))) (pss_one (ps_ret pe_bl)) pss_nil))))))))))))
      (pss_cons (ps_asg (pe_call GO (hr.mono (by decide)) rfl DO.mg DO.fn.kp DO.bd .nil pass0 (pa_cons (pv 1) (pa_cons (pe_lst (pa_cons (pe_tup (pa_cons pe_int (pa_cons pe_int pa_nil))) (pa_cons (pe_tup (pa_cons pe_int (pa_cons pe_int pa_nil))) pa_nil))) pa_nil))) (pg_tup rfl (pgs_cons (pg_name (i := 3) scL.nd rfl (.inr rfl)) (pgs_cons (pg_name (i := 4) scL.nd rfl (.inr rfl)) pgs_nil))))
      (pss_cons (ps_if (pt_cmpR op_ne (pe_call GS (hr.mono (by decide)) rfl DS.mg DS.fn.kp DS.bd .nil pass0 (pa_cons (pv 3) (pa_cons (pv 4) (pa_cons pe_int pa_nil)))) (pe_call GW (hr.mono (by decide)) rfl DW.mg DW.fn.kp DW.bd .nil pass0 (pa_cons (pv 3) (pa_cons (pv 4) (pa_cons pe_int pa_nil)))) (nomark _)) (pss_one (ps_ret pe_bl)) pss_nil)
      (pss_cons (ps_set (i := 3) scL.nd rfl (.inr rfl) (pe_op op_add pe_int (pe_call GA (hr.mono (by decide)) rfl DA.mg DA.fn.kp DA.bd .nil pass0 (pa_cons (pv 1) (pa_cons pe_int pa_nil)))))
      (pss_cons (ps_set (i := 6) scL.nd rfl (.inl rfl) (pe_call GA (hr.mono (by decide)) rfl DA.mg DA.fn.kp DA.bd .nil pass0 (pa_cons (pv 1) (pa_cons (pe_op op_add (pe_op op_mul pe_int (pv 3)) pe_int) pa_nil))))
      (pss_cons (ps_par3 (i := 10) (j := 7) (l := 11) (by rfl) scL.nd rfl rfl rfl (by decide) (by decide) (by decide) rfl rfl rfl (pa_cons (pe_callB (call_max2 (by rfl)) (by rfl) T.max PyProof.Rows.boot_max (pa_cons pe_int (pa_cons (pe_op op_sub (pv 6) (pv 3)) pa_nil))) (pa_cons pe_int (pa_cons pe_int pa_nil))) (by rfl))
      (pss_cons (ps_for PassesOwn.never rfl (pi_range1 (by rfl) T.range (pa_cons (pe_op op_add (pe_callB (call_min2 (by rfl)) (by rfl) T.min PyProof.Rows.boot_min (pa_cons (pv 3) (pa_cons (pv 6) pa_nil))) pe_int) pa_nil)) (pg_name (i := 12) scL.nd rfl (Or.inl rfl))
      (pss_cons (ps_set (i := 7) scL.nd rfl (.inl rfl) (pe_op op_add (pv 7) (pe_ifExp (pt_cmpR op_ge (pv 12) (pv 10) (nomark _)) (pv 11) pe_int)))
      (pss_one (ps_set (i := 11) scL.nd rfl (.inl rfl) (pe_op op_fdiv (pe_op op_mul (pv 11) (pe_op op_sub (pv 6) (pv 12))) (pe_op op_add (pv 12) pe_int))))))
      (pss_cons (ps_if (pt_cmpR op_ne (pe_callB SkE.call_repr_int (by rfl) T.repr boot_repr (pa_cons (pe_call GS (hr.mono (by decide)) rfl DS.mg DS.fn.kp DS.bd .nil pass0 (pa_cons (pv 3) (pa_cons pe_int (pa_cons (pv 6) pa_nil)))) pa_nil)) (pe_callB SkE.call_repr_int (by rfl) T.repr boot_repr (pa_cons (pv 7) pa_nil)) (nomark _)) (pss_one (ps_ret pe_bl)) pss_nil)
      (pss_cons (ps_asg (pe_tup (pa_cons (pe_op op_add pe_int (pe_call GA (hr.mono (by decide)) rfl DA.mg DA.fn.kp DA.bd .nil pass0 (pa_cons (pv 1) (pa_cons pe_int pa_nil)))) (pa_cons pe_int pa_nil))) (pg_tup rfl (pgs_cons (pg_name (i := 4) scL.nd rfl (.inr rfl)) (pgs_cons (pg_name (i := 7) scL.nd rfl (.inl rfl)) pgs_nil))))
      (pss_cons (ps_for PassesOwn.never rfl (pi_range1 (by rfl) T.range (pa_cons (pe_call GA (hr.mono (by decide)) rfl DA.mg DA.fn.kp DA.bd .nil pass0 (pa_cons (pv 1) (pa_cons (pe_op op_add (pv 4) pe_int) pa_nil))) pa_nil)) (pg_name (i := 13) scL.nd rfl (Or.inl rfl))
      (pss_cons (ps_par (i := 7) (j := 6) (by rfl) scL.nd rfl rfl (by decide) rfl rfl (pa_cons (pe_op op_mul (pv 7) (pe_op op_sub (pv 4) (pv 13))) (pa_cons (pe_op op_add (pv 13) pe_int) pa_nil)) (by rfl))
      (pss_one (ps_if (PW.pt (pw_and (pt_cmpR op_eq (pe_op op_mod (pv 13) pe_int) pe_int (nomark _)) (pw_and1 (pt_cmpR op_ne (pe_callB SkE.call_repr_int (by rfl) T.repr boot_repr (pa_cons (pe_call GS (hr.mono (by decide)) rfl DS.mg DS.fn.kp DS.bd .nil pass0 (pa_cons pe_int (pa_cons (pv 4) (pa_cons (pv 6) pa_nil)))) pa_nil)) (pe_callB SkE.call_repr_int (by rfl) T.repr boot_repr (pa_cons (pv 7) pa_nil)) (nomark _))))) (pss_one (ps_ret pe_bl)) pss_nil))))
      (pss_one (ps_ret pe_bl))))))))))))), ?_⟩
    refine seq_mid (fun σ H1 => ∃ (d c : Addr) (ns : List Int) (z : Int), σ = [some (.ref a), some (.ref d), none, none, none, none, none, none, none, none, none, none, none, none] ∧ Deal H1 d c ns z) (fun behind => ?_) ?_
    · exact ⟨_, rfl, a, ns, rfl, hS, hl, fun H1 d c ns1 z1 _ _ _ D1 => behind _ _ ⟨d, c, ns1, z1, rfl, D1⟩⟩
    clear hS hl ns
    rintro σ H1 ⟨d, c, ns1, z1, rfl, D1⟩
    refine seq_mid (fun σ H2 => ∃ (ns : List Int) (z : Int) (v2 v3 v4 v5 v6 v7 v8 v9 v10 v11 v12 v13 : Option V), σ = [some (.ref a), some (.ref d), v2, v3, v4, v5, v6, v7, v8, v9, v10, v11, v12, v13] ∧ Deal H2 d c ns z) (fun behind => ?_) ?_
    · refine ⟨4, rfl, by decide, by decide, for_range (lo := 0) (n := (4 : Int).toNat) (fun i σ H2 => ∃ (ns : List Int) (z : Int) (v2 v3 v4 v5 v6 v7 v8 v9 v10 v11 v12 v13 : Option V), σ = [some (.ref a), some (.ref d), v2, v3, v4, v5, v6, v7, v8, v9, v10, v11, v12, v13] ∧ Deal H2 d c ns z)
        ⟨ns1, z1, none, none, none, none, none, none, none, none, none, none, none, none, rfl, D1⟩ ?_ (fun σ H2 => behind σ H2)⟩
      clear behind D1 H1 z1 ns1
      rintro i σ H1 _ ⟨ns, z, v2, v3, v4, v5, v6, v7, v8, v9, v10, v11, v12, v13, rfl, D⟩
      refine seq_mid (fun σ H2 => ∃ (b many m : Nat) (ns : List Int) (z : Int), σ = [some (.ref a), some (.ref d), some (.int (0 + (i : Int))), some (vN b), some (vN many), some (vN m), v6, v7, v8, v9, v10, v11, v12, v13] ∧ 1 ≤ b ∧ b ≤ 4 ∧ 1 ≤ many ∧ many ≤ 4 ∧ m ≤ 5 ∧ Deal H2 d c ns z) (fun behind => ?_) ?_
      · refine ⟨_, rfl, d, c, ns, z, 4, rfl, D, by decide, by decide, fun H2 ns2 z2 r1 D2 _ h1 => ⟨_, _, rfl, rfl, ?_⟩⟩
        refine ⟨_, rfl, d, c, ns2, z2, 4, rfl, D2, by decide, by decide, fun H3 ns3 z3 r2 D3 _ h2 => ⟨_, _, rfl, rfl, ?_⟩⟩
        refine ⟨_, rfl, d, c, ns3, z3, 4, rfl, D3, by decide, by decide, fun H4 ns4 z4 r3 D4 _ h3 => ⟨_, _, rfl, rfl, (by show 3 ≤ sizeLine; decide), fun tp htp => ?_⟩⟩
        refine ⟨tp, _, rfl, SqT.of upd_same, rfl, _, _, rfl, _, _, rfl, _, _, rfl, rfl, ?_⟩
        exact behind _ _ ⟨1 + r1, 1 + r2, 2 + r3, ns4, z4, rfl, by omega, by omega, by omega, by omega, by omega, D4.same (Same.new (Same.refl _) htp)⟩
      clear D z ns H1
      rintro σ H1 ⟨b, many, m, ns, z, rfl, hb1, hb4, hm1, hm4, hm5, D⟩
      refine seq_mid (fun σ H2 => ∃ (r : Nat) (ns : List Int) (z : Int), σ = [some (.ref a), some (.ref d), some (.int (0 + (i : Int))), some (vN b), some (vN many), some (vN m), some (vN r), v7, v8, v9, v10, v11, v12, v13] ∧ r ≤ 6 ∧ Deal H2 d c ns z) (fun behind => ?_) ?_
      · have e6 : (if (6 : Int) < (b : Int) * (many : Int) then 6 else (b : Int) * (many : Int)) + 1 = ((min (b * many) 6 + 1 : Nat) : Int) := by rw [← Int.natCast_mul]; split <;> omega
        have e5 : (if (5 : Int) < (b : Int) * (many : Int) then 5 else (b : Int) * (many : Int)) + 1 = ((min (b * many) 5 + 1 : Nat) : Int) := by rw [← Int.natCast_mul]; split <;> omega
        refine ⟨_, rfl, _, rfl, _, rfl, _, _, rfl, rfl, .inl ⟨by omega, by omega⟩, _, rfl, _, _, rfl, rfl, _, rfl, ?_⟩
        refine ite2 (fun _ => ?_) (fun _ => ?_)
        · refine ⟨_, _, rfl, _, _, rfl, rfl, d, c, ns, z, min (b * many) 6 + 1, ?_, D, by omega, by omega, fun H2 ns2 z2 r D2 _ h1 => behind _ _ ⟨r, ns2, z2, rfl, by omega, D2⟩⟩
          show [V.ref d, V.int ((if (6 : Int) < (b : Int) * (many : Int) then 6 else (b : Int) * (many : Int)) + 1)] = _
          rw [e6]
        · refine ⟨_, _, rfl, _, _, rfl, rfl, d, c, ns, z, min (b * many) 5 + 1, ?_, D, by omega, by omega, fun H2 ns2 z2 r D2 _ h1 => behind _ _ ⟨r, ns2, z2, rfl, by omega, D2⟩⟩
          show [V.ref d, V.int ((if (5 : Int) < (b : Int) * (many : Int) then 5 else (b : Int) * (many : Int)) + 1)] = _
          rw [e5]
      clear D z ns H1
      rintro σ H1 ⟨r, ns, z, rfl, hr6, D⟩
      refine seq_mid (fun σ H2 => σ = [some (.ref a), some (.ref d), some (.int (0 + (i : Int))), some (vN b), some (vN many), some (vN m), some (vN r), some (vN (fS b many r)), v8, v9, v10, v11, v12, v13] ∧ Deal H2 d c ns z) (fun behind => ?_) ?_
      · refine ⟨_, rfl, _, rfl, _, rfl, b, many, r, rfl, by omega, by omega, by omega, fun H2 p as s2 hp hlen => ⟨p, _, rfl, .inl (SqL.of hp), ?_⟩⟩
        refine behind _ _ ⟨?_, D.same s2⟩
        have e : V.int (((as.map V.ref).length : Nat) : Int) = vN (fS b many r) := by rw [List.length_map, hlen, plcs_len]
        rw [← e]
        rfl
      clear D H1
      rintro σ H1 ⟨rfl, D⟩
      refine seq_mid (fun σ H2 => σ = [some (.ref a), some (.ref d), some (.int (0 + (i : Int))), some (vN b), some (vN many), some (vN m), some (vN r), some (vN (fS b many r)), v8, v9, v10, v11, v12, v13] ∧ Deal H2 d c ns z) (fun behind => ?_) ?_
      · refine ⟨_, rfl, _, rfl, _, rfl, b, many, r, rfl, by omega, by omega, by omega, fun H2 s2 => ?_⟩
        refine ⟨_, rfl, fS_log (by omega) (by omega), _, rfl, _, rfl, fS_log (by omega) (by omega), rfl, _, rfl, iteNS rfl ?_⟩
        refine ⟨_, rfl, _, rfl, _, rfl, b, many, r, rfl, by omega, by omega, by omega, fun H3 s3 => ?_⟩
        refine ⟨_, rfl, fS_log (by omega) (by omega), _, rfl, _, rfl, fS_log (by omega) (by omega), rfl, _, rfl, iteNS rfl ?_⟩
        exact behind _ _ ⟨rfl, D.same (s2.trans s3)⟩
      clear D H1
      rintro σ H1 ⟨rfl, D⟩
      refine seq_mid (fun σ H2 => σ = [some (.ref a), some (.ref d), some (.int (0 + (i : Int))), some (vN b), some (vN many), some (vN m), some (vN r), some (vN (mostN b many r m)), v8, v9, v10, v11, v12, v13] ∧ Deal H2 d c ns z) (fun behind => ?_) ?_
      · refine ⟨_, rfl, _, rfl, _, rfl, _, rfl, b, many, r, m, rfl, by omega, by omega, by omega, by omega, ?_, fun H2 s2 => behind _ _ ⟨rfl, D.same s2⟩⟩
        refine Nat.le_trans (Nat.pow_le_pow_left (show min many m + 1 ≤ 5 by omega) (b + 1)) (Nat.le_trans (Nat.pow_le_pow_right (by decide) (show b + 1 ≤ 5 by omega)) (by decide))
      clear D H1
      rintro σ H1 ⟨rfl, D⟩
      refine seq_mid (fun σ H2 => σ = [some (.ref a), some (.ref d), some (.int (0 + (i : Int))), some (vN b), some (vN many), some (vN m), some (vN r), some (vN (mostN b many r m)), v8, v9, v10, v11, v12, v13] ∧ Deal H2 d c ns z) (fun behind => ?_) ?_
      · refine ⟨_, rfl, _, rfl, _, rfl, _, rfl, b, many, r, m, rfl, by omega, by omega, by omega, fun H2 s2 => ?_⟩
        refine ⟨_, rfl, mostN_log (by omega) (by omega), _, rfl, _, rfl, mostN_log (by omega) (by omega), rfl, _, rfl, iteNS rfl ?_⟩
        refine ⟨_, rfl, _, rfl, _, rfl, _, rfl, b, many, r, m, rfl, by omega, by omega, by omega, fun H3 s3 => ?_⟩
        refine ⟨_, rfl, mostN_log (by omega) (by omega), _, rfl, _, rfl, mostN_log (by omega) (by omega), rfl, _, rfl, iteNS rfl ?_⟩
        exact behind _ _ ⟨rfl, D.same (s2.trans s3)⟩
      generalize some (vN (mostN b many r m)) = v7
      generalize some (vN r) = v6
      clear D H1 hb1 hb4 hm1 hm4 hm5 hr6
      rintro σ H1 ⟨rfl, D⟩
      refine seq_mid (fun σ H2 => ∃ (b many : Nat) (ns : List Int) (z : Int), σ = [some (.ref a), some (.ref d), some (.int (0 + (i : Int))), some (vN b), some (vN many), some (vN m), v6, v7, v8, v9, v10, v11, v12, v13] ∧ 1 ≤ b ∧ b ≤ 5 ∧ 1 ≤ many ∧ many ≤ 6 ∧ Deal H2 d c ns z) (fun behind => ?_) ?_
      · refine ⟨_, rfl, d, c, ns, z, 5, rfl, D, by decide, by decide, fun H2 ns2 z2 r1 D2 _ h1 => ⟨_, _, rfl, rfl, ?_⟩⟩
        refine ⟨_, rfl, d, c, ns2, z2, 5, rfl, D2, by decide, by decide, fun H3 ns3 z3 r2 D3 _ h2 => ⟨_, _, rfl, rfl, (by show 2 ≤ sizeLine; decide), fun tp htp => ?_⟩⟩
        refine ⟨tp, _, rfl, SqT.of upd_same, rfl, _, _, rfl, _, _, rfl, rfl, ?_⟩
        exact behind _ _ ⟨1 + r1, 2 + r2, ns3, z3, rfl, by omega, by omega, by omega, by omega, D3.same (Same.new (Same.refl _) htp)⟩
      generalize some (vN m) = v5
      clear D z ns H1 b many
      rintro σ H1 ⟨b, many, ns, z, rfl, hb1, hb5, hm1, hm6, D⟩
      have hbm : b * many ≤ 30 := Nat.mul_le_mul hb5 hm6
      have ebm : (b : Int) * (many : Int) + 1 = ((b * many + 1 : Nat) : Int) := by rw [← Int.natCast_mul]; omega
      refine seq_mid (fun σ H2 => ∃ D1 : Addr, σ = [some (.ref a), some (.ref d), some (.int (0 + (i : Int))), some (vN b), some (vN many), v5, v6, v7, v8, some (.ref D1), v10, v11, v12, v13] ∧ D1 ≠ d ∧ D1 ≠ c ∧ H2 D1 = some (.lst ((List.range (b * many + 1)).map fun k => vN (fS b many k))) ∧ Deal H2 d c ns z) (fun behind => ?_) ?_
      · refine ⟨_, rfl, _, rfl, _, _, rfl, rfl, .inl ⟨by omega, by omega⟩, _, _, rfl, rfl, _, rfl, ?_, ?_, fun D1 hD1 => ?_⟩
        · show -(2 ^ 62) ≤ (b : Int) * (many : Int) + 1
          rw [ebm]
          omega
        · show (b : Int) * (many : Int) + 1 < 2 ^ 62
          rw [ebm]
          omega
        · have eT : ((b : Int) * (many : Int) + 1).toNat = b * many + 1 := by rw [ebm]; omega
          refine lc_range (lo := 0) (n := ((b : Int) * (many : Int) + 1).toNat) (fun t H' => Same H1 H' ∧ H' D1 = some (.lst ((List.range t).map fun k => vN (fS b many k)))) ⟨Same.new (Same.refl _) hD1, upd_same⟩ ?_ ?_
          · rintro t H2 ht ⟨s2, hL⟩
            rw [eT] at ht
            rw [Int.zero_add (t : Int)]
            refine ⟨rfl, _, rfl, _, rfl, _, rfl, b, many, t, rfl, by omega, by omega, by omega, fun H3 s3 => ⟨_, s3 _ _ hL, ?_, Same.upd (s2.trans s3) hD1, ?_⟩⟩
            · rw [List.length_map, List.length_range]
              exact sl_lt (by omega)
            · rw [upd_same, map_range_succ]
          · rintro H2 ⟨s2, hL⟩
            rw [eT] at hL
            exact behind _ _ ⟨D1, rfl, (ne_of_none D.hd hD1).symm, (ne_of_none D.hc hD1).symm, hL, D.same s2⟩
      clear D H1
      rintro σ H1 ⟨D1, rfl, nd, nc, hD1, D⟩
      refine seq_mid (fun σ H2 => ∃ (kk : Nat) (ns : List Int) (z : Int), σ = [some (.ref a), some (.ref d), some (.int (0 + (i : Int))), some (vN b), some (vN many), v5, v6, v7, some (vN kk), some (.ref D1), v10, v11, v12, v13] ∧ kk ≤ b * many ∧ H2 D1 = some (.lst ((List.range (b * many + 1)).map fun k => vN (fS b many k))) ∧ Deal H2 d c ns z) (fun behind => ?_) ?_
      · refine ⟨_, rfl, _, rfl, _, rfl, _, _, rfl, rfl, .inl ⟨by omega, by omega⟩, _, _, rfl, rfl, d, c, ns, z, b * many + 1, ?_, D, by omega, by omega, fun H2 ns2 z2 r D2 B2 h1 => behind _ _ ⟨r, ns2, z2, rfl, by omega, B2 _ _ hD1 nd nc, D2⟩⟩
        show [V.ref d, V.int ((b : Int) * (many : Int) + 1)] = _
        rw [ebm]
      clear D H1 hD1 ns z
      rintro σ H1 ⟨kk, ns, z, rfl, hkk, hD1, D⟩
      have hmap : ((List.range (b * many + 1)).map fun k => vN (fS b many k)) = ((List.range (b * many + 1)).map fun k => ((fS b many k : Nat) : Int)).map V.int := by
        rw [List.map_map]
        rfl
      have hSL : SqL K H1 D1 (((List.range (b * many + 1)).map fun k => ((fS b many k : Nat) : Int)).map V.int) := SqL.of (by rw [← hmap]; exact hD1)
      refine ⟨_, rfl, _, rfl, D1, (List.range (b * many + 1)).map fun k => ((fS b many k : Nat) : Int), rfl, hSL, by rw [List.length_map, List.length_range]; omega, fun ns' p perm rising hp => ?_⟩
      have same := same_sorted perm rising (ways_rise b many)
      subst same
      have s2 : Same H1 (L2.upd H1 p (.lst (((List.range (b * many + 1)).map fun k => ((fS b many k : Nat) : Int)).map V.int))) := Same.new (Same.refl _) hp
      refine ⟨_, _, .lst (s2.seq hSL) (dAll_ints _), .lst (SqL.of upd_same) (dAll_ints _), shaped_ints _, shaped_ints _, _, rfl, ?_⟩
      rw [eqv_ints_self]
      refine iteF ?_
      refine ⟨_, rfl, _, rfl, D1, _, _, vN (fS b many kk), rfl, rfl, s2.seq (SqL.of hD1), atI_nat (nth_map (nth_range (by omega))), ?_⟩
      refine ⟨_, rfl, _, rfl, _, rfl, b, many, kk, rfl, hb1, by omega, by omega, by omega, ?_, fun H2 s3 => ⟨rfl, _, rfl, iteNS rfl ?_⟩⟩
      · refine Nat.le_trans (Nat.pow_le_pow_left (show many + 1 ≤ 7 by omega) (b + 1)) (Nat.le_trans (Nat.pow_le_pow_right (by decide) (show b + 1 ≤ 6 by omega)) (by decide))
      · exact ⟨ns, z, _, _, _, _, _, _, _, _, _, _, _, _, rfl, D.same (s2.trans s3)⟩
    · clear D1 H1 z1
      rintro σ H1 ⟨ns, z, v2, v3, v4, v5, v6, v7, v8, v9, v10, v11, v12, v13, rfl, D⟩
      refine seq_mid (fun σ H2 => ∃ (b many : Nat) (ns : List Int) (z : Int), σ = [some (.ref a), some (.ref d), v2, some (vN b), some (vN many), v5, v6, v7, v8, v9, v10, v11, v12, v13] ∧ ((b = 1 ∧ many = 40) ∨ (b = 2 ∧ many = 30)) ∧ Deal H2 d c ns z) (fun behind => ?_) ?_
      · refine ⟨_, rfl, (by show 2 ≤ sizeLine; decide), fun t1 h1 => ⟨(by show 2 ≤ sizeLine; decide), fun t2 h2 => ⟨(by show 2 ≤ sizeLine; decide), fun lp h3 => ?_⟩⟩⟩
        have s3 : Same H1 (L2.upd (L2.upd (L2.upd H1 t1 (.tup [V.int 1, V.int 40])) t2 (.tup [V.int 2, V.int 30])) lp (.lst [.ref t1, .ref t2])) := Same.new (Same.new (Same.new (Same.refl _) h1) h2) h3
        have n12 : t1 ≠ t2 := ne_of_none upd_same h2
        have n13 : t1 ≠ lp := ne_of_none (by rw [upd_ne n12, upd_same]) h3
        have n23 : t2 ≠ lp := ne_of_none upd_same h3
        have hd1 : H1 t1 = none := h1
        have hd2 : H1 t2 = none := (Same.new (Same.refl H1) h1).free h2
        have hd3 : H1 lp = none := (Same.new (Same.new (Same.refl H1) h1) h2).free h3
        have ht1 : (L2.upd (L2.upd (L2.upd H1 t1 (.tup [V.int 1, V.int 40])) t2 (.tup [V.int 2, V.int 30])) lp (.lst [.ref t1, .ref t2])) t1 = some (.tup [V.int 1, V.int 40]) := by rw [upd_ne n13, upd_ne n12, upd_same]
        have ht2 : (L2.upd (L2.upd (L2.upd H1 t1 (.tup [V.int 1, V.int 40])) t2 (.tup [V.int 2, V.int 30])) lp (.lst [.ref t1, .ref t2])) t2 = some (.tup [V.int 2, V.int 30]) := by rw [upd_ne n23, upd_same]
        refine ⟨d, c, lp, ns, z, _, rfl, D.same s3, upd_same, (ne_of_none D.hd hd3).symm, (ne_of_none D.hc hd3).symm, (by show 0 < 2; decide), (by show 2 ≤ 1000; decide), fun H2 ns2 z2 j v D2 B2 hv => ?_⟩
        match j, hv with
        | 0, hv =>
          obtain rfl : V.ref t1 = v := Option.some.inj hv
          exact ⟨t1, _, rfl, SqT.of (B2 _ _ ht1 (ne_of_none D.hd hd1).symm (ne_of_none D.hc hd1).symm), rfl, _, _, rfl, _, _, rfl, rfl, behind _ _ ⟨1, 40, ns2, z2, rfl, .inl ⟨rfl, rfl⟩, D2⟩⟩
        | 1, hv =>
          obtain rfl : V.ref t2 = v := Option.some.inj hv
          exact ⟨t2, _, rfl, SqT.of (B2 _ _ ht2 (ne_of_none D.hd hd2).symm (ne_of_none D.hc hd2).symm), rfl, _, _, rfl, _, _, rfl, rfl, behind _ _ ⟨2, 30, ns2, z2, rfl, .inr ⟨rfl, rfl⟩, D2⟩⟩
        | j + 2, hv => exact absurd (nth_lt hv) (by show ¬ j + 2 < 2; omega)
      clear D H1 ns z
      rintro σ H1 ⟨b, many, ns, z, rfl, hbm, D⟩
      refine seq_mid (fun σ H2 => σ = [some (.ref a), some (.ref d), v2, some (vN b), some (vN many), v5, v6, v7, v8, v9, v10, v11, v12, v13] ∧ Deal H2 d c ns z) (fun behind => ?_) ?_
      · refine ⟨_, rfl, _, rfl, b, many, 40, rfl, by omega, by omega, by decide, fun H2 s2 => ?_⟩
        refine ⟨_, rfl, _, rfl, b, many, 40, rfl, by omega, by omega, by omega, by decide, ?_, fun H3 s3 => ⟨rfl, _, rfl, iteNS rfl (behind _ _ ⟨rfl, D.same (s2.trans s3)⟩)⟩⟩
        rcases hbm with ⟨rfl, rfl⟩ | ⟨rfl, rfl⟩ <;> decide
      generalize some (vN b) = v3
      generalize some (vN many) = v4
      clear D H1 hbm b many
      rintro σ H1 ⟨rfl, D⟩
      refine seq_mid (fun σ H2 => ∃ (b : Nat) (ns : List Int) (z : Int), σ = [some (.ref a), some (.ref d), v2, some (vN b), v4, v5, v6, v7, v8, v9, v10, v11, v12, v13] ∧ 1 ≤ b ∧ b ≤ 64 ∧ Deal H2 d c ns z) (fun behind => ?_) ?_
      · exact ⟨_, rfl, d, c, ns, z, 64, rfl, D, by decide, by decide, fun H2 ns2 z2 r D2 _ h1 => ⟨_, _, rfl, rfl, behind _ _ ⟨1 + r, ns2, z2, rfl, by omega, by omega, D2⟩⟩⟩
      clear D H1 ns z
      rintro σ H1 ⟨b, ns, z, rfl, hb1, hb64, D⟩
      refine seq_mid (fun σ H2 => ∃ (r : Nat) (ns : List Int) (z : Int), σ = [some (.ref a), some (.ref d), v2, some (vN b), v4, v5, some (vN r), v7, v8, v9, v10, v11, v12, v13] ∧ r ≤ 2 * b ∧ Deal H2 d c ns z) (fun behind => ?_) ?_
      · refine ⟨_, rfl, _, rfl, _, _, rfl, rfl, .inl ⟨by decide, by decide⟩, _, _, rfl, rfl, d, c, ns, z, 2 * b + 1, ?_, D, by omega, by omega, fun H2 ns2 z2 r D2 _ h1 => behind _ _ ⟨r, ns2, z2, rfl, by omega, D2⟩⟩
        show [V.ref d, V.int (2 * (b : Int) + 1)] = _
        have e : 2 * (b : Int) + 1 = ((2 * b + 1 : Nat) : Int) := by omega
        rw [e]
      clear D H1 ns z
      rintro σ H1 ⟨r, ns, z, rfl, hr, D⟩
      refine seq_mid (fun σ H2 => σ = [some (.ref a), some (.ref d), v2, some (vN b), v4, v5, some (vN r), some (vN 0), v8, v9, some (vN (r - b)), some (vN 1), v12, v13] ∧ Deal H2 d c ns z) (fun behind => ?_) ?_
      · refine ⟨_, rfl, _, rfl, _, _, rfl, rfl, _, _, rfl, _, _, _, rfl, behind _ _ ⟨?_, D⟩⟩
        have e : V.int (if (r : Int) - (b : Int) > 0 then (r : Int) - (b : Int) else 0) = vN (r - b) := by
          show V.int _ = V.int _
          congr 1
          split <;> omega
        rw [← e]
        rfl
      clear D H1
      rintro σ H1 ⟨rfl, D⟩
      refine seq_mid (fun σ H2 => ∃ v11 v12 : Option V, σ = [some (.ref a), some (.ref d), v2, some (vN b), v4, v5, some (vN r), some (vN (fS b 2 r)), v8, v9, some (vN (r - b)), v11, v12, v13] ∧ Deal H2 d c ns z) (fun behind => ?_) ?_
      · refine ⟨_, rfl, _, rfl, _, _, rfl, _, _, rfl, rfl, _, rfl, ?_⟩
        rw [min_int]
        have eT : (((min b r : Nat) : Int) + 1).toNat = min b r + 1 := by omega
        refine ⟨by omega, by omega, for_range (lo := 0) (n := (((min b r : Nat) : Int) + 1).toNat) (fun i σ H' => ∃ v12 : Option V, σ = [some (.ref a), some (.ref d), v2, some (vN b), v4, v5, some (vN r), some (vN (duo b r i)), v8, v9, some (vN (r - b)), some (vN (binom r i)), v12, v13] ∧ Deal H' d c ns z) ⟨v12, by rw [binom_zero]; rfl, D⟩ ?_ ?_⟩
        · clear D H1 behind
          rintro i σ H1 hi ⟨v12, rfl, D⟩
          rw [eT] at hi
          refine seq_mid (fun σ H2 => σ = [some (.ref a), some (.ref d), v2, some (vN b), v4, v5, some (vN r), some (vN (duo b r (i + 1))), v8, v9, some (vN (r - b)), some (vN (binom r i)), some (.int (0 + (i : Int))), v13] ∧ Deal H2 d c ns z) (fun behind => ?_) ?_
          · refine ⟨_, rfl, _, rfl, _, rfl, _, _, rfl, rfl, _, rfl, ?_⟩
            have ed : duo b r (i + 1) = duo b r i + if r - b ≤ i then binom r i else 0 := rfl
            refine ite2 (fun h => ?_) (fun h => ?_)
            · have h : (((r - b : Nat) : Int)) ≤ 0 + (i : Int) := of_decide_eq_true h
              refine ⟨_, rfl, _, _, rfl, rfl, behind _ _ ⟨?_, D⟩⟩
              rw [ed, if_pos (show r - b ≤ i by omega), ← nat_add]
              rfl
            · have h : ¬ (((r - b : Nat) : Int)) ≤ 0 + (i : Int) := fun q => h (decide_eq_true q)
              refine ⟨_, _, rfl, rfl, behind _ _ ⟨?_, D⟩⟩
              rw [ed, if_neg (show ¬ r - b ≤ i by omega), ← nat_add]
              rfl
          · clear D H1
            rintro σ H1 ⟨rfl, D⟩
            refine ⟨_, rfl, _, rfl, _, rfl, _, _, rfl, rfl, _, _, rfl, rfl, .inr ⟨by omega, by omega⟩, _, rfl, _, _, rfl, rfl, _, _, rfl, rfl, ⟨by omega, by omega⟩, some (.int (0 + (i : Int))), ?_, D⟩
            have e1 : (r : Int) - (0 + (i : Int)) = ((r - i : Nat) : Int) := by omega
            have e2 : 0 + (i : Int) + 1 = ((i + 1 : Nat) : Int) := by omega
            have e3 : V.int ((binom r i : Int) * ((r : Int) - (0 + (i : Int))) / (0 + (i : Int) + 1)) = vN (binom r (i + 1)) := by
              rw [e1, e2, ← Int.natCast_mul, ← Int.natCast_ediv, binom_div r i (by omega)]
            rw [← e3]
            rfl
        · rintro σ H2 ⟨v12, rfl, D⟩
          rw [eT]
          exact behind _ _ ⟨_, v12, by rw [fS_two], D⟩
      clear D H1 v12
      rintro σ H1 ⟨v11, v12, rfl, D⟩
      refine seq_mid (fun σ H2 => σ = [some (.ref a), some (.ref d), v2, some (vN b), v4, v5, some (vN r), some (vN (fS b 2 r)), v8, v9, some (vN (r - b)), v11, v12, v13] ∧ Deal H2 d c ns z) (fun behind => ?_) ?_
      · refine ⟨_, rfl, _, rfl, b, 2, r, rfl, by omega, by decide, by omega, fun H2 s2 => ?_⟩
        exact ⟨_, rfl, fS_log (by decide) (by omega), _, rfl, _, rfl, fS_log (by decide) (by omega), rfl, _, rfl, iteNS rfl (behind _ _ ⟨rfl, D.same s2⟩)⟩
      generalize some (vN b) = v3
      generalize some (vN r) = v6
      generalize some (vN (fS b 2 r)) = v7
      generalize some (vN (r - b)) = v10
      clear D H1 hr hb1 hb64 b r
      rintro σ H1 ⟨rfl, D⟩
      refine seq_mid (fun σ H2 => ∃ (many : Nat) (ns : List Int) (z : Int), σ = [some (.ref a), some (.ref d), v2, v3, some (vN many), v5, v6, some (vN 1), v8, v9, v10, v11, v12, v13] ∧ 1 ≤ many ∧ many ≤ 64 ∧ Deal H2 d c ns z) (fun behind => ?_) ?_
      · refine ⟨_, rfl, d, c, ns, z, 64, rfl, D, by decide, by decide, fun H2 ns2 z2 r1 D2 _ h1 => ⟨_, _, rfl, rfl, (by show 2 ≤ sizeLine; decide), fun tp htp => ?_⟩⟩
        refine ⟨tp, _, rfl, SqT.of upd_same, rfl, _, _, rfl, _, _, rfl, rfl, ?_⟩
        exact behind _ _ ⟨1 + r1, ns2, z2, rfl, by omega, by omega, D2.same (Same.new (Same.refl _) htp)⟩
      clear D H1 ns z
      rintro σ H1 ⟨many, ns, z, rfl, hm1, hm64, D⟩
      refine ⟨_, rfl, _, rfl, _, _, rfl, rfl, d, c, ns, z, many + 1, rfl, D, by omega, by omega, fun H2 ns2 z2 n D2 B2 hn => ?_⟩
      refine ⟨(n : Int), rfl, by omega, by omega, for_range (lo := 0) (n := (n : Int).toNat) (fun t σ H' => ∃ v6 v13 : Option V, σ = [some (.ref a), some (.ref d), v2, v3, some (vN many), v5, v6, some (vN (ff many t)), v8, v9, v10, v11, v12, v13]) ⟨v6, v13, rfl⟩ ?_ ?_⟩
      · clear D2 B2 D H1 H2 ns2 z2 ns z
        rintro t σ H1 ht ⟨v6, v13, rfl⟩
        have htn : t < n := by omega
        refine seq_mid (fun σ H2 => σ = [some (.ref a), some (.ref d), v2, v3, some (vN many), v5, some (vN (t + 1)), some (vN (ff many (t + 1))), v8, v9, v10, v11, v12, some (.int (0 + (t : Int)))]) (fun behind => ?_) ?_
        · refine ⟨_, rfl, _, rfl, _, rfl, _, _, rfl, rfl, _, _, rfl, rfl, .inr ⟨by omega, by omega⟩, _, rfl, _, _, rfl, rfl, _, _, rfl, behind _ _ ?_⟩
          have e1 : (many : Int) - (0 + (t : Int)) = ((many - t : Nat) : Int) := by omega
          have e2 : V.int ((ff many t : Int) * ((many : Int) - (0 + (t : Int)))) = vN (ff many (t + 1)) := by
            rw [e1, mul_cast]
            rfl
          have e3 : V.int (0 + (t : Int) + 1) = vN (t + 1) := by
            show V.int _ = V.int _
            congr 1
            omega
          rw [← e2, ← e3]
          rfl
        · clear H1
          rintro σ H1 rfl
          refine ⟨_, rfl, _, _, rfl, rfl, (by show (0 : Int) < 7; decide), rfl, _, rfl, ?_⟩
          refine ite2 (fun _ => ?_) (fun _ => iteF ⟨_, _, rfl⟩)
          refine ⟨_, rfl, _, rfl, 1, many, t + 1, rfl, by decide, hm64, by omega, fun H2 _ => ?_⟩
          exact ⟨_, rfl, fS_log hm64 (by omega), _, rfl, _, rfl, (by rw [← fS_ff]; exact fS_log hm64 (by omega)), rfl, _, rfl, iteNS (by rw [fS_ff]) ⟨_, _, rfl⟩⟩
      · rintro σ H3 ⟨v6, v13, rfl⟩
        exact k H3
end
end Sh
namespace Sh
open PySem L2 Cnt
theorem all_mk {l : PySem.W.OpenLaw} {w : World} {K : PySem.W.Frag} {h : Heap} {mg : Str → Option Value} {fa f1 f2 f3 f4 f5 f6 f7 f8 f9 f10 f11 : Addr} (X : K.In h) (G : h.Ns mainGlobals mg) (hfa : mg "law" = some (.ref fa))
    {od1 an1 od2 an2 od3 an3 od4 an4 od5 an5 od6 an6 od7 an7 od8 an8 od9 an9 od10 an10 od11 an11 : Option Addr} {sl1 sl2 sl3 sl4 sl5 sl6 sl7 sl8 sl9 sl10 sl11 : Array (Option Value)} {oc1 kV1 dc1 pm1 cd1 ct1 oc2 kV2 dc2 pm2 cd2 ct2 oc3 kV3 dc3 pm3 cd3 ct3 oc4 kV4 dc4 pm4 cd4 ct4 oc5 kV5 dc5 pm5 cd5 ct5 oc6 kV6 dc6 pm6 cd6 ct6 oc7 kV7 dc7 pm7 cd7 ct7 oc8 kV8 dc8 pm8 cd8 ct8 oc9 kV9 dc9 pm9 cd9 ct9 oc10 kV10 dc10 pm10 cd10 ct10 oc11 kV11 dc11 pm11 cd11 ct11 : Value}
    (a1 : PySem.W.nsIn K mainGlobals "chosen" = some (some (.ref f1))) (l1 : K.lookup f1 = some ⟨oc1, od1, .func (PySem.W.fnOf "chosen" "chosen" (defArgs sChosen) (defBody sChosen) (defScope sChosen) .none kV1 dc1 pm1 an1 cd1 ct1), sl1⟩) (c1 : PySem.W.codeIn K cd1 "chosen" = true) (k1 : PySem.W.keepIn K (.ref f1) = true)
    (a2 : PySem.W.nsIn K mainGlobals "share_count" = some (some (.ref f2))) (l2 : K.lookup f2 = some ⟨oc2, od2, .func (PySem.W.fnOf "share_count" "share_count" (defArgs sShare) (defBody sShare) (defScope sShare) .none kV2 dc2 pm2 an2 cd2 ct2), sl2⟩) (c2 : PySem.W.codeIn K cd2 "share_count" = true) (k2 : PySem.W.keepIn K (.ref f2) = true)
    (a3 : PySem.W.nsIn K mainGlobals "pour_most" = some (some (.ref f3))) (l3 : K.lookup f3 = some ⟨oc3, od3, .func (PySem.W.fnOf "pour_most" "pour_most" (defArgs sPour) (defBody sPour) (defScope sPour) .none kV3 dc3 pm3 an3 cd3 ct3), sl3⟩) (c3 : PySem.W.codeIn K cd3 "pour_most" = true) (k3 : PySem.W.keepIn K (.ref f3) = true)
    (a4 : PySem.W.nsIn K mainGlobals "_law_draw" = some (some (.ref f4))) (l4 : K.lookup f4 = some ⟨oc4, od4, .func (PySem.W.fnOf "_law_draw" "_law_draw" (defArgs sDraw) (defBody sDraw) (defScope sDraw) .none kV4 dc4 pm4 an4 cd4 ct4), sl4⟩) (c4 : PySem.W.codeIn K cd4 "_law_draw" = true) (k4 : PySem.W.keepIn K (.ref f4) = true)
    (a5 : PySem.W.nsIn K mainGlobals "_law_any" = some (some (.ref f5))) (l5 : K.lookup f5 = some ⟨oc5, od5, .func (PySem.W.fnOf "_law_any" "_law_any" (defArgs sAny) (defBody sAny) (defScope sAny) .none kV5 dc5 pm5 an5 cd5 ct5), sl5⟩) (c5 : PySem.W.codeIn K cd5 "_law_any" = true) (k5 : PySem.W.keepIn K (.ref f5) = true)
    (a6 : PySem.W.nsIn K mainGlobals "_law_of" = some (some (.ref f6))) (l6 : K.lookup f6 = some ⟨oc6, od6, .func (PySem.W.fnOf "_law_of" "_law_of" (defArgs sOf) (defBody sOf) (defScope sOf) .none kV6 dc6 pm6 an6 cd6 ct6), sl6⟩) (c6 : PySem.W.codeIn K cd6 "_law_of" = true) (k6 : PySem.W.keepIn K (.ref f6) = true)
    (a7 : PySem.W.nsIn K mainGlobals "_law_placings" = some (some (.ref f7))) (l7 : K.lookup f7 = some ⟨oc7, od7, .func (PySem.W.fnOf "_law_placings" "_law_placings" (defArgs sPlac) (defBody sPlac) (defScope sPlac) .none kV7 dc7 pm7 an7 cd7 ct7), sl7⟩) (c7 : PySem.W.codeIn K cd7 "_law_placings" = true) (k7 : PySem.W.keepIn K (.ref f7) = true)
    (a8 : PySem.W.nsIn K mainGlobals "_law_ways" = some (some (.ref f8))) (l8 : K.lookup f8 = some ⟨oc8, od8, .func (PySem.W.fnOf "_law_ways" "_law_ways" (defArgs sWays) (defBody sWays) (defScope sWays) .none kV8 dc8 pm8 an8 cd8 ct8), sl8⟩) (c8 : PySem.W.codeIn K cd8 "_law_ways" = true) (k8 : PySem.W.keepIn K (.ref f8) = true)
    (a9 : PySem.W.nsIn K mainGlobals "_law_choices" = some (some (.ref f9))) (l9 : K.lookup f9 = some ⟨oc9, od9, .func (PySem.W.fnOf "_law_choices" "_law_choices" (defArgs sChoi) (defBody sChoi) (defScope sChoi) .none kV9 dc9 pm9 an9 cd9 ct9), sl9⟩) (c9 : PySem.W.codeIn K cd9 "_law_choices" = true) (k9 : PySem.W.keepIn K (.ref f9) = true)
    (a10 : PySem.W.nsIn K mainGlobals "_law_step" = some (some (.ref f10))) (l10 : K.lookup f10 = some ⟨oc10, od10, .func (PySem.W.fnOf "_law_step" "_law_step" (defArgs sStep) (defBody sStep) (defScope sStep) .none kV10 dc10 pm10 an10 cd10 ct10), sl10⟩) (c10 : PySem.W.codeIn K cd10 "_law_step" = true) (k10 : PySem.W.keepIn K (.ref f10) = true)
    (a11 : PySem.W.nsIn K mainGlobals "law" = some (some (.ref f11))) (l11 : K.lookup f11 = some ⟨oc11, od11, .func (PySem.W.fnOf "law" "law" (defArgs sLaw) (defBody sLaw) (defScope sLaw) .none kV11 dc11 pm11 an11 cd11 ct11), sl11⟩) (c11 : PySem.W.codeIn K cd11 "law" = true) (k11 : PySem.W.keepIn K (.ref f11) = true)
    (z1 : PySem.W.nsIn K mainGlobals "range" = some none) (z2 : PySem.W.nsIn K mainGlobals "len" = some none) (z3 : PySem.W.nsIn K mainGlobals "sum" = some none) (z4 : PySem.W.nsIn K mainGlobals "min" = some none) (z5 : PySem.W.nsIn K mainGlobals "max" = some none) (z6 : PySem.W.nsIn K mainGlobals "abs" = some none) (z7 : PySem.W.nsIn K mainGlobals "int" = some none) (z8 : PySem.W.nsIn K mainGlobals "list" = some none) (z9 : PySem.W.nsIn K mainGlobals "tuple" = some none) (z10 : PySem.W.nsIn K mainGlobals "repr" = some none) (z11 : PySem.W.nsIn K mainGlobals "sorted" = some none) :
    ∃ fd : FuncData, (∀ (s : Shared) (v : Value), BindsTo s fd ⟨[v], []⟩ [("_law_script", v)]) ∧ ∀ base : Heap, K.In base → base.Ns mainGlobals mg → FnOk l.prog w K mg base CX0 4 fa fd ["_law_script"] (spLaw K) := by
  have e := hfa.symm.trans (PySem.W.mg_of X G a11)
  cases e
  have T : Txt mg := ⟨PySem.W.mg_none_of X G z1, PySem.W.mg_none_of X G z2, PySem.W.mg_none_of X G z3, PySem.W.mg_none_of X G z4, PySem.W.mg_none_of X G z5, PySem.W.mg_none_of X G z6, PySem.W.mg_none_of X G z7, PySem.W.mg_none_of X G z8, PySem.W.mg_none_of X G z9, PySem.W.mg_none_of X G z10, PySem.W.mg_none_of X G z11⟩
  have F1 := fun_mk (st := sChosen) l1 c1 k1
  have F2 := fun_mk (st := sShare) l2 c2 k2
  have F3 := fun_mk (st := sPour) l3 c3 k3
  have F4 := fun_mk (st := sDraw) l4 c4 k4
  have F5 := fun_mk (st := sAny) l5 c5 k5
  have F6 := fun_mk (st := sOf) l6 c6 k6
  have F7 := fun_mk (st := sPlac) l7 c7 k7
  have F8 := fun_mk (st := sWays) l8 c8 k8
  have F9 := fun_mk (st := sChoi) l9 c9 k9
  have F10 := fun_mk (st := sStep) l10 c10 k10
  have F11 := fun_mk (st := sLaw) l11 c11 k11
  have b1 := F1.binds (ps := ["many"]) fun _ _ _ _ _ _ us hl => match us, hl with | [_], _ => rfl
  have b2 := F2.binds (ps := ["b", "many", "records"]) fun _ _ _ _ _ _ us hl => match us, hl with | [_, _, _], _ => rfl
  have b3 := F3.binds (ps := ["b", "many", "records", "m"]) fun _ _ _ _ _ _ us hl => match us, hl with | [_, _, _, _], _ => rfl
  have b4 := F4.binds (ps := ["_law_script", "_law_salt"]) fun _ _ _ _ _ _ us hl => match us, hl with | [_, _], _ => rfl
  have b5 := F5.binds (ps := ["_law_deal", "_law_bound"]) fun _ _ _ _ _ _ us hl => match us, hl with | [_, _], _ => rfl
  have b6 := F6.binds (ps := ["_law_deal", "_law_some"]) fun _ _ _ _ _ _ us hl => match us, hl with | [_, _], _ => rfl
  have b7 := F7.binds (ps := ["_law_b", "_law_many", "_law_records"]) fun _ _ _ _ _ _ us hl => match us, hl with | [_, _, _], _ => rfl
  have b8 := F8.binds (ps := ["_law_b", "_law_many", "_law_records"]) fun _ _ _ _ _ _ us hl => match us, hl with | [_, _, _], _ => rfl
  have b9 := F9.binds (ps := ["_law_many", "_law_w"]) fun _ _ _ _ _ _ us hl => match us, hl with | [_, _], _ => rfl
  have b10 := F10.binds (ps := ["_law_b", "_law_many", "_law_records", "_law_m"]) fun _ _ _ _ _ _ us hl => match us, hl with | [_, _, _, _], _ => rfl
  exact ⟨PySem.W.fnOf "law" "law" (defArgs sLaw) (defBody sLaw) (defScope sLaw) .none kV11 dc11 pm11 an11 cd11 ct11, fun s v => .of_eq rfl, fun base _ _ => ok_law F11 T ⟨F1, PySem.W.mg_of X G a1, b1⟩ ⟨F2, PySem.W.mg_of X G a2, b2⟩ ⟨F3, PySem.W.mg_of X G a3, b3⟩ ⟨F4, PySem.W.mg_of X G a4, b4⟩ ⟨F5, PySem.W.mg_of X G a5, b5⟩ ⟨F6, PySem.W.mg_of X G a6, b6⟩ ⟨F7, PySem.W.mg_of X G a7, b7⟩ ⟨F8, PySem.W.mg_of X G a8, b8⟩ ⟨F9, PySem.W.mg_of X G a9, b9⟩ ⟨F10, PySem.W.mg_of X G a10, b10⟩⟩
theorem walk {l : PySem.W.OpenLaw} {q : Program} {loose : List Str} {XP : (Str → Option Value) → Heap → Prop} {YP : World → Heap → Prop} {d : DefRec} {K : Params → PySem.W.Frag} (hn : l.most = some 63) (hdf : d.params.defaults = [])
    (hY : ∀ (w : World) (h : Heap), YP w h → (K w.params).In h)
    (F : ∀ (w : World) (mg : Str → Option Value) (fa : Addr) (h : Heap), (K w.params).In h → h.Ns mainGlobals mg → mg d.name = some (.ref fa) →
      ∃ fd : FuncData, (∀ (s : Shared) (u : Value), BindsTo s fd ⟨[u], []⟩ [("_law_script", u)]) ∧ ∀ base : Heap, (K w.params).In base → base.Ns mainGlobals mg → FnOk l.prog w (K w.params) mg base CX0 4 fa fd ["_law_script"] (spLaw (K w.params))) :
    PySem.W.WalkO q loose XP YP l.row.toRowW d [] (fun f vs => PySem.call f vs) :=
  L2.walk_of (n := 63) (k := 4) (x := "_law_script") (CX := fun _ => CX0) (sp := fun w => spLaw (K w.params)) hn (by decide) hdf ⟨rfl, by decide, by decide⟩ hY F (fun _ _ a ns hl _ hS => ⟨a, ns, rfl, hS, hl, fun _ => rfl⟩) fun _ _ _ _ _ z => z
end Sh
open PySem PySem.W PyProof.Rows
set_option maxRecDepth 100000 in
set_option maxHeartbeats 0 in
theorem PySem.Challenge.cw_fewestpours_k63_whole_shares_counted_holds : PySem.Challenge.rw_fewestpours_k63_whole_shares_counted.Holds := by
  w_on; o_law; k_head; (case hw => w_witness2)
  k_fill
  refine Sh.walk (l := PySem.Challenge.rw_fewestpours_k63_whole_shares_counted) rfl rfl (fun w h Y => PySem.W.kIn_of Y) ?F
  case F =>
    intro w mg fa h KX G hmg
    refine' Sh.all_mk KX G hmg ?a1 ?l1 ?c1 ?k1 ?a2 ?l2 ?c2 ?k2 ?a3 ?l3 ?c3 ?k3 ?a4 ?l4 ?c4 ?k4 ?a5 ?l5 ?c5 ?k5 ?a6 ?l6 ?c6 ?k6 ?a7 ?l7 ?c7 ?k7 ?a8 ?l8 ?c8 ?k8 ?a9 ?l9 ?c9 ?k9 ?a10 ?l10 ?c10 ?k10 ?a11 ?l11 ?c11 ?k11 ?z1 ?z2 ?z3 ?z4 ?z5 ?z6 ?z7 ?z8 ?z9 ?z10 ?z11
    (case a1 => k_is)
    (case l1 => k_is)
    (case c1 => k_is)
    (case k1 => k_is)
    (case a2 => k_is)
    (case l2 => k_is)
    (case c2 => k_is)
    (case k2 => k_is)
    (case a3 => k_is)
    (case l3 => k_is)
    (case c3 => k_is)
    (case k3 => k_is)
    (case a4 => k_is)
    (case l4 => k_is)
    (case c4 => k_is)
    (case k4 => k_is)
    (case a5 => k_is)
    (case l5 => k_is)
    (case c5 => k_is)
    (case k5 => k_is)
    (case a6 => k_is)
    (case l6 => k_is)
    (case c6 => k_is)
    (case k6 => k_is)
    (case a7 => k_is)
    (case l7 => k_is)
    (case c7 => k_is)
    (case k7 => k_is)
    (case a8 => k_is)
    (case l8 => k_is)
    (case c8 => k_is)
    (case k8 => k_is)
    (case a9 => k_is)
    (case l9 => k_is)
    (case c9 => k_is)
    (case k9 => k_is)
    (case a10 => k_is)
    (case l10 => k_is)
    (case c10 => k_is)
    (case k10 => k_is)
    (case a11 => k_is)
    (case l11 => k_is)
    (case c11 => k_is)
    (case k11 => k_is)
    (case z1 => k_is)
    (case z2 => k_is)
    (case z3 => k_is)
    (case z4 => k_is)
    (case z5 => k_is)
    (case z6 => k_is)
    (case z7 => k_is)
    (case z8 => k_is)
    (case z9 => k_is)
    (case z10 => k_is)
    (case z11 => k_is)
#print axioms PySem.Challenge.cw_fewestpours_k63_whole_shares_counted_holds
