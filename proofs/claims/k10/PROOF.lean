import PyProof.Rows.All
import Wide.All
import OpenK.AllK
import Wide.FinOn
import HandS.ForMost
import HandS.AnyAll
import HandS.GenOver
import HandS.Gcd
import HandS.Wide
import HandS.IsInst
import HandS.Star
import HandS.Walk
import HandS.Zip
import HandS.TupMul
import KE.GoesMore
import HandS.Flow
import HandS.Rev
import HandS.RevTup
import PyProof.ListNew
import HandS.Style
import HandS.DictComp
import HandS.Steps
import HandS.NoneIn
import HandS.EndTab
import KE.KNestM
import PySem.Challenge.RW_paidallways_k10_whole_costs_by_straight
set_option Elab.async false
set_option linter.all false
/-! Finite sums and determinants of functions of naturals, over Rat. -/
namespace LP
def S : Nat → (Nat → Rat) → Rat
  | 0, _ => 0
  | n + 1, f => S n f + f n
theorem S_congr {n : Nat} {f g : Nat → Rat} (h : ∀ i, i < n → f i = g i) : S n f = S n g := by
  induction n with
  | zero => rfl
  | succ n ih => simp only [S]; rw [ih (fun i hi => h i (by omega)), h n (by omega)]
theorem S_zero {n : Nat} {f : Nat → Rat} (h : ∀ i, i < n → f i = 0) : S n f = 0 := by
  induction n with
  | zero => rfl
  | succ n ih => simp only [S]; rw [ih (fun i hi => h i (by omega)), h n (by omega)]; grind
theorem S_add (n : Nat) (f g : Nat → Rat) : S n (fun i => f i + g i) = S n f + S n g := by
  induction n with
  | zero => simp only [S]; grind
  | succ n ih => simp only [S]; rw [ih]; grind
theorem S_sub (n : Nat) (f g : Nat → Rat) : S n (fun i => f i - g i) = S n f - S n g := by
  induction n with
  | zero => simp only [S]; grind
  | succ n ih => simp only [S]; rw [ih]; grind
theorem S_mul (n : Nat) (a : Rat) (f : Nat → Rat) : S n (fun i => a * f i) = a * S n f := by
  induction n with
  | zero => simp only [S]; grind
  | succ n ih => simp only [S]; rw [ih]; grind
theorem S_mulr (n : Nat) (a : Rat) (f : Nat → Rat) : S n (fun i => f i * a) = S n f * a := by
  induction n with
  | zero => simp only [S]; grind
  | succ n ih => simp only [S]; rw [ih]; grind
theorem S_comm (n m : Nat) (f : Nat → Nat → Rat) : S n (fun i => S m (fun j => f i j)) = S m (fun j => S n (fun i => f i j)) := by
  induction n with
  | zero => simp only [S]; exact (S_zero (fun _ _ => rfl)).symm
  | succ n ih => simp only [S]; rw [ih, ← S_add]
theorem S_one {n c : Nat} (hc : c < n) {f : Nat → Rat} (h : ∀ i, i < n → i ≠ c → f i = 0) : S n f = f c := by
  induction n with
  | zero => omega
  | succ n ih =>
    simp only [S]
    by_cases e : c = n
    · subst e
      rw [S_zero (fun i hi => h i (by omega) (by omega))]; grind
    · rw [ih (by omega) (fun i hi hne => h i (by omega) hne), h n (by omega) (by omega)]; grind
theorem S_le {n : Nat} {f g : Nat → Rat} (h : ∀ i, i < n → f i ≤ g i) : S n f ≤ S n g := by
  induction n with
  | zero => simp only [S]; grind
  | succ n ih =>
    simp only [S]
    have h1 := ih (fun i hi => h i (by omega))
    have h2 := h n (by omega)
    grind
theorem S_nonneg {n : Nat} {f : Nat → Rat} (h : ∀ i, i < n → 0 ≤ f i) : 0 ≤ S n f := by
  have := S_le (n := n) (f := fun _ => 0) h
  rw [S_zero (fun _ _ => rfl)] at this
  exact this
theorem S_nonpos {n : Nat} {f : Nat → Rat} (h : ∀ i, i < n → f i ≤ 0) : S n f ≤ 0 := by
  have := S_le (n := n) (g := fun _ => 0) h
  rw [S_zero (f := fun _ => 0) (fun _ _ => rfl)] at this
  exact this
/-- a positive sum has a positive term -/
theorem S_pos_ex {n : Nat} {f : Nat → Rat} (h : 0 < S n f) : ∃ i, i < n ∧ 0 < f i := by
  induction n with
  | zero => simp only [S] at h; grind
  | succ n ih =>
    simp only [S] at h
    by_cases h1 : 0 < f n
    · exact ⟨n, by omega, h1⟩
    · have : 0 < S n f := by grind
      obtain ⟨i, hi, hp⟩ := ih this
      exact ⟨i, by omega, hp⟩
/-- a sum of terms from 0 that is 0 has terms 0 -/
theorem S_all_zero {n : Nat} {f : Nat → Rat} (h : ∀ i, i < n → 0 ≤ f i) (e : S n f = 0) : ∀ i, i < n → f i = 0 := by
  induction n with
  | zero => intro i hi; omega
  | succ n ih =>
    simp only [S] at e
    have h1 : 0 ≤ S n f := S_nonneg (fun i hi => h i (by omega))
    have h2 := h n (by omega)
    intro i hi
    by_cases hin : i = n
    · subst hin; grind
    · exact ih (fun i hi => h i (by omega)) (by grind) i (by omega)
theorem S_ge_term {n c : Nat} {f : Nat → Rat} (hc : c < n) (h : ∀ i, i < n → 0 ≤ f i) : f c ≤ S n f := by
  induction n with
  | zero => omega
  | succ n ih =>
    simp only [S]
    by_cases e : c = n
    · subst e
      have := S_nonneg (n := c) (f := f) (fun i hi => h i (by omega)); grind
    · have := ih (by omega) (fun i hi => h i (by omega))
      have := h n (by omega); grind

/-! ### determinants: M c k is the entry of column c in row k -/
def sg (c : Nat) : Rat := if c % 2 = 0 then 1 else -1
theorem sg_succ (c : Nat) : sg (c + 1) = - sg c := by
  unfold sg
  split <;> split <;> first | omega | grind
def skip (c i : Nat) : Nat := if i < c then i else i + 1
def unskip (c i : Nat) : Nat := if i < c then i else i - 1
theorem skip_ne (c i : Nat) : skip c i ≠ c := by unfold skip; split <;> omega
theorem skip_iff {c c' i : Nat} (h : c' ≠ c) : skip c i = c' ↔ i = unskip c c' := by
  unfold skip unskip; split <;> split <;> omega
theorem unskip_lt {c c' n : Nat} (h : c' ≠ c) (h1 : c' < n + 1) (h2 : c < n + 1) : unskip c c' < n := by
  unfold unskip; split <;> omega
theorem skip_lt {c i n : Nat} (hi : i < n) : skip c i < n + 1 := by unfold skip; split <;> omega
def minor (M : Nat → Nat → Rat) (c : Nat) : Nat → Nat → Rat := fun i k => M (skip c i) (k + 1)
def det : Nat → (Nat → Nat → Rat) → Rat
  | 0, _ => 1
  | n + 1, M => S (n + 1) (fun c => sg c * M c 0 * det n (minor M c))
theorem det_succ (n : Nat) (M : Nat → Nat → Rat) : det (n + 1) M = S (n + 1) (fun c => sg c * M c 0 * det n (minor M c)) := rfl
theorem det_congr : ∀ {n : Nat} {M N : Nat → Nat → Rat}, (∀ c k, c < n → k < n → M c k = N c k) → det n M = det n N
  | 0, _, _, _ => rfl
  | n + 1, M, N, h => by
    rw [det_succ, det_succ]
    refine S_congr fun c hc => ?_
    rw [h c 0 hc (by omega), det_congr (n := n) (M := minor M c) (N := minor N c) fun i k hi hk => h _ _ (skip_lt hi) (by omega)]
def setc (M : Nat → Nat → Rat) (c : Nat) (u : Nat → Rat) : Nat → Nat → Rat := fun i k => if i = c then u k else M i k
theorem setc_same (M : Nat → Nat → Rat) (c : Nat) (u : Nat → Rat) (k : Nat) : setc M c u c k = u k := if_pos rfl
theorem setc_ne (M : Nat → Nat → Rat) {c i : Nat} (u : Nat → Rat) (k : Nat) (h : i ≠ c) : setc M c u i k = M i k := if_neg h
theorem minor_setc_same (M : Nat → Nat → Rat) (c : Nat) (u : Nat → Rat) : minor (setc M c u) c = minor M c := by
  funext i k; unfold minor; rw [setc_ne _ _ _ (skip_ne c i)]
theorem minor_setc (M : Nat → Nat → Rat) {c c' : Nat} (u : Nat → Rat) (h : c' ≠ c) : minor (setc M c' u) c = setc (minor M c) (unskip c c') (fun k => u (k + 1)) := by
  funext i k
  unfold minor setc
  by_cases e : skip c i = c'
  · rw [if_pos e, if_pos ((skip_iff h).mp e)]
  · rw [if_neg e, if_neg (fun z => e ((skip_iff h).mpr z))]
/-- linear in each column -/
theorem det_lin : ∀ {n c : Nat} (M : Nat → Nat → Rat) (u v : Nat → Rat) (a : Rat), c < n →
    det n (setc M c (fun k => u k + a * v k)) = det n (setc M c u) + a * det n (setc M c v)
  | 0, c, _, _, _, _, h => by omega
  | n + 1, c, M, u, v, a, h => by
    rw [det_succ, det_succ, det_succ, ← S_mul, ← S_add]
    refine S_congr fun d hd => ?_
    by_cases e : c = d
    · subst e
      rw [minor_setc_same, minor_setc_same, minor_setc_same, setc_same, setc_same, setc_same]
      grind
    · rw [minor_setc _ _ e, minor_setc _ _ e, minor_setc _ _ e, setc_ne _ _ _ (Ne.symm e), setc_ne _ _ _ (Ne.symm e), setc_ne _ _ _ (Ne.symm e)]
      rw [det_lin (minor M d) (fun k => u (k + 1)) (fun k => v (k + 1)) a (unskip_lt e h hd)]
      grind
theorem det_zero {n c : Nat} (M : Nat → Nat → Rat) (h : c < n) : det n (setc M c (fun _ => 0)) = 0 := by
  have e := det_lin M (fun _ => 0) (fun _ => 0) 1 h
  have : (fun (k : Nat) => (0 : Rat) + 1 * 0) = fun _ => 0 := by funext k; grind
  rw [this] at e
  grind
/-- two columns alike side by side -/
theorem det_adj : ∀ {n c : Nat} {M : Nat → Nat → Rat}, c + 1 < n → (∀ k, M c k = M (c + 1) k) → det n M = 0
  | 0, c, _, h, _ => by omega
  | n + 1, c, M, h, e => by
    rw [det_succ]
    have key : ∀ d, d < n + 1 → d ≠ c → d ≠ c + 1 → sg d * M d 0 * det n (minor M d) = 0 := fun d hd h1 h2 => by
      have : det n (minor M d) = 0 := by
        refine det_adj (c := unskip d c) ?_ fun k => ?_
        · unfold unskip; split <;> omega
        · unfold minor
          have e1 : skip d (unskip d c) = c := (skip_iff (Ne.symm h1)).mpr rfl
          have e2 : skip d (unskip d c + 1) = c + 1 := by
            refine (skip_iff (Ne.symm h2)).mpr ?_
            unfold unskip; split <;> split <;> omega
          rw [e1, e2, e]
      rw [this]; grind
    have two : ∀ (f : Nat → Rat) (m : Nat), c + 1 < m → (∀ d, d < m → d ≠ c → d ≠ c + 1 → f d = 0) → S m f = f c + f (c + 1) := by
      intro f m
      induction m with
      | zero => intro h; omega
      | succ m ih =>
        intro hm hz
        simp only [S]
        by_cases em : m = c + 1
        · subst em
          simp only [S]
          rw [S_zero (fun i hi => hz i (by omega) (by omega) (by omega))]; grind
        · rw [ih (by omega) (fun d hd => hz d (by omega)), hz m (by omega) (by omega) (by omega)]; grind
    rw [two _ _ h key]
    have em : minor M c = minor M (c + 1) := by
      funext i k
      unfold minor skip
      by_cases h1 : i < c
      · rw [if_pos h1, if_pos (by omega)]
      · rw [if_neg h1]
        by_cases h2 : i = c
        · subst h2; rw [if_pos (by omega)]; exact (e (k + 1)).symm
        · rw [if_neg (by omega)]
    show sg c * M c 0 * det n (minor M c) + sg (c + 1) * M (c + 1) 0 * det n (minor M (c + 1)) = 0
    rw [em, sg_succ, e 0]
    grind
theorem setc_comm (M : Nat → Nat → Rat) {c d : Nat} (u v : Nat → Rat) (h : c ≠ d) : setc (setc M c u) d v = setc (setc M d v) c u := by
  funext i k; unfold setc; split <;> split <;> first | rfl | (subst_vars; exact absurd rfl h)
theorem setc_self (M : Nat → Nat → Rat) (c : Nat) : setc M c (M c) = M := by
  funext i k; unfold setc; split <;> first | rfl | (subst_vars; rfl)
/-- the neighbours exchanged -/
theorem det_swap {n c : Nat} (M : Nat → Nat → Rat) (u v : Nat → Rat) (h : c + 1 < n) : det n (setc (setc M c v) (c + 1) u) = - det n (setc (setc M c u) (c + 1) v) := by
  have hc : c ≠ c + 1 := by omega
  have lin2 : ∀ (x y z : Nat → Rat), det n (setc (setc M c x) (c + 1) (fun k => y k + 1 * z k)) = det n (setc (setc M c x) (c + 1) y) + 1 * det n (setc (setc M c x) (c + 1) z) := fun x y z => det_lin _ y z 1 h
  have lin1 : ∀ (x y z : Nat → Rat), det n (setc (setc M c (fun k => x k + 1 * y k)) (c + 1) z) = det n (setc (setc M c x) (c + 1) z) + 1 * det n (setc (setc M c y) (c + 1) z) := fun x y z => by
    rw [setc_comm _ _ _ hc, setc_comm _ _ _ hc, setc_comm _ _ _ hc]
    exact det_lin _ x y 1 (by omega)
  have al : ∀ x : Nat → Rat, det n (setc (setc M c x) (c + 1) x) = 0 := fun x => by
    refine det_adj h fun k => ?_
    rw [setc_same, setc_ne _ _ _ hc, setc_same]
  have e := al (fun k => u k + 1 * v k)
  rw [lin2, lin1, lin1, al, al] at e
  grind
theorem det_alike : ∀ (j : Nat) {n c : Nat} {M : Nat → Nat → Rat}, c + j + 1 < n → (∀ k, M c k = M (c + j + 1) k) → det n M = 0
  | 0, n, c, M, h, e => det_adj h e
  | j + 1, n, c, M, h, e => by
    have s := det_swap (c := c + j + 1) M (M (c + j + 1)) (M (c + j + 2)) h
    have e1 : setc (setc M (c + j + 1) (M (c + j + 1))) (c + j + 1 + 1) (M (c + j + 2)) = M := by rw [setc_self]; exact setc_self M (c + j + 2)
    rw [e1] at s
    have z : det n (setc (setc M (c + j + 1) (M (c + j + 2))) (c + j + 1 + 1) (M (c + j + 1))) = 0 := by
      refine det_alike j (c := c) (by omega) fun k => ?_
      rw [setc_ne _ _ _ (by omega), setc_ne _ _ _ (by omega), setc_ne _ _ _ (by omega), setc_same]
      exact e k
    rw [z] at s
    grind
theorem det_eq_cols {n c d : Nat} {M : Nat → Nat → Rat} (hc : c < n) (hd : d < n) (hcd : c ≠ d) (e : ∀ k, M c k = M d k) : det n M = 0 := by
  rcases Nat.lt_or_gt_of_ne hcd with h | h
  · obtain ⟨j, rfl⟩ : ∃ j, d = c + j + 1 := ⟨d - c - 1, by omega⟩
    exact det_alike j hd e
  · obtain ⟨j, rfl⟩ : ∃ j, c = d + j + 1 := ⟨c - d - 1, by omega⟩
    exact det_alike j hc fun k => (e k).symm
theorem det_S {n c : Nat} (M : Nat → Nat → Rat) (hc : c < n) (x : Nat → Rat) (V : Nat → Nat → Rat) : ∀ m, det n (setc M c (fun k => S m (fun j => x j * V j k))) = S m (fun j => x j * det n (setc M c (V j)))
  | 0 => by simp only [S]; exact det_zero M hc
  | m + 1 => by
    simp only [S]
    rw [det_lin M (fun k => S m (fun j => x j * V j k)) (V m) (x m) hc, det_S M hc x V m]
/-- Cramer: if a is the sum of the columns times x, then a in the place of column c has the determinant x c times as great -/
theorem cramer {n c : Nat} {M : Nat → Nat → Rat} (hc : c < n) {x a : Nat → Rat} (h : ∀ k, k < n → a k = S n (fun i => x i * M i k)) : det n (setc M c a) = x c * det n M := by
  have e1 : det n (setc M c a) = det n (setc M c (fun k => S n (fun j => x j * M j k))) := det_congr fun i k _ hk => by
    unfold setc; split
    · exact h k hk
    · rfl
  rw [e1, det_S M hc x M n, S_one hc]
  · rw [setc_self]
  · intro i hi hne
    have : det n (setc M c (M i)) = 0 := by
      refine det_eq_cols hc hi (Ne.symm hne) fun k => ?_
      rw [setc_same, setc_ne _ _ _ hne]
    rw [this]; grind
theorem det_id : ∀ n, det n (fun c k => if c = k then 1 else 0) = 1
  | 0 => rfl
  | n + 1 => by
    rw [det_succ, S_one (c := 0) (by omega)]
    · have e : minor (fun c k => if c = k then (1 : Rat) else 0) 0 = fun c k => if c = k then 1 else 0 := by
        funext i k
        unfold minor skip
        rw [if_neg (by omega)]
        show (if i + 1 = k + 1 then (1 : Rat) else 0) = if i = k then 1 else 0
        by_cases h : i = k
        · rw [if_pos h, if_pos (by omega)]
        · rw [if_neg h, if_neg (by omega)]
      rw [e, det_id n]
      unfold sg; grind
    · intro i _ hne
      rw [if_neg hne]; grind

/-! ### whole and bounded -/
def IsI (q : Rat) : Prop := ∃ z : Int, q = (z : Rat)
def Bd (B : Rat) (q : Rat) : Prop := -B ≤ q ∧ q ≤ B
theorem IsI.add {a b : Rat} : IsI a → IsI b → IsI (a + b) | ⟨x, hx⟩, ⟨y, hy⟩ => ⟨x + y, by rw [hx, hy, Rat.intCast_add]⟩
theorem IsI.mul {a b : Rat} : IsI a → IsI b → IsI (a * b) | ⟨x, hx⟩, ⟨y, hy⟩ => ⟨x * y, by rw [hx, hy, Rat.intCast_mul]⟩
theorem IsI.sub {a b : Rat} : IsI a → IsI b → IsI (a - b) | ⟨x, hx⟩, ⟨y, hy⟩ => ⟨x - y, by rw [hx, hy, Rat.intCast_sub]⟩
theorem IsI.neg {a : Rat} : IsI a → IsI (-a) | ⟨x, hx⟩ => ⟨-x, by rw [hx, Rat.intCast_neg]⟩
theorem isI_int (z : Int) : IsI (z : Rat) := ⟨z, rfl⟩
theorem isI_zero : IsI 0 := ⟨0, rfl⟩
theorem isI_one : IsI 1 := ⟨1, rfl⟩
theorem isI_sg (c : Nat) : IsI (sg c) := by unfold sg; split; exact ⟨1, rfl⟩; exact ⟨-1, rfl⟩
theorem isI_S {n : Nat} {f : Nat → Rat} (h : ∀ i, i < n → IsI (f i)) : IsI (S n f) := by
  induction n with
  | zero => exact isI_zero
  | succ n ih => exact (ih fun i hi => h i (by omega)).add (h n (by omega))
theorem isI_det : ∀ {n : Nat} {M : Nat → Nat → Rat}, (∀ c k, c < n → k < n → IsI (M c k)) → IsI (det n M)
  | 0, _, _ => isI_one
  | n + 1, M, h => by
    rw [det_succ]
    refine isI_S fun c hc => ((isI_sg c).mul (h c 0 hc (by omega))).mul ?_
    exact isI_det fun i k hi hk => h _ _ (skip_lt hi) (by omega)
theorem bd_mul {A B a b : Rat} (ha : Bd A a) (hb : Bd B b) : Bd (A * B) (a * b) := by
  have hA : 0 ≤ A := by have := ha.1; have := ha.2; grind
  have hB : 0 ≤ B := by have := hb.1; have := hb.2; grind
  obtain ⟨a1, a2⟩ := ha
  obtain ⟨b1, b2⟩ := hb
  have p1 : 0 ≤ (A - a) * (B + b) := Rat.mul_nonneg (by grind) (by grind)
  have p2 : 0 ≤ (A + a) * (B - b) := Rat.mul_nonneg (by grind) (by grind)
  have p3 : 0 ≤ (A - a) * (B - b) := Rat.mul_nonneg (by grind) (by grind)
  have p4 : 0 ≤ (A + a) * (B + b) := Rat.mul_nonneg (by grind) (by grind)
  constructor <;> grind
theorem bd_add {A B a b : Rat} (ha : Bd A a) (hb : Bd B b) : Bd (A + B) (a + b) := by
  obtain ⟨a1, a2⟩ := ha; obtain ⟨b1, b2⟩ := hb; constructor <;> grind
theorem bd_sub {A B a b : Rat} (ha : Bd A a) (hb : Bd B b) : Bd (A + B) (a - b) := by
  obtain ⟨a1, a2⟩ := ha; obtain ⟨b1, b2⟩ := hb; constructor <;> grind
theorem bd_neg {A a : Rat} (ha : Bd A a) : Bd A (-a) := by
  obtain ⟨a1, a2⟩ := ha; constructor <;> grind
theorem bd_mono {A B a : Rat} (h : A ≤ B) (ha : Bd A a) : Bd B a := by
  obtain ⟨a1, a2⟩ := ha; constructor <;> grind
theorem bd_zero {A : Rat} (h : 0 ≤ A) : Bd A 0 := by constructor <;> grind
theorem bd_S {n : Nat} {f : Nat → Rat} {B : Rat} (h : ∀ i, i < n → Bd B (f i)) : Bd ((n : Rat) * B) (S n f) := by
  induction n with
  | zero => simp only [S]; constructor <;> grind
  | succ n ih =>
    simp only [S]
    have h1 := bd_add (ih fun i hi => h i (by omega)) (h n (by omega))
    have e : ((n + 1 : Nat) : Rat) * B = (n : Rat) * B + B := by
      rw [show ((n + 1 : Nat) : Rat) = (n : Rat) + 1 from by simp]; grind
    rw [e]; exact h1
def fac (W : Rat) : Nat → Rat
  | 0 => 1
  | n + 1 => ((n + 1 : Nat) : Rat) * (W * fac W n)
theorem bd_det {W : Rat} : ∀ {n : Nat} {M : Nat → Nat → Rat}, (∀ c k, c < n → k < n → Bd W (M c k)) → Bd (fac W n) (det n M)
  | 0, _, _ => by unfold fac det; constructor <;> grind
  | n + 1, M, h => by
    rw [det_succ]
    unfold fac
    refine bd_S fun c hc => ?_
    have h1 : Bd W (sg c * M c 0) := by
      have := h c 0 hc (by omega)
      unfold sg; split
      · rw [Rat.one_mul]; exact this
      · have e : (-1 : Rat) * M c 0 = - M c 0 := by grind
        rw [e]; exact bd_neg this
    exact bd_mul h1 (bd_det fun i k hi hk => h _ _ (skip_lt hi) (by omega))
end LP


/-! Tables of the simplex method, turned; Bland's rule ends. -/
namespace LP
structure Tab where
  T : Nat → Nat → Rat
  b : Nat → Nat
def piv (s : Tab) (r c : Nat) : Tab :=
  { T := fun i j => if i = r then s.T r j / s.T r c else s.T i j - s.T i c * (s.T r j / s.T r c), b := fun i => if i = r then c else s.b i }
theorem piv_T_r (s : Tab) (r c j : Nat) : (piv s r c).T r j = s.T r j / s.T r c := if_pos rfl
theorem piv_T_ne (s : Tab) {r i : Nat} (c j : Nat) (h : i ≠ r) : (piv s r c).T i j = s.T i j - s.T i c * (s.T r j / s.T r c) := if_neg h
theorem piv_b_r (s : Tab) (r c : Nat) : (piv s r c).b r = c := if_pos rfl
theorem piv_b_ne (s : Tab) {r i : Nat} (c : Nat) (h : i ≠ r) : (piv s r c).b i = s.b i := if_neg h
/-- n rows; columns: m given ones, n own ones, the right side -/
structure Inv (n m : Nat) (A : Nat → Nat → Rat) (s : Tab) : Prop where
  bl : ∀ i, i < n → s.b i < m + n
  id : ∀ i k, i < n → k < n → s.T i (s.b k) = if i = k then 1 else 0
  rows : ∀ i j, i < n → j ≤ m + n → s.T i j = S n (fun k => s.T i (m + k) * A k j)
  cols : ∀ k j, k < n → j ≤ m + n → A k j = S n (fun i => A k (s.b i) * s.T i j)
def Feas (n m : Nat) (s : Tab) : Prop := ∀ i, i < n → 0 ≤ s.T i (m + n)
theorem S_upd {n r : Nat} {f g : Nat → Rat} (hr : r < n) (h : ∀ i, i < n → i ≠ r → f i = g i) : S n f = S n g + (f r - g r) := by
  have e : S n (fun i => f i - g i) = f r - g r := S_one hr (f := fun i => f i - g i) (fun i hi hne => by
    show f i - g i = 0
    rw [h i hi hne]; grind)
  rw [S_sub] at e
  grind
section
variable {n m : Nat} {A : Nat → Nat → Rat} {s : Tab}
theorem Inv.inj (I : Inv n m A s) {i k : Nat} (hi : i < n) (hk : k < n) (e : s.b i = s.b k) : i = k := by
  have h1 := I.id i i hi hi
  have h2 := I.id i k hi hk
  rw [if_pos rfl] at h1
  rw [← e, h1] at h2
  by_cases q : i = k
  · exact q
  · rw [if_neg q] at h2; grind
theorem Inv.piv (I : Inv n m A s) {r c : Nat} (hr : r < n) (hc : c < m + n) (hp : s.T r c ≠ 0) : Inv n m A (piv s r c) where
  bl := fun i hi => by
    by_cases h : i = r
    · subst h; rw [piv_b_r]; exact hc
    · rw [piv_b_ne s c h]; exact I.bl i hi
  id := fun i k hi hk => by
    by_cases hkr : k = r
    · subst hkr
      rw [piv_b_r]
      by_cases h : i = k
      · subst h; rw [piv_T_r, if_pos rfl]; grind
      · rw [piv_T_ne s c _ h, if_neg h]; grind
    · rw [piv_b_ne s c hkr]
      have z := I.id r k hr hk
      rw [if_neg (Ne.symm hkr)] at z
      by_cases h : i = r
      · subst h; rw [piv_T_r, if_neg (Ne.symm hkr), z]; grind
      · rw [piv_T_ne s c _ h, z, I.id i k hi hk]; grind
  rows := fun i j hi hj => by
    by_cases h : i = r
    · subst h
      have e : S n (fun k => (LP.piv s i c).T i (m + k) * A k j) = S n (fun k => s.T i (m + k) * A k j) / s.T i c := by
        rw [Rat.div_def, ← S_mulr]
        refine S_congr fun k _ => ?_
        rw [piv_T_r]; grind
      rw [e, ← I.rows i j hi hj, piv_T_r]
    · have e : S n (fun k => (LP.piv s r c).T i (m + k) * A k j) = S n (fun k => s.T i (m + k) * A k j) - (s.T i c / s.T r c) * S n (fun k => s.T r (m + k) * A k j) := by
        rw [← S_mul, ← S_sub]
        refine S_congr fun k _ => ?_
        rw [piv_T_ne s c _ h]; grind
      rw [e, ← I.rows i j hi hj, ← I.rows r j hr hj, piv_T_ne s c _ h]; grind
  cols := fun k j hk hj => by
    have e := S_upd (n := n) (r := r) (f := fun i => A k ((LP.piv s r c).b i) * (LP.piv s r c).T i j) (g := fun i => A k (s.b i) * (s.T i j - s.T i c * (s.T r j / s.T r c))) hr (fun i _ hne => by
      show _ * _ = _
      rw [piv_b_ne s c hne, piv_T_ne s c _ hne])
    have e2 : S n (fun i => A k (s.b i) * (s.T i j - s.T i c * (s.T r j / s.T r c))) = S n (fun i => A k (s.b i) * s.T i j) - S n (fun i => A k (s.b i) * s.T i c) * (s.T r j / s.T r c) := by
      rw [← S_mulr, ← S_sub]
      exact S_congr fun i _ => by grind
    rw [e2, ← I.cols k j hk hj, ← I.cols k c hk (by omega)] at e
    rw [e]
    show _ = A k j - A k c * (s.T r j / s.T r c) + (A k ((LP.piv s r c).b r) * (LP.piv s r c).T r j - A k (s.b r) * (s.T r j - s.T r c * (s.T r j / s.T r c)))
    rw [piv_b_r, piv_T_r]
    grind
/-- the table hangs on the basis alone -/
theorem Inv.unique {s' : Tab} (I : Inv n m A s) (I' : Inv n m A s') (h : ∀ i, i < n → s'.b i = s.b i) {i j : Nat} (hi : i < n) (hj : j ≤ m + n) : s'.T i j = s.T i j := by
  rw [I'.rows i j hi hj]
  have e : S n (fun k => s'.T i (m + k) * A k j) = S n (fun k => S n (fun l => s'.T i (m + k) * A k (s.b l) * s.T l j)) := S_congr fun k hk => by
    show _ * A k j = _
    rw [I.cols k j hk hj, ← S_mul]
    exact S_congr fun l _ => by grind
  rw [e, S_comm]
  have e2 : S n (fun l => S n (fun k => s'.T i (m + k) * A k (s.b l) * s.T l j)) = S n (fun l => (if i = l then 1 else 0) * s.T l j) := S_congr fun l hl => by
    rw [S_mulr, ← I'.rows i (s.b l) hi (Nat.le_of_lt (I.bl l hl)), ← h l hl, I'.id i l hi hl]
  rw [e2, S_one hi]
  · rw [if_pos rfl]; grind
  · intro l _ hne
    rw [if_neg (Ne.symm hne)]; grind
end
/-! ### worths -/
def used (n : Nat) (c : Nat → Rat) (s : Tab) (j : Nat) : Rat := S n (fun i => c (s.b i) * s.T i j)
def red (n : Nat) (c : Nat → Rat) (s : Tab) (j : Nat) : Rat := c j - used n c s j
def yv (n m : Nat) (c : Nat → Rat) (s : Tab) (k : Nat) : Rat := used n c s (m + k)
section
variable {n m : Nat} {A : Nat → Nat → Rat} {s : Tab} {c : Nat → Rat}
theorem Inv.used_y (I : Inv n m A s) {j : Nat} (hj : j ≤ m + n) : used n c s j = S n (fun k => yv n m c s k * A k j) := by
  have e : used n c s j = S n (fun i => S n (fun k => c (s.b i) * (s.T i (m + k) * A k j))) := S_congr fun i hi => by
    rw [S_mul, ← I.rows i j hi hj]
  rw [e, S_comm]
  refine S_congr fun k _ => ?_
  show _ = S n (fun i => c (s.b i) * s.T i (m + k)) * A k j
  rw [← S_mulr]
  exact S_congr fun i _ => by grind
theorem Inv.red_basic (I : Inv n m A s) {k : Nat} (hk : k < n) : red n c s (s.b k) = 0 := by
  unfold red used
  rw [S_one hk]
  · rw [I.id k k hk hk, if_pos rfl]; grind
  · intro i hi hne
    rw [I.id i k hi hk, if_neg hne]; grind
/-- along what sums up to nothing the worths may be read off the reduced ones -/
theorem Inv.red_null (I : Inv n m A s) {d : Nat → Rat} (hd : ∀ k, k < n → S (m + n) (fun j => A k j * d j) = 0) : S (m + n) (fun j => red n c s j * d j) = S (m + n) (fun j => c j * d j) := by
  have e : S (m + n) (fun j => red n c s j * d j) = S (m + n) (fun j => c j * d j - S n (fun k => yv n m c s k * (A k j * d j))) := S_congr fun j hj => by
    unfold red
    rw [I.used_y (Nat.le_of_lt hj)]
    have : S n (fun k => yv n m c s k * (A k j * d j)) = S n (fun k => yv n m c s k * A k j) * d j := by
      rw [← S_mulr]; exact S_congr fun k _ => by grind
    rw [this]; grind
  rw [e, S_sub, S_comm]
  have z : S n (fun k => S (m + n) (fun j => yv n m c s k * (A k j * d j))) = 0 := S_zero fun k hk => by
    rw [S_mul, hd k hk]; grind
  rw [z]; grind
/-- one more of column e, the basis following -/
def dir (n : Nat) (s : Tab) (e j : Nat) : Rat := (if j = e then 1 else 0) - S n (fun i => if s.b i = j then s.T i e else 0)
theorem S_pick {N b : Nat} (hb : b < N) (f : Nat → Rat) (x : Rat) : S N (fun j => f j * (if b = j then x else 0)) = f b * x := by
  rw [S_one hb]
  · rw [if_pos rfl]
  · intro i _ hne
    rw [if_neg (Ne.symm hne)]; grind
theorem Inv.dir_sum (I : Inv n m A s) {e : Nat} (he : e < m + n) (f : Nat → Rat) : S (m + n) (fun j => f j * dir n s e j) = f e - S n (fun i => f (s.b i) * s.T i e) := by
  have h : S (m + n) (fun j => f j * dir n s e j) = S (m + n) (fun j => f j * (if e = j then 1 else 0)) - S (m + n) (fun j => S n (fun i => f j * (if s.b i = j then s.T i e else 0))) := by
    rw [← S_sub]
    refine S_congr fun j _ => ?_
    unfold dir
    rw [S_mul]
    by_cases q : j = e
    · rw [if_pos q, if_pos q.symm]; grind
    · rw [if_neg q, if_neg (Ne.symm q)]; grind
  rw [h, S_pick he, S_comm]
  have h2 : S n (fun i => S (m + n) (fun j => f j * (if s.b i = j then s.T i e else 0))) = S n (fun i => f (s.b i) * s.T i e) := S_congr fun i hi => S_pick (I.bl i hi) f _
  rw [h2]; grind
theorem Inv.dir_null (I : Inv n m A s) {e : Nat} (he : e < m + n) : ∀ k, k < n → S (m + n) (fun j => A k j * dir n s e j) = 0 := fun k hk => by
  rw [I.dir_sum he, ← I.cols k e hk (Nat.le_of_lt he)]; grind
theorem Inv.dir_worth (I : Inv n m A s) {e : Nat} (he : e < m + n) : S (m + n) (fun j => c j * dir n s e j) = red n c s e := I.dir_sum he c
theorem Inv.dir_basic (I : Inv n m A s) {e i : Nat} (hi : i < n) (h : s.b i ≠ e) : dir n s e (s.b i) = - s.T i e := by
  unfold dir
  rw [if_neg h, S_one hi]
  · rw [if_pos rfl]; grind
  · intro k hk hne
    rw [if_neg fun q => hne (I.inj hk hi q)]
def Basic (n : Nat) (s : Tab) (v : Nat) : Prop := ∃ i, i < n ∧ s.b i = v
theorem dir_free {e j : Nat} (h : ¬ Basic n s j) (hj : j ≠ e) : dir n s e j = 0 := by
  unfold dir
  rw [if_neg hj, S_zero fun i hi => if_neg fun q => h ⟨i, hi, q⟩]; grind
theorem dir_e {e : Nat} (h : ¬ Basic n s e) : dir n s e e = 1 := by
  unfold dir
  rw [if_pos rfl, S_zero fun i hi => if_neg fun q => h ⟨i, hi, q⟩]; grind
theorem Inv.val_piv (I : Inv n m A s) {r e : Nat} (hr : r < n) (hp : s.T r e ≠ 0) (j : Nat) : used n c (LP.piv s r e) j = used n c s j + red n c s e * (s.T r j / s.T r e) := by
  have h := S_upd (n := n) (r := r) (f := fun i => c ((LP.piv s r e).b i) * (LP.piv s r e).T i j) (g := fun i => c (s.b i) * (s.T i j - s.T i e * (s.T r j / s.T r e))) hr (fun i _ hne => by
    show _ * _ = _
    rw [piv_b_ne s e hne, piv_T_ne s e _ hne])
  have e2 : S n (fun i => c (s.b i) * (s.T i j - s.T i e * (s.T r j / s.T r e))) = S n (fun i => c (s.b i) * s.T i j) - S n (fun i => c (s.b i) * s.T i e) * (s.T r j / s.T r e) := by
    rw [← S_mulr, ← S_sub]
    exact S_congr fun i _ => by grind
  show S n _ = _
  rw [h, e2]
  show S n (fun i => c (s.b i) * s.T i j) - S n (fun i => c (s.b i) * s.T i e) * (s.T r j / s.T r e) + (c ((LP.piv s r e).b r) * (LP.piv s r e).T r j - c (s.b r) * (s.T r j - s.T r e * (s.T r j / s.T r e))) = _
  rw [piv_b_r, piv_T_r]
  unfold red used
  grind
end
/-! ### Bland's rule -/
structure Enter (n m : Nat) (c : Nat → Rat) (s : Tab) (e : Nat) : Prop where
  lt : e < m
  pos : 0 < red n c s e
  first : ∀ j, j < e → red n c s j ≤ 0
structure Leave (n m : Nat) (s : Tab) (e r : Nat) : Prop where
  lt : r < n
  pos : 0 < s.T r e
  least : ∀ i, i < n → 0 < s.T i e → s.T r (m + n) / s.T r e < s.T i (m + n) / s.T i e ∨ (s.T r (m + n) / s.T r e = s.T i (m + n) / s.T i e ∧ s.b r ≤ s.b i)
theorem div_le_mul {a b p q : Rat} (hp : 0 < p) (hq : 0 < q) (h : a / p ≤ b / q) : q * (a / p) ≤ b := by
  have h1 := Rat.mul_le_mul_of_nonneg_left h (Rat.le_of_lt hq)
  have h2 : q * (b / q) = b := by grind
  rw [h2] at h1
  exact h1
theorem div_nonneg {a p : Rat} (ha : 0 ≤ a) (hp : 0 < p) : 0 ≤ a / p := by
  rw [Rat.div_def]
  exact Rat.mul_nonneg ha (Rat.le_of_lt (Rat.inv_pos.mpr hp))
section
variable {n m : Nat} {A : Nat → Nat → Rat} {s : Tab} {c : Nat → Rat}
theorem Leave.feas {e r : Nat} (F : Feas n m s) (L : Leave n m s e r) : Feas n m (piv s r e) := fun i hi => by
  have q0 := div_nonneg (F r L.lt) L.pos
  by_cases h : i = r
  · subst h; rw [piv_T_r]; exact q0
  · rw [piv_T_ne s e _ h]
    have fi := F i hi
    by_cases hp : 0 < s.T i e
    · have : s.T i e * (s.T r (m + n) / s.T r e) ≤ s.T i (m + n) := div_le_mul L.pos hp (by rcases L.least i hi hp with z | z <;> grind)
      grind
    · have : 0 ≤ (- s.T i e) * (s.T r (m + n) / s.T r e) := Rat.mul_nonneg (by grind) q0
      grind
theorem Enter.free {e : Nat} (I : Inv n m A s) (En : Enter n m c s e) : ¬ Basic n s e := fun ⟨i, hi, h⟩ => by
  have := I.red_basic (c := c) hi
  have p := En.pos
  rw [← h] at p
  grind
theorem basic_piv {r e v : Nat} (I : Inv n m A s) (hr : r < n) : Basic n (piv s r e) v ↔ v = e ∨ (Basic n s v ∧ v ≠ s.b r) := by
  constructor
  · rintro ⟨i, hi, h⟩
    by_cases q : i = r
    · subst q; rw [piv_b_r] at h; exact .inl h.symm
    · rw [piv_b_ne s e q] at h
      exact .inr ⟨⟨i, hi, h⟩, fun z => q (I.inj hi hr (h.trans z))⟩
  · rintro (h | ⟨⟨i, hi, h⟩, hne⟩)
    · exact ⟨r, hr, by rw [piv_b_r, h]⟩
    · have q : i ≠ r := fun z => hne (by rw [← h, z])
      exact ⟨i, hi, by rw [piv_b_ne s e q, h]⟩
end
theorem pigeon : ∀ (N : Nat) (f : Nat → Nat), (∀ k, f k < N) → ∃ i j, i < j ∧ f i = f j
  | 0, f, h => absurd (h 0) (Nat.not_lt_zero _)
  | N + 1, f, h => by
    by_cases q : ∃ K, ∀ k, K ≤ k → f k ≠ N
    · obtain ⟨K, hK⟩ := q
      obtain ⟨i, j, hij, e⟩ := pigeon N (fun k => f (K + k)) fun k => by
        have h1 := h (K + k)
        have h2 := hK (K + k) (by omega)
        show f (K + k) < N
        omega
      exact ⟨K + i, K + j, by omega, e⟩
    · have ex : ∀ K, ∃ k, K ≤ k ∧ f k = N := fun K => Classical.byContradiction fun z => q ⟨K, fun k hk e => z ⟨k, hk, e⟩⟩
      obtain ⟨i, _, hi⟩ := ex 0
      obtain ⟨j, hj, hj2⟩ := ex (i + 1)
      exact ⟨i, j, by omega, hi.trans hj2.symm⟩
def enc (N : Nat) (b : Nat → Nat) : Nat → Nat
  | 0 => 0
  | n + 1 => enc N b n + b n * N ^ n
theorem enc_lt {N : Nat} {b : Nat → Nat} : ∀ {n : Nat}, (∀ i, i < n → b i < N) → enc N b n < N ^ n
  | 0, _ => by simp [enc]
  | n + 1, h => by
    have h1 := enc_lt (n := n) fun i hi => h i (by omega)
    have h2 := h n (by omega)
    have h3 : b n * N ^ n + N ^ n ≤ N * N ^ n := by
      rw [← Nat.succ_mul]; exact Nat.mul_le_mul_right _ h2
    show enc N b n + b n * N ^ n < N ^ (n + 1)
    rw [Nat.pow_succ, Nat.mul_comm (N ^ n) N]
    omega
theorem enc_inj {N : Nat} {b d : Nat → Nat} : ∀ {n : Nat}, (∀ i, i < n → b i < N) → (∀ i, i < n → d i < N) → enc N b n = enc N d n → ∀ i, i < n → b i = d i
  | 0, _, _, _, i, hi => by omega
  | n + 1, hb, hd, e, i, hi => by
    have l1 := enc_lt (n := n) fun i hi => hb i (by omega)
    have l2 := enc_lt (n := n) fun i hi => hd i (by omega)
    have e : enc N b n + b n * N ^ n = enc N d n + d n * N ^ n := e
    have hp : 0 < N ^ n := by omega
    have q : b n = d n := by
      have e1 : (enc N b n + b n * N ^ n) / N ^ n = b n := by rw [Nat.add_mul_div_right _ _ hp, Nat.div_eq_of_lt l1]; omega
      have e2 : (enc N d n + d n * N ^ n) / N ^ n = d n := by rw [Nat.add_mul_div_right _ _ hp, Nat.div_eq_of_lt l2]; omega
      rw [← e1, ← e2, e]
    by_cases h : i = n
    · rw [h]; exact q
    · rw [q] at e
      exact enc_inj (n := n) (fun i hi => hb i (by omega)) (fun i hi => hd i (by omega)) (by omega) i (by omega)
theorem ex_max {P : Nat → Prop} : ∀ (N : Nat), (∀ v, P v → v < N) → (∃ v, P v) → ∃ t, P t ∧ ∀ v, P v → v ≤ t
  | 0, h, ⟨v, hv⟩ => absurd (h v hv) (Nat.not_lt_zero _)
  | N + 1, h, ⟨v, hv⟩ => by
    by_cases q : P N
    · exact ⟨N, q, fun v hv => by have := h v hv; omega⟩
    · exact ex_max N (fun v hv => by
        have h1 := h v hv
        have : v ≠ N := fun e => q (e ▸ hv)
        omega) ⟨v, hv⟩
/-- no run of turns by Bland's rule is without an end -/
theorem bland {n m : Nat} {A : Nat → Nat → Rat} {c : Nat → Rat} (s : Nat → Tab) (e r : Nat → Nat) (I : ∀ k, Inv n m A (s k)) (En : ∀ k, Enter n m c (s k) (e k)) (L : ∀ k, Leave n m (s k) (e k) (r k))
    (F : ∀ k, Feas n m (s k)) (st : ∀ k, s (k + 1) = piv (s k) (r k) (e k)) : False := by
  obtain ⟨a, z, haz, hez⟩ := pigeon ((m + n) ^ n) (fun k => enc (m + n) (s k).b n) fun k => enc_lt fun i hi => (I k).bl i hi
  have hb : ∀ i, i < n → (s a).b i = (s z).b i := enc_inj (fun i hi => (I a).bl i hi) (fun i hi => (I z).bl i hi) hez
  have em : ∀ k, e k < m + n := fun k => by have := (En k).lt; omega
  have pne : ∀ k, (s k).T (r k) (e k) ≠ 0 := fun k => by have := (L k).pos; grind
  have ratio : ∀ k, 0 ≤ (s k).T (r k) (m + n) / (s k).T (r k) (e k) := fun k => div_nonneg (F k _ (L k).lt) (L k).pos
  have vs : ∀ k, used n c (s (k + 1)) (m + n) = used n c (s k) (m + n) + red n c (s k) (e k) * ((s k).T (r k) (m + n) / (s k).T (r k) (e k)) := fun k => by
    rw [st k]; exact (I k).val_piv (L k).lt (pne k) _
  have gain : ∀ k, 0 ≤ red n c (s k) (e k) * ((s k).T (r k) (m + n) / (s k).T (r k) (e k)) := fun k => Rat.mul_nonneg (Rat.le_of_lt (En k).pos) (ratio k)
  have mono : ∀ d k, used n c (s k) (m + n) ≤ used n c (s (k + d)) (m + n) := by
    intro d
    induction d with
    | zero => intro k; exact Rat.le_refl
    | succ d ih =>
      intro k
      have h1 := ih k
      have h2 := vs (k + d)
      have h3 := gain (k + d)
      show _ ≤ used n c (s (k + d + 1)) (m + n)
      grind
  have same : used n c (s a) (m + n) = used n c (s z) (m + n) := by
    refine S_congr fun i hi => ?_
    rw [hb i hi, (I z).unique (I a) hb hi (Nat.le_refl _)]
  -- nothing is gained on the way
  have rz : ∀ k, a ≤ k → k < z → (s k).T (r k) (m + n) = 0 := fun k h1 h2 => by
    have q1 := mono (k - a) a
    have q2 := mono (z - (k + 1)) (k + 1)
    rw [show a + (k - a) = k by omega] at q1
    rw [show k + 1 + (z - (k + 1)) = z by omega] at q2
    have g := gain k
    have v := vs k
    have p := (En k).pos
    have zero : red n c (s k) (e k) * ((s k).T (r k) (m + n) / (s k).T (r k) (e k)) = 0 := by grind
    have pp := (L k).pos
    have : (s k).T (r k) (m + n) / (s k).T (r k) (e k) = 0 := by grind
    have e1 : (s k).T (r k) (m + n) = ((s k).T (r k) (m + n) / (s k).T (r k) (e k)) * (s k).T (r k) (e k) := by grind
    rw [e1, this]; grind
  let x : Nat → Nat → Rat := fun k v => S n (fun i => if (s k).b i = v then (s k).T i (m + n) else 0)
  have xs : ∀ k, a ≤ k → k < z → ∀ v, x (k + 1) v = x k v := fun k h1 h2 v => by
    show S n _ = S n _
    have t0 := rz k h1 h2
    refine S_congr fun i hi => ?_
    rw [st k]
    by_cases q : i = r k
    · rw [q, piv_b_r, piv_T_r, t0]
      have : (0 : Rat) / (s k).T (r k) (e k) = 0 := by grind
      rw [this]
      split <;> split <;> rfl
    · rw [piv_b_ne _ _ q, piv_T_ne _ _ _ q, t0]
      have : (s k).T i (m + n) - (s k).T i (e k) * (0 / (s k).T (r k) (e k)) = (s k).T i (m + n) := by grind
      rw [this]
  have xc : ∀ d k, a ≤ k → k + d ≤ z → ∀ v, x (k + d) v = x k v := by
    intro d
    induction d with
    | zero => intros; rfl
    | succ d ih =>
      intro k h1 h2 v
      rw [← ih k h1 (by omega) v]
      exact xs (k + d) (by omega) (by omega) v
  have xeq : ∀ k l, a ≤ k → k ≤ z → a ≤ l → l ≤ z → ∀ v, x k v = x l v := fun k l h1 h2 h3 h4 v => by
    have q1 := xc (k - a) a (Nat.le_refl _) (by omega) v
    have q2 := xc (l - a) a (Nat.le_refl _) (by omega) v
    rw [show a + (k - a) = k by omega] at q1
    rw [show a + (l - a) = l by omega] at q2
    rw [q1, q2]
  -- those that come and go
  let Fk : Nat → Prop := fun v => ∃ k, a ≤ k ∧ k < z ∧ (v = e k ∨ v = (s k).b (r k))
  obtain ⟨t, ht, hmax⟩ := ex_max (P := Fk) (m + n) (by
    rintro v ⟨k, _, _, h | h⟩
    · rw [h]; exact em k
    · rw [h]; exact (I k).bl _ (L k).lt) ⟨e a, a, Nat.le_refl _, haz, .inl rfl⟩
  have bs : ∀ k v, Basic n (s (k + 1)) v ↔ v = e k ∨ (Basic n (s k) v ∧ v ≠ (s k).b (r k)) := fun k v => by rw [st k]; exact basic_piv (I k) (L k).lt
  have stay : ∀ v, (∀ k, a ≤ k → k < z → v ≠ (s k).b (r k)) → ∀ d k, a ≤ k → k + d ≤ z → Basic n (s k) v → Basic n (s (k + d)) v := by
    intro v hv d
    induction d with
    | zero => intro k _ _ h; exact h
    | succ d ih =>
      intro k h1 h2 h
      exact (bs (k + d) v).mpr (.inr ⟨ih k h1 (by omega) h, hv (k + d) (by omega) (by omega)⟩)
  have away : ∀ v, (∀ k, a ≤ k → k < z → v ≠ e k) → ∀ d k, a ≤ k → k + d ≤ z → Basic n (s (k + d)) v → Basic n (s k) v := by
    intro v hv d
    induction d with
    | zero => intro k _ _ h; exact h
    | succ d ih =>
      intro k h1 h2 h
      rcases (bs (k + d) v).mp h with q | q
      · exact absurd q (hv (k + d) (by omega) (by omega))
      · exact ih k h1 (by omega) q.1
  have around : ∀ v, Basic n (s z) v ↔ Basic n (s a) v := fun v =>
    ⟨fun ⟨i, hi, h⟩ => ⟨i, hi, (hb i hi).trans h⟩, fun ⟨i, hi, h⟩ => ⟨i, hi, (hb i hi).symm.trans h⟩⟩
  have comes : ∃ p, a ≤ p ∧ p < z ∧ t = e p := Classical.byContradiction fun hno => by
    have hv : ∀ k, a ≤ k → k < z → t ≠ e k := fun k h1 h2 q => hno ⟨k, h1, h2, q⟩
    obtain ⟨q, h1, h2, h | h⟩ := ht
    · exact hv q h1 h2 h
    · have b0 : Basic n (s q) t := ⟨r q, (L q).lt, h.symm⟩
      have b1 := away t hv (q - a) a (Nat.le_refl _) (by omega) (by rw [show a + (q - a) = q by omega]; exact b0)
      have b2 := (around t).mpr b1
      have b3 := away t hv (z - (q + 1)) (q + 1) (by omega) (by omega) (by rw [show q + 1 + (z - (q + 1)) = z by omega]; exact b2)
      rcases (bs q t).mp b3 with y | y
      · exact hv q h1 h2 y
      · exact y.2 h
  obtain ⟨p, hp1, hp2, hp⟩ := comes
  have tfree : ¬ Basic n (s p) t := by rw [hp]; exact (En p).free (I p)
  have goes : ∃ q, a ≤ q ∧ q < z ∧ t = (s q).b (r q) := Classical.byContradiction fun hno => by
    have hv : ∀ k, a ≤ k → k < z → t ≠ (s k).b (r k) := fun k h1 h2 q => hno ⟨k, h1, h2, q⟩
    have b1 : Basic n (s (p + 1)) t := (bs p t).mpr (.inl hp)
    have b2 := stay t hv (z - (p + 1)) (p + 1) (by omega) (by omega) b1
    rw [show p + 1 + (z - (p + 1)) = z by omega] at b2
    have b3 := stay t hv (p - a) a (Nat.le_refl _) (by omega) ((around t).mp b2)
    rw [show a + (p - a) = p by omega] at b3
    exact tfree b3
  obtain ⟨q, hq1, hq2, hq⟩ := goes
  have tb : Basic n (s q) t := ⟨r q, (L q).lt, hq.symm⟩
  have sfree := (En q).free (I q)
  have slt : e q < t := by
    have h1 := hmax (e q) ⟨q, hq1, hq2, .inl rfl⟩
    have h2 : e q ≠ t := fun z => sfree (z ▸ tb)
    omega
  have sum : 0 < S (m + n) (fun j => red n c (s p) j * dir n (s q) (e q) j) := by
    rw [(I p).red_null ((I q).dir_null (em q)), (I q).dir_worth (em q)]
    exact (En q).pos
  obtain ⟨v, hv, hpos⟩ := S_pos_ex sum
  by_cases h1 : v = e q
  · rw [h1, dir_e sfree] at hpos
    have := (En p).first (e q) (by rw [← hp]; exact slt)
    grind
  · have vb : Basic n (s q) v := Classical.byContradiction fun h => by
      rw [dir_free h h1] at hpos; grind
    obtain ⟨i, hi, rfl⟩ := vb
    rw [(I q).dir_basic hi h1] at hpos
    have vf : ¬ Basic n (s p) ((s q).b i) := fun ⟨k, hk, h⟩ => by
      rw [← h, (I p).red_basic hk] at hpos; grind
    have fick : Fk ((s q).b i) := Classical.byContradiction fun hno => by
      have h2 : ∀ k, a ≤ k → k < z → (s q).b i ≠ e k := fun k y1 y2 y => hno ⟨k, y1, y2, .inl y⟩
      have h3 : ∀ k, a ≤ k → k < z → (s q).b i ≠ (s k).b (r k) := fun k y1 y2 y => hno ⟨k, y1, y2, .inr y⟩
      have b1 := away _ h2 (q - a) a (Nat.le_refl _) (by omega) (by rw [show a + (q - a) = q by omega]; exact ⟨i, hi, rfl⟩)
      have b2 := stay _ h3 (p - a) a (Nat.le_refl _) (by omega) b1
      rw [show a + (p - a) = p by omega] at b2
      exact vf b2
    have hle := hmax _ fick
    by_cases h4 : (s q).b i = t
    · have : i = r q := (I q).inj hi (L q).lt (h4.trans hq)
      subst this
      have p1 := (L q).pos
      have p2 := (En p).pos
      rw [← hp, ← h4] at p2
      have : 0 < red n c (s p) ((s q).b (r q)) * (s q).T (r q) (e q) := Rat.mul_pos p2 p1
      grind
    · have n1 := (En p).first ((s q).b i) (by rw [← hp]; omega)
      have n2 : 0 < (s q).T i (e q) := by
        by_cases y : 0 < (s q).T i (e q)
        · exact y
        · have : 0 ≤ (- red n c (s p) ((s q).b i)) * (- (s q).T i (e q)) := Rat.mul_nonneg (by grind) (by grind)
          grind
      have x0 : (s q).T i (m + n) = 0 := by
        have y1 : x q ((s q).b i) = (s q).T i (m + n) := by
          show S n _ = _
          rw [S_one hi]
          · rw [if_pos rfl]
          · intro k hk hne
            exact if_neg fun y => hne ((I q).inj hk hi y)
        have y2 : x p ((s q).b i) = 0 := S_zero fun k hk => if_neg fun y => vf ⟨k, hk, y⟩
        rw [← y1, xeq q p hq1 (Nat.le_of_lt hq2) hp1 (Nat.le_of_lt hp2), y2]
      have t0 := rz q hq1 hq2
      rcases (L q).least i hi n2 with y | y
      · rw [t0, x0] at y; grind
      · have := y.2
        rw [← hq] at this
        omega
end LP


/-! The table's course ends; what is bounded; what the ends show. -/
namespace LP
/-- every run by Bland's rule from s ends within m turns -/
def Rk (n m : Nat) (c : Nat → Rat) : Nat → Tab → Prop
  | 0, s => ∀ e r, Enter n m c s e → Leave n m s e r → False
  | k + 1, s => ∀ e r, Enter n m c s e → Leave n m s e r → Rk n m c k (piv s r e)
theorem Enter.uniq {n m : Nat} {c : Nat → Rat} {s : Tab} {e e' : Nat} (h : Enter n m c s e) (h' : Enter n m c s e') : e = e' := by
  rcases Nat.lt_trichotomy e e' with q | q | q
  · have := h'.first e q; have := h.pos; grind
  · exact q
  · have := h.first e' q; have := h'.pos; grind
theorem Leave.uniq {n m : Nat} {A : Nat → Nat → Rat} {s : Tab} {e r r' : Nat} (I : Inv n m A s) (h : Leave n m s e r) (h' : Leave n m s e r') : r = r' := by
  refine I.inj h.lt h'.lt ?_
  rcases h.least r' h'.lt h'.pos with a | a
  · rcases h'.least r h.lt h.pos with b | b
    · exact absurd (Std.lt_trans a b) Rat.lt_irrefl
    · exact absurd a (by rw [b.1]; exact Rat.lt_irrefl)
  · rcases h'.least r h.lt h.pos with b | b
    · exact absurd b (by rw [a.1]; exact Rat.lt_irrefl)
    · have := a.2; have := b.2; omega
theorem rk_ex {n m : Nat} {A : Nat → Nat → Rat} {c : Nat → Rat} {s₀ : Tab} (I₀ : Inv n m A s₀) (F₀ : Feas n m s₀) : ∃ k, Rk n m c k s₀ := by
  refine Classical.byContradiction fun hno => ?_
  have hno : ∀ k, ¬ Rk n m c k s₀ := fun k h => hno ⟨k, h⟩
  let G : Tab → Prop := fun s => Inv n m A s ∧ Feas n m s ∧ ∀ k, ¬ Rk n m c k s
  have nxt : ∀ s, G s → ∃ e r, Enter n m c s e ∧ Leave n m s e r ∧ G (piv s r e) := by
    rintro s ⟨I, F, h⟩
    have h0 := h 0
    have : ∃ e r, Enter n m c s e ∧ Leave n m s e r := Classical.byContradiction fun z => h0 fun e r h1 h2 => z ⟨e, r, h1, h2⟩
    obtain ⟨e, r, En, L⟩ := this
    have hp : s.T r e ≠ 0 := by have := L.pos; grind
    refine ⟨e, r, En, L, I.piv L.lt (by have := En.lt; omega) hp, L.feas F, fun k hk => h (k + 1) fun e' r' En' L' => ?_⟩
    have q := En.uniq En'
    subst q
    have q := L.uniq I L'
    subst q
    exact hk
  let S0 : { s // G s } := ⟨s₀, I₀, F₀, hno⟩
  let ee : { s // G s } → Nat := fun s => Classical.choose (nxt s.1 s.2)
  let rr : { s // G s } → Nat := fun s => Classical.choose (Classical.choose_spec (nxt s.1 s.2))
  have sp : ∀ s : { s // G s }, Enter n m c s.1 (ee s) ∧ Leave n m s.1 (ee s) (rr s) ∧ G (piv s.1 (rr s) (ee s)) := fun s => Classical.choose_spec (Classical.choose_spec (nxt s.1 s.2))
  let run : Nat → { s // G s } := fun k => Nat.rec S0 (fun _ s => ⟨piv s.1 (rr s) (ee s), (sp s).2.2⟩) k
  exact bland (fun k => (run k).1) (fun k => ee (run k)) (fun k => rr (run k)) (fun k => (run k).2.1) (fun k => (sp (run k)).1) (fun k => (sp (run k)).2.1) (fun k => (run k).2.2.1) (fun _ => rfl)

/-! ### denominators -/
/-- a whole number from -K to K over D -/
def Hd (D K q : Rat) : Prop := IsI (D * q) ∧ Bd K (D * q)
theorem Hd.add {D K L a b : Rat} (h : Hd D K a) (h' : Hd D L b) : Hd D (K + L) (a + b) := by
  have e : D * (a + b) = D * a + D * b := by grind
  exact ⟨e ▸ h.1.add h'.1, e ▸ bd_add h.2 h'.2⟩
theorem Hd.sub {D K L a b : Rat} (h : Hd D K a) (h' : Hd D L b) : Hd D (K + L) (a - b) := by
  have e : D * (a - b) = D * a - D * b := by grind
  exact ⟨e ▸ h.1.sub h'.1, e ▸ bd_sub h.2 h'.2⟩
theorem Hd.mul {D E K L a b : Rat} (h : Hd D K a) (h' : Hd E L b) : Hd (D * E) (K * L) (a * b) := by
  have e : D * E * (a * b) = (D * a) * (E * b) := by grind
  exact ⟨e ▸ h.1.mul h'.1, e ▸ bd_mul h.2 h'.2⟩
theorem Hd.mono {D K L a : Rat} (h : Hd D K a) (hl : K ≤ L) : Hd D L a := ⟨h.1, bd_mono hl h.2⟩
theorem Hd.zero {D K : Rat} (h : 0 ≤ K) : Hd D K 0 := by
  have e : D * 0 = 0 := by grind
  unfold Hd
  rw [e]
  exact ⟨isI_zero, bd_zero h⟩
theorem Hd.neg {D K a : Rat} (h : Hd D K a) : Hd D K (-a) := by
  have e : D * (-a) = - (D * a) := by grind
  exact ⟨e ▸ h.1.neg, e ▸ bd_neg h.2⟩
/-- over a greater denominator -/
theorem Hd.scale {D K E B a : Rat} (h : Hd D K a) (hE : IsI E) (hB : Bd B E) : Hd (E * D) (B * K) a := by
  have e : E * D * a = E * (D * a) := by grind
  exact ⟨e ▸ hE.mul h.1, e ▸ bd_mul hB h.2⟩
theorem Hd.scale' {D K E B a : Rat} (h : Hd D K a) (hE : IsI E) (hB : Bd B E) : Hd (D * E) (B * K) a := by
  have e : D * E * a = E * (D * a) := by grind
  exact ⟨e ▸ hE.mul h.1, e ▸ bd_mul hB h.2⟩
theorem Hd.sum {D K : Rat} {f : Nat → Rat} : ∀ {n : Nat}, (∀ i, i < n → Hd D K (f i)) → Hd D ((n : Rat) * K) (S n f)
  | 0, _ => by
    have : (0 : Rat) ≤ ((0 : Nat) : Rat) * K := by simp
    exact Hd.zero this
  | n + 1, h => by
    have e : ((n + 1 : Nat) : Rat) * K = (n : Rat) * K + K := by
      rw [show ((n + 1 : Nat) : Rat) = (n : Rat) + 1 from by simp]; grind
    rw [e]
    exact (Hd.sum (n := n) fun i hi => h i (by omega)).add (h n (by omega))
theorem hd_int {B : Rat} {z : Int} (h : Bd B (z : Rat)) : Hd 1 B (z : Rat) := by
  have e : (1 : Rat) * (z : Rat) = z := by grind
  unfold Hd
  rw [e]
  exact ⟨isI_int z, h⟩

/-! ### what a part may be -/
def lim : Nat := 10 ^ 60
def Fit (q : Rat) : Prop := q.num.natAbs ≤ lim ∧ q.den ≤ lim
theorem natAbs_of_bd {z : Int} {N : Nat} (h : Bd (N : Rat) (z : Rat)) : z.natAbs ≤ N := by
  obtain ⟨h1, h2⟩ := h
  have h2 : (z : Rat) ≤ ((N : Int) : Rat) := by rw [Rat.intCast_natCast]; exact h2
  have h1 : ((-(N : Int) : Int) : Rat) ≤ (z : Rat) := by rw [Rat.intCast_neg, Rat.intCast_natCast]; exact h1
  have h2 := Rat.intCast_le_intCast.mp h2
  have h1 := Rat.intCast_le_intCast.mp h1
  omega
theorem fit_div {a d : Int} (hd : d ≠ 0) (ha : a.natAbs ≤ lim) (hd2 : d.natAbs ≤ lim) : Fit (Rat.divInt a d) := by
  have hg : d ∣ a * (Rat.divInt a d).den ∨ True := .inr trivial
  have e := Rat.num_divInt a d
  have e2 := Rat.den_divInt a d
  constructor
  · rw [e]
    rw [Int.natAbs_ediv_of_dvd (by
      first
        | exact Int.dvd_mul_of_dvd_right (Int.gcd_dvd_left ..)
        | exact Int.dvd_trans (Int.gcd_dvd_right ..) (Int.dvd_mul_left _ _))]
    refine Nat.le_trans (Nat.div_le_self _ _) ?_
    rw [Int.natAbs_mul]
    have hs : d.sign.natAbs = 1 := by
      rcases Int.lt_trichotomy d 0 with h | h | h
      · rw [Int.sign_eq_neg_one_of_neg h]; decide
      · exact absurd h hd
      · rw [Int.sign_eq_one_of_pos h]; decide
    rw [hs, Nat.one_mul]; exact ha
  · rw [e2, if_neg hd]
    exact Nat.le_trans (Nat.div_le_self _ _) hd2
theorem Hd.fit {D K q : Rat} (hD : IsI D) (h0 : D ≠ 0) (hb : Bd (lim : Rat) D) (hK : K ≤ (lim : Rat)) (h : Hd D K q) : Fit q := by
  obtain ⟨d, rfl⟩ := hD
  obtain ⟨⟨a, ha⟩, hb2⟩ := h
  rw [ha] at hb2
  have hd : d ≠ 0 := fun e => h0 (by rw [e]; rfl)
  have e : q = Rat.divInt a d := by
    rw [Rat.divInt_eq_div, ← ha]; grind
  rw [e]
  exact fit_div hd (natAbs_of_bd (bd_mono hK hb2)) (natAbs_of_bd hb)
end LP


/-! A table of a system: bounds, and what its ends show. -/
namespace LP
/-- all entries over one whole denominator, bounded -/
structure Den (n m : Nat) (A : Nat → Nat → Rat) (M0 : Rat) (s : Tab) (D : Rat) : Prop where
  int : IsI D
  ne : D ≠ 0
  bd : Bd M0 D
  ent : ∀ i j, i < n → j ≤ m + n → Hd D M0 (s.T i j)
def bas (A : Nat → Nat → Rat) (s : Tab) : Nat → Nat → Rat := fun i k => A k (s.b i)
theorem Inv.den {n m : Nat} {A : Nat → Nat → Rat} {s : Tab} {W : Rat} (I : Inv n m A s) (hA : ∀ k j, k < n → j ≤ m + n → IsI (A k j) ∧ Bd W (A k j)) (h0 : det n (bas A s) ≠ 0) :
    Den n m A (fac W n) s (det n (bas A s)) where
  int := isI_det fun c k hc hk => (hA k _ hk (Nat.le_of_lt (I.bl c hc))).1
  ne := h0
  bd := bd_det fun c k hc hk => (hA k _ hk (Nat.le_of_lt (I.bl c hc))).2
  ent := fun i j hi hj => by
    have e : det n (setc (bas A s) i (fun k => A k j)) = s.T i j * det n (bas A s) := cramer hi (x := fun i => s.T i j) (a := fun k => A k j) fun k hk => by
      rw [I.cols k j hk hj]
      exact S_congr fun l _ => by show _ = s.T l j * A k (s.b l); grind
    have e2 : det n (bas A s) * s.T i j = det n (setc (bas A s) i (fun k => A k j)) := by rw [e]; grind
    unfold Hd
    rw [e2]
    refine ⟨isI_det fun c k hc hk => ?_, bd_det fun c k hc hk => ?_⟩
    · unfold setc; split
      · exact (hA k j hk hj).1
      · exact (hA k _ hk (Nat.le_of_lt (I.bl c hc))).1
    · unfold setc; split
      · exact (hA k j hk hj).2
      · exact (hA k _ hk (Nat.le_of_lt (I.bl c hc))).2
theorem Inv.det_piv {n m : Nat} {A : Nat → Nat → Rat} {s : Tab} (I : Inv n m A s) {r e : Nat} (hr : r < n) (he : e < m + n) : det n (bas A (LP.piv s r e)) = s.T r e * det n (bas A s) := by
  have e1 : bas A (LP.piv s r e) = setc (bas A s) r (fun k => A k e) := by
    funext i k
    unfold bas setc
    by_cases h : i = r
    · rw [if_pos h, h, piv_b_r]
    · rw [if_neg h, piv_b_ne s e h]
  rw [e1]
  exact cramer hr (x := fun i => s.T i e) (a := fun k => A k e) fun k hk => by
    rw [I.cols k e hk (Nat.le_of_lt he)]
    exact S_congr fun l _ => by show _ = s.T l e * A k (s.b l); grind

/-! ### the system: n sums, m columns col j, what is wanted -/
def sgn (want : Nat → Rat) (k : Nat) : Rat := if want k < 0 then -1 else 1
theorem sgn_sq (want : Nat → Rat) (k : Nat) : sgn want k * sgn want k = 1 := by unfold sgn; split <;> grind
theorem sgn_want (want : Nat → Rat) (k : Nat) : 0 ≤ sgn want k * want k := by unfold sgn; split <;> grind
/-- columns 0..m-1: col j with the signs; m..m+n-1: the own ones; m+n: what is wanted -/
def mat (n m : Nat) (col : Nat → Nat → Rat) (want : Nat → Rat) : Nat → Nat → Rat := fun k j =>
  if j < m then sgn want k * col j k else if j < m + n then (if j = m + k then 1 else 0) else sgn want k * want k
section
variable {n m : Nat} {col : Nat → Nat → Rat} {want : Nat → Rat}
theorem mat_col {k j : Nat} (h : j < m) : mat n m col want k j = sgn want k * col j k := if_pos h
theorem mat_own {k i : Nat} (h : i < n) : mat n m col want k (m + i) = if k = i then 1 else 0 := by
  unfold mat
  rw [if_neg (by omega), if_pos (by omega)]
  by_cases e : k = i
  · rw [if_pos e, if_pos (by omega)]
  · rw [if_neg e, if_neg (by omega)]
theorem mat_rhs {k : Nat} : mat n m col want k (m + n) = sgn want k * want k := by
  unfold mat
  rw [if_neg (by omega), if_neg (by omega)]
def tab0 (n m : Nat) (col : Nat → Nat → Rat) (want : Nat → Rat) : Tab := { T := mat n m col want, b := fun i => m + i }
theorem inv0 : Inv n m (mat n m col want) (tab0 n m col want) where
  bl := fun i hi => by show m + i < m + n; omega
  id := fun i k _ hk => mat_own hk
  rows := fun i j hi _ => by
    show mat n m col want i j = _
    rw [S_one hi]
    · show _ = mat n m col want i (m + i) * _
      rw [mat_own hi, if_pos rfl]; grind
    · intro k hk hne
      show mat n m col want i (m + k) * _ = 0
      rw [mat_own hk, if_neg (Ne.symm hne)]; grind
  cols := fun k j hk _ => by
    show mat n m col want k j = _
    rw [S_one hk]
    · show _ = mat n m col want k (m + k) * mat n m col want k j
      rw [mat_own hk, if_pos rfl]; grind
    · intro i hi hne
      show mat n m col want k (m + i) * _ = 0
      rw [mat_own hi, if_neg (Ne.symm hne)]; grind
theorem feas0 : Feas n m (tab0 n m col want) := fun i _ => by
  show 0 ≤ mat n m col want i (m + n)
  rw [mat_rhs]; exact sgn_want want i
theorem det0 : det n (bas (mat n m col want) (tab0 n m col want)) = 1 := by
  rw [← det_id n]
  refine det_congr fun c k hc _ => ?_
  show mat n m col want k (m + c) = _
  rw [mat_own hc]
  by_cases h : c = k
  · rw [if_pos h, if_pos h.symm]
  · rw [if_neg h, if_neg (Ne.symm h)]
theorem mat_bd {W : Rat} (hW : 1 ≤ W) (hc : ∀ j k, j < m → k < n → IsI (col j k) ∧ Bd W (col j k)) (hw : ∀ k, k < n → IsI (want k) ∧ Bd W (want k)) :
    ∀ k j, k < n → j ≤ m + n → IsI (mat n m col want k j) ∧ Bd W (mat n m col want k j) := fun k j hk hj => by
  have sg : ∀ q : Rat, IsI q ∧ Bd W q → IsI (sgn want k * q) ∧ Bd W (sgn want k * q) := fun q ⟨h1, h2⟩ => by
    unfold sgn; split
    · have e : (-1 : Rat) * q = -q := by grind
      rw [e]; exact ⟨h1.neg, bd_neg h2⟩
    · rw [Rat.one_mul]; exact ⟨h1, h2⟩
  unfold mat
  split
  · exact sg _ (hc j k (by assumption) hk)
  · split
    · split
      · exact ⟨isI_one, by constructor <;> grind⟩
      · exact ⟨isI_zero, by constructor <;> grind⟩
    · exact sg _ (hw k hk)

/-- the places: what each sum is worth -/
def side (n m : Nat) (want : Nat → Rat) (c : Nat → Rat) (s : Tab) (k : Nat) : Rat := sgn want k * (c (m + k) - red n c s (m + k))
theorem side_y {c : Nat → Rat} {s : Tab} {k : Nat} : side n m want c s k = sgn want k * yv n m c s k := by
  unfold side red yv; grind
variable {s : Tab} {c : Nat → Rat}
theorem side_col (I : Inv n m (mat n m col want) s) {j : Nat} (hj : j < m) : S n (fun k => col j k * side n m want c s k) = c j - red n c s j := by
  have e : S n (fun k => col j k * side n m want c s k) = S n (fun k => yv n m c s k * mat n m col want k j) := S_congr fun k _ => by
    rw [side_y, mat_col hj]; grind
  rw [e, ← I.used_y (by omega)]
  unfold red; grind
theorem side_want (I : Inv n m (mat n m col want) s) : S n (fun k => want k * side n m want c s k) = used n c s (m + n) := by
  have e : S n (fun k => want k * side n m want c s k) = S n (fun k => yv n m c s k * mat n m col want k (m + n)) := S_congr fun k _ => by
    rw [side_y, mat_rhs]; grind
  rw [e, ← I.used_y (Nat.le_refl _)]
/-- the weights of the columns -/
def wt (n m : Nat) (s : Tab) (j : Nat) : Rat := S n (fun i => if s.b i = j then s.T i (m + n) else 0)
theorem wt_basic (I : Inv n m (mat n m col want) s) {i : Nat} (hi : i < n) : wt n m s (s.b i) = s.T i (m + n) := by
  unfold wt
  rw [S_one hi]
  · exact if_pos rfl
  · intro k hk hne
    exact if_neg fun q => hne (I.inj hk hi q)
theorem wt_free {j : Nat} (h : ¬ Basic n s j) : wt n m s j = 0 := S_zero fun i hi => if_neg fun q => h ⟨i, hi, q⟩
theorem wt_nonneg (F : Feas n m s) (j : Nat) : 0 ≤ wt n m s j := S_nonneg fun i hi => by
  split
  · exact F i hi
  · grind
/-- behind the first climb: own columns in the basis have weight 0 -/
def Arts0 (n m : Nat) (s : Tab) : Prop := ∀ i, i < n → m ≤ s.b i → s.T i (m + n) = 0
theorem S_split (n m : Nat) (f : Nat → Rat) : S (m + n) f = S m f + S n (fun k => f (m + k)) := by
  induction n with
  | zero => simp only [S, Nat.add_zero]; grind
  | succ n ih =>
    show S (m + n) f + f (m + n) = S m f + (S n (fun k => f (m + k)) + f (m + n))
    rw [ih]; grind
theorem sum_basic (I : Inv n m (mat n m col want) s) (x : Nat → Rat) (f : Nat → Rat) : S (m + n) (fun j => f j * S n (fun i => if s.b i = j then x i else 0)) = S n (fun i => f (s.b i) * x i) := by
  have e : S (m + n) (fun j => f j * S n (fun i => if s.b i = j then x i else 0)) = S n (fun i => S (m + n) (fun j => f j * (if s.b i = j then x i else 0))) := by
    rw [← S_comm]
    exact S_congr fun j _ => (S_mul n (f j) _).symm
  rw [e]
  exact S_congr fun i hi => S_pick (I.bl i hi) f _
theorem wt_sum (I : Inv n m (mat n m col want) s) (z : Arts0 n m s) (f : Nat → Rat) : S m (fun j => f j * wt n m s j) = S n (fun i => f (s.b i) * s.T i (m + n)) := by
  have e := sum_basic I (fun i => s.T i (m + n)) f
  rw [S_split] at e
  have z2 : S n (fun k => f (m + k) * S n (fun i => if s.b i = m + k then s.T i (m + n) else 0)) = 0 := S_zero fun k _ => by
    have : S n (fun i => if s.b i = m + k then s.T i (m + n) else 0) = 0 := S_zero fun i hi => by
      split
      · exact z i hi (by omega)
      · rfl
    rw [this]; grind
  rw [z2] at e
  rw [← e]
  show S m (fun j => f j * S n (fun i => if s.b i = j then s.T i (m + n) else 0)) = _
  grind
/-- they come to what is wanted -/
theorem wt_want (I : Inv n m (mat n m col want) s) (z : Arts0 n m s) {k : Nat} (hk : k < n) : S m (fun j => wt n m s j * col j k) = want k := by
  have e : S m (fun j => wt n m s j * col j k) = S m (fun j => (sgn want k * mat n m col want k j) * wt n m s j) := S_congr fun j hj => by
    rw [mat_col hj]
    have := sgn_sq want k; grind
  rw [e, wt_sum I z (fun j => sgn want k * mat n m col want k j)]
  have e2 : S n (fun i => sgn want k * mat n m col want k (s.b i) * s.T i (m + n)) = sgn want k * S n (fun i => mat n m col want k (s.b i) * s.T i (m + n)) := by
    rw [← S_mul]; exact S_congr fun i _ => by grind
  rw [e2, ← I.cols k (m + n) hk (Nat.le_refl _), mat_rhs]
  have := sgn_sq want k; grind
theorem wt_worth (I : Inv n m (mat n m col want) s) (z : Arts0 n m s) : S m (fun j => c j * wt n m s j) = used n c s (m + n) := wt_sum I z c

/-! ### the first climb -/
/-- worths of the first climb -/
def w1 (m : Nat) (j : Nat) : Rat := if j < m then 0 else -1
theorem used1 (n m : Nat) (s : Tab) (j : Nat) : used n (w1 m) s j = S n (fun i => if m ≤ s.b i then - s.T i j else 0) := by
  refine S_congr fun i _ => ?_
  unfold w1
  by_cases h : s.b i < m
  · rw [if_pos h, if_neg (by omega)]; grind
  · rw [if_neg h, if_pos (by omega)]; grind
theorem val1_nonpos (F : Feas n m s) : used n (w1 m) s (m + n) ≤ 0 := by
  rw [used1]
  refine S_nonpos fun i hi => ?_
  split
  · have := F i hi; grind
  · grind
/-- it has an end -/
theorem climb1_leave {e : Nat} (En : Enter n m (w1 m) s e) : ∃ i, i < n ∧ 0 < s.T i e := by
  refine Classical.byContradiction fun hno => ?_
  have p := En.pos
  unfold red at p
  rw [used1] at p
  have h0 : w1 m e = 0 := if_pos En.lt
  have : 0 ≤ S n (fun i => if m ≤ s.b i then - s.T i e else 0) := S_nonneg fun i hi => by
    split
    · have : ¬ 0 < s.T i e := fun z => hno ⟨i, hi, z⟩
      grind
    · grind
  rw [h0] at p
  grind
theorem arts0_of (F : Feas n m s) (h : ¬ used n (w1 m) s (m + n) < 0) : Arts0 n m s := by
  have h2 : S n (fun i => if m ≤ s.b i then s.T i (m + n) else 0) = 0 := by
    have e : used n (w1 m) s (m + n) = - S n (fun i => if m ≤ s.b i then s.T i (m + n) else 0) := by
      rw [used1]
      have : - S n (fun i => if m ≤ s.b i then s.T i (m + n) else 0) = (-1) * S n (fun i => if m ≤ s.b i then s.T i (m + n) else 0) := by grind
      rw [this, ← S_mul]
      refine S_congr fun i _ => ?_
      split <;> grind
    have := val1_nonpos F
    grind
  intro i hi hm
  have := S_all_zero (fun i hi => by
    show 0 ≤ (if m ≤ s.b i then s.T i (m + n) else 0)
    split
    · exact F i hi
    · grind) h2 i hi
  rw [if_pos hm] at this
  exact this
/-- the rows of own columns in the basis are empty -/
def Empty (n m : Nat) (s : Tab) (i : Nat) : Prop := m ≤ s.b i → ∀ j, j < m → s.T i j = 0
/-- a row is left for a column that is not 0 there, the row's right side being 0: nothing else changes at the right -/
theorem drive_rhs {r e : Nat} (hr : s.T r (m + n) = 0) {i : Nat} : (piv s r e).T i (m + n) = s.T i (m + n) := by
  by_cases h : i = r
  · subst h; rw [piv_T_r, hr]; grind
  · rw [piv_T_ne s e _ h, hr]; grind
theorem drive_empty {r e i : Nat} (he : e < m) (hi : i ≠ r) (h : Empty n m s i) : Empty n m (piv s r e) i := fun hm j hj => by
  rw [piv_b_ne s e hi] at hm
  rw [piv_T_ne s e _ hi, h hm j hj, h hm e he]; grind
theorem drive_empty_r {r e : Nat} (he : e < m) : Empty n m (piv s r e) r := fun hm => by
  rw [piv_b_r] at hm; omega
/-- in the second climb rows of own columns stay as they are -/
theorem leave_empty {r e : Nat} (he : e < m) (h : ∀ i, i < n → Empty n m s i) (hr : r < n) (hp : s.T r e ≠ 0) : ∀ i, i < n → Empty n m (piv s r e) i := fun i hi => by
  by_cases q : i = r
  · subst q; exact drive_empty_r he
  · exact drive_empty he q (h i hi)
theorem leave_arts {r e : Nat} (he : e < m) (h : ∀ i, i < n → Empty n m s i) (z : Arts0 n m s) : Arts0 n m (piv s r e) := fun i hi hm => by
  by_cases q : i = r
  · subst q; rw [piv_b_r] at hm; omega
  · rw [piv_b_ne s e q] at hm
    rw [piv_T_ne s e _ q, h i hi hm e he, z i hi hm]; grind

/-! ### without an end -/
/-- what grows with column e -/
def wayv (n m : Nat) (s : Tab) (e j : Nat) : Rat := dir n s e j
theorem way_nonneg {e j : Nat} (hT : ∀ i, i < n → s.T i e ≤ 0) : 0 ≤ dir n s e j := by
  unfold dir
  have : S n (fun i => if s.b i = j then s.T i e else 0) ≤ 0 := S_nonpos fun i hi => by
    split
    · exact hT i hi
    · grind
  split <;> grind
theorem way_sum (I : Inv n m (mat n m col want) s) {e : Nat} (he : e < m) (h : ∀ i, i < n → Empty n m s i) (f : Nat → Rat) : S m (fun j => f j * dir n s e j) = f e - S n (fun i => f (s.b i) * s.T i e) := by
  have q := I.dir_sum (e := e) (by omega) f
  rw [S_split] at q
  have z : S n (fun k => f (m + k) * dir n s e (m + k)) = 0 := S_zero fun k _ => by
    have : dir n s e (m + k) = 0 := by
      unfold dir
      rw [if_neg (by omega), S_zero]
      · grind
      · intro i hi
        split
        · exact h i hi (by omega) e he
        · rfl
    rw [this]; grind
  rw [z] at q
  rw [← q]; grind
theorem way_null (I : Inv n m (mat n m col want) s) {e : Nat} (he : e < m) (h : ∀ i, i < n → Empty n m s i) {k : Nat} (hk : k < n) : S m (fun j => dir n s e j * col j k) = 0 := by
  have e1 : S m (fun j => dir n s e j * col j k) = S m (fun j => (sgn want k * mat n m col want k j) * dir n s e j) := S_congr fun j hj => by
    rw [mat_col hj]
    have := sgn_sq want k; grind
  rw [e1, way_sum I he h (fun j => sgn want k * mat n m col want k j)]
  have e2 : S n (fun i => sgn want k * mat n m col want k (s.b i) * s.T i e) = sgn want k * S n (fun i => mat n m col want k (s.b i) * s.T i e) := by
    rw [← S_mul]; exact S_congr fun i _ => by grind
  rw [e2, ← I.cols k e hk (by omega)]; grind
theorem way_worth (I : Inv n m (mat n m col want) s) {e : Nat} (he : e < m) (h : ∀ i, i < n → Empty n m s i) : S m (fun j => c j * dir n s e j) = red n c s e := way_sum I he h c
end
end LP


/-! All that the table reckons is a part, where the system is small. -/
namespace LP
set_option linter.all false
set_option exponentiation.threshold 3000
/-- the system's whole numbers -/
structure Bnds (n m : Nat) (col : Nat → Nat → Rat) (want : Nat → Rat) : Prop where
  n9 : n ≤ 9
  col : ∀ j k, j < m → k < n → IsI (col j k) ∧ Bd 10 (col j k)
  want : ∀ k, k < n → IsI (want k) ∧ Bd 10 (want k)
/-- worths over one small denominator -/
structure CB (N : Nat) (c : Nat → Rat) (E : Rat) : Prop where
  int : IsI E
  ne : E ≠ 0
  bd : Bd (10 ^ 3) E
  ent : ∀ j, j < N → Hd E (10 ^ 4) (c j)
/-- numbers over one denominator, not great -/
def Sm (N : Nat) (f : Nat → Rat) : Prop := ∃ D, IsI D ∧ D ≠ 0 ∧ Bd (10 ^ 20) D ∧ ∀ i, i < N → Hd D (10 ^ 25) (f i)
theorem lim_rat : ((lim : Nat) : Rat) = 10 ^ 60 := by decide +kernel
theorem fac9 : ∀ n, n ≤ 9 → fac 10 n ≤ 10 ^ 15 := by
  intro n h
  match n, h with
  | 0, _ => decide +kernel
  | 1, _ => decide +kernel
  | 2, _ => decide +kernel
  | 3, _ => decide +kernel
  | 4, _ => decide +kernel
  | 5, _ => decide +kernel
  | 6, _ => decide +kernel
  | 7, _ => decide +kernel
  | 8, _ => decide +kernel
  | 9, _ => decide +kernel
  | n + 10, h => omega
theorem fitH {D K B q : Rat} (hD : IsI D) (h0 : D ≠ 0) (hb : Bd B D) (hB : B ≤ 10 ^ 60) (hK : K ≤ 10 ^ 60) (h : Hd D K q) : Fit q :=
  Hd.fit hD h0 (by rw [lim_rat]; exact bd_mono hB hb) (by rw [lim_rat]; exact hK) h
theorem natR9 {n : Nat} (h : n ≤ 9) {B : Rat} (hB : 0 ≤ B) : (n : Rat) * B ≤ 9 * B := by
  have : (n : Rat) ≤ ((9 : Nat) : Rat) := Rat.natCast_le_natCast.mpr h
  have := Rat.mul_le_mul_of_nonneg_right this hB
  simpa using this
theorem natRk {n N : Nat} (h : n ≤ N) {B : Rat} (hB : 0 ≤ B) : (n : Rat) * B ≤ (N : Rat) * B :=
  Rat.mul_le_mul_of_nonneg_right (Rat.natCast_le_natCast.mpr h) hB
/-- products and their sums -/
theorem Sm.fits {n : Nat} {f g : Nat → Rat} (hn : n ≤ 1000) (hf : Sm n f) (hg : Sm n g) : (∀ i, i < n → Fit (f i * g i)) ∧ ∀ k, k ≤ n → Fit (S k fun i => f i * g i) := by
  obtain ⟨D, d1, d2, d3, d4⟩ := hf
  obtain ⟨E, e1, e2, e3, e4⟩ := hg
  have h : ∀ i, i < n → Hd (D * E) (10 ^ 25 * 10 ^ 25) (f i * g i) := fun i hi => (d4 i hi).mul (e4 i hi)
  have ne : D * E ≠ 0 := by grind
  refine ⟨fun i hi => fitH (d1.mul e1) ne (bd_mul d3 e3) (by decide +kernel) (by decide +kernel) (h i hi), fun k hk => ?_⟩
  refine fitH (d1.mul e1) ne (bd_mul d3 e3) (by decide +kernel) ?_ (Hd.sum (n := k) fun i hi => h i (by omega))
  exact Rat.le_trans (natRk (N := 1000) (by omega) (by decide +kernel)) (by decide +kernel)
theorem Sm.int {n : Nat} {f : Nat → Rat} (h : ∀ i, i < n → IsI (f i) ∧ Bd (10 ^ 20) (f i)) : Sm n f := ⟨1, isI_one, by decide, by constructor <;> decide +kernel, fun i hi => by
  obtain ⟨⟨z, hz⟩, hb⟩ := h i hi
  rw [hz] at hb ⊢
  exact (hd_int hb).mono (by decide +kernel)⟩
theorem Sm.mono {n N : Nat} {f : Nat → Rat} (h : Sm N f) (hn : n ≤ N) : Sm n f := let ⟨D, a, b, c, d⟩ := h; ⟨D, a, b, c, fun i hi => d i (Nat.lt_of_lt_of_le hi hn)⟩
theorem Sm.congr {n : Nat} {f g : Nat → Rat} (h : Sm n f) (e : ∀ i, i < n → f i = g i) : Sm n g := let ⟨D, a, b, c, d⟩ := h; ⟨D, a, b, c, fun i hi => e i hi ▸ d i hi⟩
theorem CB.sm {N : Nat} {c : Nat → Rat} {E : Rat} (h : CB N c E) : Sm N c := ⟨E, h.int, h.ne, bd_mono (by decide +kernel) h.bd, fun i hi => (h.ent i hi).mono (by decide +kernel)⟩

section
variable {n m : Nat} {col : Nat → Nat → Rat} {want : Nat → Rat} {s : Tab} {c : Nat → Rat} {E : Rat}
/-- the table's entries over a denominator -/
structure DenS (n m : Nat) (s : Tab) (D : Rat) : Prop where
  int : IsI D
  ne : D ≠ 0
  bd : Bd (10 ^ 15) D
  ent : ∀ i j, i < n → j ≤ m + n → Hd D (10 ^ 15) (s.T i j)
theorem Bnds.den (b : Bnds n m col want) (I : Inv n m (mat n m col want) s) (h0 : det n (bas (mat n m col want) s) ≠ 0) : DenS n m s (det n (bas (mat n m col want) s)) := by
  have d := I.den (mat_bd (W := 10) (by decide) b.col b.want) h0
  exact ⟨d.int, d.ne, bd_mono (fac9 n b.n9) d.bd, fun i j hi hj => (d.ent i j hi hj).mono (fac9 n b.n9)⟩
variable {D : Rat} (d : DenS n m s D)
include d
theorem DenS.one : Hd D (10 ^ 15) 1 := by
  unfold Hd
  rw [Rat.mul_one]
  exact ⟨d.int, d.bd⟩
theorem DenS.den {i j : Nat} (hi : i < n) (hj : j ≤ m + n) (h : s.T i j ≠ 0) : IsI (D * s.T i j) ∧ D * s.T i j ≠ 0 ∧ Bd (10 ^ 15) (D * s.T i j) := by
  refine ⟨(d.ent i j hi hj).1, ?_, (d.ent i j hi hj).2⟩
  have := d.ne
  grind
theorem DenS.ratio {r e i j : Nat} (hr : r < n) (he : e ≤ m + n) (h : s.T r e ≠ 0) (hi : i < n) (hj : j ≤ m + n) : Hd (D * s.T r e) (10 ^ 15) (s.T i j / s.T r e) := by
  have e1 : D * s.T r e * (s.T i j / s.T r e) = D * s.T i j := by grind
  unfold Hd
  rw [e1]
  exact d.ent i j hi hj
theorem DenS.fit_ratio {r e i j : Nat} (hr : r < n) (he : e ≤ m + n) (h : s.T r e ≠ 0) (hi : i < n) (hj : j ≤ m + n) : Fit (s.T i j / s.T r e) :=
  let ⟨a, b, c⟩ := d.den hr he h
  fitH a b c (by decide +kernel) (by decide +kernel) (d.ratio hr he h hi hj)
theorem DenS.fit_piv {r e i j : Nat} (hr : r < n) (he : e ≤ m + n) (h : s.T r e ≠ 0) (hi : i < n) (hj : j ≤ m + n) : Fit (s.T i e * (s.T r j / s.T r e)) ∧ Fit (s.T i j - s.T i e * (s.T r j / s.T r e)) := by
  obtain ⟨a, b, c⟩ := d.den hr he h
  have h1 := (d.ent i e hi he).mul (d.ratio hr he h hr hj)
  have h2 := (d.ent i j hi hj).scale' a c
  have ne : D * (D * s.T r e) ≠ 0 := by have := d.ne; grind
  exact ⟨fitH (d.int.mul a) ne (bd_mul d.bd c) (by decide +kernel) (by decide +kernel) h1, fitH (d.int.mul a) ne (bd_mul d.bd c) (by decide +kernel) (by decide +kernel) (h2.sub h1)⟩
theorem DenS.fit_neg {i e : Nat} (hi : i < n) (he : e ≤ m + n) : Fit (0 - s.T i e) := by
  have e1 : 0 - s.T i e = - s.T i e := by grind
  rw [e1]
  exact fitH d.int d.ne d.bd (by decide +kernel) (by decide +kernel) (d.ent i e hi he).neg
variable (cb : CB (m + n) c E)
include cb
theorem DenS.prod (I : ∀ i, i < n → s.b i < m + n) {i j : Nat} (hi : i < n) (hj : j ≤ m + n) : Hd (E * D) (10 ^ 19) (c (s.b i) * s.T i j) :=
  ((cb.ent _ (I i hi)).mul (d.ent i j hi hj)).mono (by decide +kernel)
theorem DenS.used (hn : n ≤ 9) (I : ∀ i, i < n → s.b i < m + n) {k j : Nat} (hk : k ≤ n) (hj : j ≤ m + n) : Hd (E * D) (10 ^ 20) (S k fun i => c (s.b i) * s.T i j) := by
  refine (Hd.sum (n := k) fun i hi => d.prod cb I (by omega) hj).mono ?_
  exact Rat.le_trans (natR9 (by omega) (by decide +kernel)) (by decide +kernel)
theorem DenS.ed : IsI (E * D) ∧ E * D ≠ 0 ∧ Bd (10 ^ 18) (E * D) := by
  refine ⟨cb.int.mul d.int, ?_, bd_mono (by decide +kernel) (bd_mul cb.bd d.bd)⟩
  have := d.ne
  have := cb.ne
  grind
theorem DenS.cc (j : Nat) (hj : j < m + n) : Hd (E * D) (10 ^ 19) (c j) := ((cb.ent j hj).scale' d.int d.bd).mono (by decide +kernel)
theorem DenS.red (hn : n ≤ 9) (I : ∀ i, i < n → s.b i < m + n) {j : Nat} (hj : j < m + n) : Hd (E * D) (10 ^ 21) (red n c s j) :=
  ((d.cc cb j hj).sub (d.used cb hn I (Nat.le_refl n) (Nat.le_of_lt hj))).mono (by decide +kernel)
theorem DenS.fit_used (hn : n ≤ 9) (I : ∀ i, i < n → s.b i < m + n) {j : Nat} (hj : j ≤ m + n) : (∀ i, i < n → Fit (c (s.b i) * s.T i j)) ∧ ∀ k, k ≤ n → Fit (S k fun i => c (s.b i) * s.T i j) := by
  obtain ⟨a, b, e⟩ := d.ed cb
  exact ⟨fun i hi => fitH a b e (by decide +kernel) (by decide +kernel) (d.prod cb I hi hj), fun k hk => fitH a b e (by decide +kernel) (by decide +kernel) (d.used cb hn I hk hj)⟩
theorem DenS.fit_red (hn : n ≤ 9) (I : ∀ i, i < n → s.b i < m + n) {j : Nat} (hj : j < m + n) : Fit (LP.red n c s j) := by
  obtain ⟨a, b, e⟩ := d.ed cb
  exact fitH a b e (by decide +kernel) (by decide +kernel) (d.red cb hn I hj)
theorem DenS.side (want : Nat → Rat) (hn : n ≤ 9) (I : ∀ i, i < n → s.b i < m + n) {k : Nat} (hk : k < n) : Hd (E * D) (10 ^ 22) (c (m + k) - LP.red n c s (m + k)) ∧ Hd (E * D) (10 ^ 22) (LP.side n m want c s k) := by
  have h := ((d.cc cb (m + k) (by omega)).sub (d.red cb hn I (j := m + k) (by omega))).mono (L := 10 ^ 22) (by decide +kernel)
  refine ⟨h, ?_⟩
  unfold LP.side sgn
  split
  · rw [show (-1 : Rat) * (c (m + k) - LP.red n c s (m + k)) = - (c (m + k) - LP.red n c s (m + k)) by grind]
    exact h.neg
  · rw [Rat.one_mul]; exact h
theorem DenS.fit_side (want : Nat → Rat) (hn : n ≤ 9) (I : ∀ i, i < n → s.b i < m + n) {k : Nat} (hk : k < n) : Fit (c (m + k) - LP.red n c s (m + k)) ∧ Fit (LP.side n m want c s k) := by
  obtain ⟨a, b, e⟩ := d.ed cb
  exact ⟨fitH a b e (by decide +kernel) (by decide +kernel) (d.side cb want hn I hk).1, fitH a b e (by decide +kernel) (by decide +kernel) (d.side cb want hn I hk).2⟩
theorem DenS.sm_side (want : Nat → Rat) (hn : n ≤ 9) (I : ∀ i, i < n → s.b i < m + n) : Sm n (LP.side n m want c s) := by
  obtain ⟨a, b, e⟩ := d.ed cb
  exact ⟨E * D, a, b, bd_mono (by decide +kernel) e, fun k hk => (d.side cb want hn I hk).2.mono (by decide +kernel)⟩
omit cb
theorem DenS.sm_wt (inj : ∀ i k, i < n → k < n → s.b i = s.b k → i = k) : Sm m (LP.wt n m s) := by
  refine ⟨D, d.int, d.ne, bd_mono (by decide +kernel) d.bd, fun j _ => ?_⟩
  have h : LP.wt n m s j = 0 ∨ ∃ i, i < n ∧ LP.wt n m s j = s.T i (m + n) := by
    by_cases h : ∃ i, i < n ∧ s.b i = j
    · obtain ⟨i, hi, e⟩ := h
      refine .inr ⟨i, hi, ?_⟩
      unfold LP.wt
      rw [S_one hi]
      · exact if_pos e
      · exact fun k hk hne => if_neg fun z => hne (inj k i hk hi (z.trans e.symm))
    · exact .inl (S_zero fun i hi => if_neg fun z => h ⟨i, hi, z⟩)
  rcases h with h | ⟨i, hi, h⟩
  · rw [h]; exact Hd.zero (by decide +kernel)
  · rw [h]; exact (d.ent i _ hi (Nat.le_refl _)).mono (by decide +kernel)
theorem DenS.sm_dir {e : Nat} (he : e ≤ m + n) (inj : ∀ i k, i < n → k < n → s.b i = s.b k → i = k) : Sm m (LP.dir n s e) := by
  refine ⟨D, d.int, d.ne, bd_mono (by decide +kernel) d.bd, fun j _ => ?_⟩
  have h1 : Hd D (10 ^ 15) (if j = e then (1 : Rat) else 0) := by
    split
    · exact d.one
    · exact Hd.zero (by decide +kernel)
  have h2 : Hd D (10 ^ 15) (S n (fun i => if s.b i = j then s.T i e else 0)) := by
    by_cases h : ∃ i, i < n ∧ s.b i = j
    · obtain ⟨i, hi, q⟩ := h
      rw [S_one hi]
      · rw [if_pos q]; exact d.ent i _ hi he
      · exact fun k hk hne => if_neg fun z => hne (inj k i hk hi (z.trans q.symm))
    · rw [S_zero fun i hi => if_neg fun z => h ⟨i, hi, z⟩]
      exact Hd.zero (by decide +kernel)
  exact (h1.sub h2).mono (by decide +kernel)
end
theorem Bnds.fit0 {n m : Nat} {col : Nat → Nat → Rat} {want : Nat → Rat} (b : Bnds n m col want) : (∀ j k, j < m → k < n → Fit (sgn want k * col j k)) ∧ ∀ k, k < n → Fit (sgn want k * want k) := by
  have h : ∀ (q : Rat) k, IsI q ∧ Bd 10 q → Fit (sgn want k * q) := fun q k ⟨⟨z, hz⟩, hb⟩ => by
    have h1 : Hd 1 10 q := by rw [hz] at hb ⊢; exact hd_int hb
    have h2 : Hd 1 10 (sgn want k * q) := by
      unfold sgn; split
      · rw [show (-1 : Rat) * q = -q by grind]; exact h1.neg
      · rw [Rat.one_mul]; exact h1
    exact fitH (B := 1) isI_one (by decide) (by constructor <;> decide) (by decide +kernel) (by decide +kernel) h2
  exact ⟨fun j k hj hk => h _ k (b.col j k hj hk), fun k hk => h _ k (b.want k hk)⟩
theorem cb_w1 (n m : Nat) : CB (m + n) (w1 m) 1 := ⟨isI_one, by decide, by constructor <;> decide +kernel, fun j _ => by
  unfold w1
  split
  · exact Hd.zero (by decide +kernel)
  · have : Hd 1 (10 ^ 4) (((-1 : Int)) : Rat) := hd_int (by constructor <;> decide +kernel)
    exact this⟩
/-- worths of the second climb -/
def w2 (m : Nat) (c : Nat → Rat) (j : Nat) : Rat := if j < m then c j else 0
theorem cb_w2 {n m : Nat} {c : Nat → Rat} {E : Rat} (h : CB m c E) : CB (m + n) (w2 m c) E := ⟨h.int, h.ne, h.bd, fun j _ => by
  unfold w2
  split
  · exact h.ent j (by assumption)
  · exact Hd.zero (by decide +kernel)⟩
end LP


/-! Systems and their papers: what the three answers say. -/
namespace LP
set_option linter.all false
set_option exponentiation.threshold 3000
def Feasible (n m : Nat) (col : Nat → Nat → Rat) (c y : Nat → Rat) : Prop := ∀ j, j < m → c j ≤ S n fun k => col j k * y k
/-- the least worth is q -/
structure Opt (n m : Nat) (col : Nat → Nat → Rat) (want c : Nat → Rat) (q : Rat) : Prop where
  ex : ∃ y, Feasible n m col c y
  low : ∀ y, Feasible n m col c y → q ≤ S n fun k => want k * y k
  high : ∀ x : Nat → Rat, (∀ j, j < m → 0 ≤ x j) → (∀ k, k < n → (S m fun j => x j * col j k) = want k) → (S m fun j => c j * x j) ≤ q
/-- there is no least one -/
structure Unb (n m : Nat) (col : Nat → Nat → Rat) (want c : Nat → Rat) : Prop where
  ex : ∃ y, Feasible n m col c y
  ray : ∃ z : Nat → Rat, (∀ j, j < m → 0 ≤ S n fun k => col j k * z k) ∧ (S n fun k => want k * z k) < 0
section
variable {n m : Nat} {col : Nat → Nat → Rat} {want c x y z d : Nat → Rat} {q : Rat}
/-- weights through the rows -/
theorem swap_sum : (S m fun j => x j * S n fun k => col j k * y k) = S n fun k => (S m fun j => x j * col j k) * y k := by
  have e1 : (S m fun j => x j * S n fun k => col j k * y k) = S m fun j => S n fun k => x j * col j k * y k := S_congr fun j _ => by
    rw [← S_mul]; exact S_congr fun k _ => by grind
  rw [e1, S_comm]
  exact S_congr fun k _ => S_mulr _ _ _
theorem through (hx : ∀ k, k < n → (S m fun j => x j * col j k) = want k) : (S m fun j => x j * S n fun k => col j k * y k) = S n fun k => want k * y k := by
  rw [swap_sum]
  exact S_congr fun k hk => by show _ * y k = _; rw [hx k hk]
theorem S_le' {n : Nat} {f g : Nat → Rat} (h : ∀ i, i < n → f i ≤ g i) : S n f ≤ S n g := S_le h
theorem weak (hf : Feasible n m col c y) (x0 : ∀ j, j < m → 0 ≤ x j) (hx : ∀ k, k < n → (S m fun j => x j * col j k) = want k) : (S m fun j => c j * x j) ≤ S n fun k => want k * y k := by
  rw [← through hx]
  refine S_le fun j hj => ?_
  have := Rat.mul_le_mul_of_nonneg_left (hf j hj) (x0 j hj)
  rw [Rat.mul_comm (c j) (x j)]
  exact this
theorem not_none (hf : Feasible n m col c y) (d0 : ∀ j, j < m → 0 ≤ d j) (dw : ∀ k, k < n → (S m fun j => d j * col j k) = 0) (dc : 0 < S m fun j => c j * d j) : False := by
  have h := weak (want := fun _ => 0) hf d0 dw
  have e : (S n fun k => (0 : Rat) * y k) = 0 := S_zero fun k _ => Rat.zero_mul _
  rw [e] at h
  exact absurd dc (Rat.not_lt.mpr h)
theorem S_addm (n : Nat) (f g : Nat → Rat) (t : Rat) : S n (fun i => f i + t * g i) = S n f + t * S n g := by
  rw [S_add, S_mul]
theorem Opt.not_endless (o : Opt n m col want c q) (hf : Feasible n m col c y) (zc : ∀ j, j < m → 0 ≤ S n fun k => col j k * z k) (zw : (S n fun k => want k * z k) < 0) : False := by
  generalize hW : (S n fun k => want k * z k) = W at zw
  generalize hY : (S n fun k => want k * y k) = Y
  -- far enough along the way
  have hq : q ≤ Y := by rw [← hY]; exact o.low y hf
  have t0 : 0 ≤ (Y - q + 1) / (-W) := by
    rw [Rat.div_def]
    refine Rat.mul_nonneg (by grind) (Rat.le_of_lt (Rat.inv_pos.mpr (by grind)))
  generalize ht : (Y - q + 1) / (-W) = t at t0
  have hf2 : Feasible n m col c (fun k => y k + t * z k) := fun j hj => by
    have e : (S n fun k => col j k * (y k + t * z k)) = (S n fun k => col j k * y k) + t * S n fun k => col j k * z k := by
      rw [← S_addm]; exact S_congr fun k _ => by grind
    rw [e]
    have h1 := hf j hj
    have h2 := Rat.mul_nonneg t0 (zc j hj)
    grind
  have h := o.low _ hf2
  have e : (S n fun k => want k * (y k + t * z k)) = Y + t * W := by
    rw [← hY, ← hW, ← S_addm]; exact S_congr fun k _ => by grind
  rw [e] at h
  have e2 : t * W = -(Y - q + 1) := by
    rw [← ht]
    have : W ≠ 0 := by grind
    grind
  grind
theorem Unb.not_least (u : Unb n m col want c) (x0 : ∀ j, j < m → 0 ≤ x j) (hx : ∀ k, k < n → (S m fun j => x j * col j k) = want k) : False := by
  obtain ⟨z, zc, zw⟩ := u.ray
  have h := weak (c := fun _ => 0) (y := z) (fun j hj => zc j hj) x0 hx
  have e : (S m fun j => (0 : Rat) * x j) = 0 := S_zero fun k _ => Rat.zero_mul _
  rw [e] at h
  exact absurd zw (Rat.not_lt.mpr h)
theorem Opt.eq {q' : Rat} (o : Opt n m col want c q) (x0 : ∀ j, j < m → 0 ≤ x j) (hx : ∀ k, k < n → (S m fun j => x j * col j k) = want k) (yc : Feasible n m col c y) (qx : (S m fun j => c j * x j) = q') (qy : (S n fun k => want k * y k) = q') : q' = q := by
  have h1 := o.low y yc
  have h2 := o.high x x0 hx
  rw [qy] at h1
  rw [qx] at h2
  exact Rat.le_antisymm h2 h1
/-- one more row: less than the least -/
def colM (m : Nat) (col : Nat → Nat → Rat) (want : Nat → Rat) (j k : Nat) : Rat := if j < m then col j k else 0 - want k
def cM (m : Nat) (c : Nat → Rat) (q : Rat) (j : Nat) : Rat := if j < m then c j else 1 / 5 - q
theorem Opt.more (o : Opt n m col want c q) (h : Feasible n (m + 1) (colM m col want) (cM m c q) y) : False := by
  have hf : Feasible n m col c y := fun j hj => by
    have := h j (by omega)
    unfold colM cM at this
    rw [if_pos hj] at this
    rwa [show (S n fun k => (if j < m then col j k else 0 - want k) * y k) = S n fun k => col j k * y k from S_congr fun k _ => by rw [if_pos hj]] at this
  have h1 := o.low y hf
  have h2 := h m (by omega)
  unfold colM cM at h2
  rw [if_neg (Nat.lt_irrefl _)] at h2
  rw [show (S n fun k => (if m < m then col m k else 0 - want k) * y k) = (-1) * S n fun k => want k * y k from by
    rw [← S_mul]
    exact S_congr fun k _ => by rw [if_neg (Nat.lt_irrefl _)]; grind] at h2
  grind
theorem colM_bnds (b : Bnds n m col want) : Bnds n (m + 1) (colM m col want) want := ⟨b.n9, fun j k _ hk => by
  unfold colM
  split
  · exact b.col j k (by assumption) hk
  · rw [show (0 : Rat) - want k = - want k by grind]
    exact ⟨(b.want k hk).1.neg, bd_neg (b.want k hk).2⟩, b.want⟩
theorem cb_int {m : Nat} {c : Nat → Rat} (h : ∀ j, j < m → IsI (c j) ∧ Bd 10 (c j)) : CB m c 1 := ⟨isI_one, by decide, by constructor <;> decide +kernel, fun j hj => by
  obtain ⟨⟨z, hz⟩, hb⟩ := h j hj
  rw [hz] at hb ⊢
  exact (hd_int hb).mono (by decide +kernel)⟩
theorem den_pos_rat (q : Rat) : (0 : Rat) < (q.den : Rat) := by
  have := q.den_pos
  have : ((0 : Nat) : Rat) < (q.den : Rat) := Rat.natCast_lt_natCast.mpr this
  simpa using this
theorem den_mul (q : Rat) : (q.den : Rat) * q = (q.num : Rat) := by
  have h : q = Rat.divInt q.num q.den := (Rat.num_divInt_den q).symm
  rw [Rat.divInt_eq_div] at h
  have h0 : ((q.den : Int) : Rat) ≠ 0 := by
    intro z
    have := Rat.intCast_inj.mp (z.trans (Rat.intCast_zero).symm)
    have := q.den_nz
    omega
  have e : ((q.den : Int) : Rat) = (q.den : Rat) := Rat.intCast_natCast _
  rw [e] at h h0
  grind
theorem bd_int {z : Int} {B : Nat} (h : z.natAbs ≤ B) : Bd (B : Rat) (z : Rat) := by
  have h1 : z ≤ (B : Int) := by omega
  have h2 : -(B : Int) ≤ z := by omega
  have h1 := Rat.intCast_le_intCast.mpr h1
  have h2 := Rat.intCast_le_intCast.mpr h2
  rw [Rat.intCast_natCast] at h1
  rw [Rat.intCast_neg, Rat.intCast_natCast] at h2
  exact ⟨h2, h1⟩
/-- a small part over its own denominator -/
theorem hd_part {q : Rat} {B : Nat} (h : q.num.natAbs ≤ B) : Hd (q.den : Rat) (B : Rat) q := by
  unfold Hd
  rw [den_mul]
  exact ⟨isI_int _, bd_int h⟩
theorem isI_nat (k : Nat) : IsI (k : Rat) := ⟨(k : Int), by rw [Rat.intCast_natCast]⟩
theorem bd_nat {k B : Nat} (h : k ≤ B) : Bd (B : Rat) (k : Rat) := by
  have h1 : (k : Rat) ≤ (B : Rat) := Rat.natCast_le_natCast.mpr h
  have h2 : ((0 : Nat) : Rat) ≤ (k : Rat) := Rat.natCast_le_natCast.mpr (Nat.zero_le _)
  have h3 : ((0 : Nat) : Rat) ≤ (B : Rat) := Rat.natCast_le_natCast.mpr (Nat.zero_le _)
  have e0 : ((0 : Nat) : Rat) = 0 := rfl
  rw [e0] at h2 h3
  constructor <;> grind
theorem cM_cb (hc : ∀ j, j < m → IsI (c j) ∧ Bd 10 (c j)) (hd : q.den ≤ 100) (hn : q.num.natAbs ≤ 1000) : CB (m + 1) (cM m c q) (5 * (q.den : Rat)) := by
  have i5 : IsI (5 : Rat) := ⟨5, rfl⟩
  have b5 : Bd 5 (5 : Rat) := by constructor <;> decide
  have hp := den_pos_rat q
  have hI := isI_nat q.den
  have hB : Bd 100 (q.den : Rat) := bd_nat hd
  refine ⟨i5.mul hI, by grind, bd_mono (by decide +kernel) (bd_mul b5 hB), fun j hj => ?_⟩
  unfold cM
  split
  · obtain ⟨⟨z, hz⟩, hb⟩ := hc j (by assumption)
    have h1 : Hd 1 10 (c j) := by rw [hz] at hb ⊢; exact hd_int hb
    have h2 := h1.scale (i5.mul hI) (bd_mul b5 hB)
    rw [Rat.mul_one] at h2
    exact h2.mono (by decide +kernel)
  · have h1 : Hd 5 1 (1 / 5 : Rat) := ⟨⟨1, by grind⟩, by constructor <;> grind⟩
    have h2 := h1.scale' (D := 5) hI hB
    have h3 := (hd_part hn).scale (D := (q.den : Rat)) i5 b5
    have := h2.sub h3
    exact this.mono (by decide +kernel)
end
end LP


/-! Two sums: the least worth, by candidates between two columns. -/
namespace LP
set_option linter.all false
set_option maxHeartbeats 4000000
/-- q is the least worth: weights and places show it -/
structure IsVal (n m : Nat) (col : Nat → Nat → Rat) (want c : Nat → Rat) (q : Rat) : Prop where
  wt : ∃ x : Nat → Rat, (∀ j, j < m → 0 ≤ x j) ∧ (∀ k, k < n → (S m fun j => x j * col j k) = want k) ∧ (S m fun j => c j * x j) = q
  pl : ∃ y, Feasible n m col c y ∧ (S n fun k => want k * y k) = q
section
variable {n m : Nat} {col : Nat → Nat → Rat} {want c c' x y z d : Nat → Rat} {q q' : Rat}
theorem IsVal.uniq (h : IsVal n m col want c q) (h' : IsVal n m col want c q') : q = q' := by
  obtain ⟨x, x0, xw, xq⟩ := h.wt
  obtain ⟨x', x0', xw', xq'⟩ := h'.wt
  obtain ⟨y, yf, yq⟩ := h.pl
  obtain ⟨y', yf', yq'⟩ := h'.pl
  have a := weak yf' x0 xw
  have b := weak yf x0' xw'
  rw [xq, yq'] at a
  rw [xq', yq] at b
  exact Rat.le_antisymm a b
theorem IsVal.congr (h : IsVal n m col want c q) (e : ∀ j, j < m → c j = c' j) : IsVal n m col want c' q := by
  obtain ⟨x, x0, xw, xq⟩ := h.wt
  obtain ⟨y, yf, yq⟩ := h.pl
  exact ⟨⟨x, x0, xw, by rw [← xq]; exact S_congr fun j hj => by rw [e j hj]⟩, ⟨y, fun j hj => by rw [← e j hj]; exact yf j hj, yq⟩⟩
theorem not_down (x0 : ∀ j, j < m → 0 ≤ x j) (hx : ∀ k, k < n → (S m fun j => x j * col j k) = want k) (zc : ∀ j, j < m → 0 ≤ S n fun k => col j k * z k) (zw : (S n fun k => want k * z k) < 0) : False := by
  have h := weak (c := fun _ => 0) (y := z) zc x0 hx
  rw [S_zero fun j _ => Rat.zero_mul _] at h
  exact absurd zw (Rat.not_lt.mpr h)
end
theorem S2 (f : Nat → Rat) : S 2 f = f 0 + f 1 := by
  show (0 : Rat) + f 0 + f 1 = _
  rw [Rat.zero_add]
/-- told by the keep -/
structure Told (m : Nat) (col : Nat → Nat → Rat) (want : Nat → Rat) : Prop where
  kp : ∀ j, j < m → 0 < col j 0
  Kp : 0 < want 0
section
variable {m : Nat} {col : Nat → Nat → Rat} {want c : Nat → Rat} {q : Rat}
abbrev tt (col : Nat → Nat → Rat) (j : Nat) : Rat := col j 1 / col j 0
abbrev hh (col : Nat → Nat → Rat) (c : Nat → Rat) (j : Nat) : Rat := c j / col j 0
abbrev here (want : Nat → Rat) : Rat := want 1 / want 0
def mid (col : Nat → Nat → Rat) (want c : Nat → Rat) (i j : Nat) : Rat := hh col c i + (here want - tt col i) / (tt col j - tt col i) * (hh col c j - hh col c i)
/-- what the law finds -/
def CandT (m : Nat) (col : Nat → Nat → Rat) (want c : Nat → Rat) (u : Rat) : Prop := (∃ i, i < m ∧ tt col i = here want ∧ u = hh col c i) ∨ ∃ i j, i < m ∧ j < m ∧ tt col i < here want ∧ here want < tt col j ∧ u = mid col want c i j
theorem div_of {a b k : Rat} (hk : 0 < k) (h : a = b * k) : a / k = b := by
  rw [h, Rat.mul_div_cancel (by grind)]
theorem mul_tt (T : Told m col want) {j : Nat} (hj : j < m) : col j 0 * tt col j = col j 1 := by
  have := T.kp j hj
  show col j 0 * (col j 1 / col j 0) = _
  rw [Rat.mul_comm, Rat.div_mul_cancel (by grind)]
theorem mul_hh (T : Told m col want) {j : Nat} (hj : j < m) : col j 0 * hh col c j = c j := by
  have := T.kp j hj
  show col j 0 * (c j / col j 0) = _
  rw [Rat.mul_comm, Rat.div_mul_cancel (by grind)]
theorem mul_here (T : Told m col want) : want 0 * here want = want 1 := by
  have := T.Kp
  show want 0 * (want 1 / want 0) = _
  rw [Rat.mul_comm, Rat.div_mul_cancel (by grind)]
theorem lam {a b h : Rat} (h1 : a < h) (h2 : h < b) : 0 < (h - a) / (b - a) ∧ (h - a) / (b - a) < 1 ∧ (h - a) / (b - a) * (b - a) = h - a := by
  have p : 0 < b - a := by grind
  have e : (h - a) / (b - a) * (b - a) = h - a := Rat.div_mul_cancel (by grind)
  refine ⟨?_, ?_, e⟩
  · rw [Rat.div_def]; exact Rat.mul_pos (by grind) (Rat.inv_pos.mpr p)
  · refine Rat.not_le.mp fun z => ?_
    have := Rat.mul_le_mul_of_nonneg_right z (Rat.le_of_lt p)
    rw [e] at this
    grind
theorem cand_le (T : Told m col want) (v : IsVal 2 m col want c q) {u : Rat} (h : CandT m col want c u) : want 0 * u ≤ q := by
  obtain ⟨y, yf, yq⟩ := v.pl
  rw [S2] at yq
  have L : ∀ j, j < m → hh col c j ≤ y 0 + y 1 * tt col j := fun j hj => by
    have h1 := yf j hj
    rw [S2] at h1
    have k := T.kp j hj
    have e1 := mul_tt T hj
    have e2 := mul_hh (c := c) T hj
    rw [← e2, ← e1] at h1
    refine Rat.not_lt.mp fun z => ?_
    have := Rat.mul_lt_mul_of_pos_left z k
    grind
  have eh := mul_here T
  have fin : want 0 * (y 0 + y 1 * here want) = q := by rw [← yq]; grind
  have K := Rat.le_of_lt T.Kp
  rw [← fin]
  refine Rat.mul_le_mul_of_nonneg_left ?_ K
  rcases h with ⟨i, hi, e, rfl⟩ | ⟨i, j, hi, hj, h1, h2, rfl⟩
  · rw [← e]; exact L i hi
  · unfold mid
    obtain ⟨l0, l1, le⟩ := lam h1 h2
    generalize (here want - tt col i) / (tt col j - tt col i) = l at l0 l1 le
    have a := Rat.mul_le_mul_of_nonneg_left (L i hi) (show 0 ≤ 1 - l by grind)
    have b := Rat.mul_le_mul_of_nonneg_left (L j hj) (Rat.le_of_lt l0)
    have e : here want = tt col i + l * (tt col j - tt col i) := by grind
    rw [e]
    grind
/-- weights lie at here, or on both sides -/
theorem sides {x : Nat → Rat} (T : Told m col want) (x0 : ∀ j, j < m → 0 ≤ x j) (xw : ∀ k, k < 2 → (S m fun j => x j * col j k) = want k) : (∃ j, j < m ∧ 0 < x j ∧ tt col j = here want) ∨ ∃ i j, i < m ∧ j < m ∧ 0 < x i ∧ 0 < x j ∧ tt col i < here want ∧ here want < tt col j := by
  have eh := mul_here T
  have w0 := xw 0 (by omega)
  have w1 := xw 1 (by omega)
  have dev : (S m fun j => x j * col j 0 * (tt col j - here want)) = 0 := by
    have e : (S m fun j => x j * col j 0 * (tt col j - here want)) = (S m fun j => x j * col j 1) - here want * S m fun j => x j * col j 0 := by
      rw [← S_mul, ← S_sub]
      refine S_congr fun j hj => ?_
      have := mul_tt T hj
      rw [← this]; grind
    rw [e, w1, w0]; grind
  by_cases hc : ∃ j, j < m ∧ 0 < x j ∧ tt col j = here want
  · exact .inl hc
  · have hne : ∀ j, j < m → 0 < x j → tt col j ≠ here want := fun j hj px e => hc ⟨j, hj, px, e⟩
    -- one below
    have lo : ∃ i, i < m ∧ 0 < x i ∧ tt col i < here want := by
      refine Classical.byContradiction fun no => ?_
      have nn : ∀ j, j < m → 0 ≤ x j * col j 0 * (tt col j - here want) := fun j hj => by
        by_cases px : 0 < x j
        · have : ¬ tt col j < here want := fun z => no ⟨j, hj, px, z⟩
          exact Rat.mul_nonneg (Rat.mul_nonneg (x0 j hj) (Rat.le_of_lt (T.kp j hj))) (by grind)
        · have : x j = 0 := by have := x0 j hj; grind
          rw [this]; grind
      have z := S_all_zero nn dev
      have : ∀ j, j < m → x j = 0 := fun j hj => by
        by_cases px : 0 < x j
        · have h1 := z j hj
          have k := T.kp j hj
          have h2 := hne j hj px
          rcases Rat.mul_eq_zero.mp h1 with h | h
          · rcases Rat.mul_eq_zero.mp h with h | h <;> grind
          · grind
        · have := x0 j hj; grind
      rw [S_zero fun j hj => by rw [this j hj]; grind] at w0
      have := T.Kp
      grind
    have hi : ∃ i, i < m ∧ 0 < x i ∧ here want < tt col i := by
      refine Classical.byContradiction fun no => ?_
      have nn : ∀ j, j < m → 0 ≤ -(x j * col j 0 * (tt col j - here want)) := fun j hj => by
        by_cases px : 0 < x j
        · have : ¬ here want < tt col j := fun z => no ⟨j, hj, px, z⟩
          have := Rat.mul_nonneg (Rat.mul_nonneg (x0 j hj) (Rat.le_of_lt (T.kp j hj))) (show 0 ≤ here want - tt col j by grind)
          grind
        · have : x j = 0 := by have := x0 j hj; grind
          rw [this]; grind
      have dev2 : (S m fun j => -(x j * col j 0 * (tt col j - here want))) = 0 := by
        have e : (S m fun j => -(x j * col j 0 * (tt col j - here want))) = (-1) * S m fun j => x j * col j 0 * (tt col j - here want) := by
          rw [← S_mul]; exact S_congr fun j _ => by grind
        rw [e, dev]; grind
      have z := S_all_zero nn dev2
      have : ∀ j, j < m → x j = 0 := fun j hj => by
        by_cases px : 0 < x j
        · have h1 : x j * col j 0 * (tt col j - here want) = 0 := by have := z j hj; grind
          have k := T.kp j hj
          have h2 := hne j hj px
          rcases Rat.mul_eq_zero.mp h1 with h | h
          · rcases Rat.mul_eq_zero.mp h with h | h <;> grind
          · grind
        · have := x0 j hj; grind
      rw [S_zero fun j hj => by rw [this j hj]; grind] at w0
      have := T.Kp
      grind
    obtain ⟨i, hi1, pi, ti⟩ := lo
    obtain ⟨j, hj1, pj, tj⟩ := hi
    exact .inr ⟨i, j, hi1, hj1, pi, pj, ti, tj⟩
theorem cand_ex (T : Told m col want) (v : IsVal 2 m col want c q) : ∃ u, CandT m col want c u ∧ want 0 * u = q := by
  obtain ⟨y, yf, yq⟩ := v.pl
  obtain ⟨x, x0, xw, xq⟩ := v.wt
  have thr := through (y := y) xw
  rw [yq] at thr
  rw [S2] at yq
  -- slack is nought where the weight is not
  have sl : (S m fun j => x j * ((S 2 fun k => col j k * y k) - c j)) = 0 := by
    have e : (S m fun j => x j * ((S 2 fun k => col j k * y k) - c j)) = (S m fun j => x j * S 2 fun k => col j k * y k) - S m fun j => c j * x j := by
      rw [← S_sub]; exact S_congr fun j _ => by grind
    rw [e, thr, xq]; grind
  have sl0 := S_all_zero (fun j hj => Rat.mul_nonneg (x0 j hj) (show 0 ≤ (S 2 fun k => col j k * y k) - c j by have := yf j hj; grind)) sl
  have L : ∀ j, j < m → 0 < x j → hh col c j = y 0 + y 1 * tt col j := fun j hj px => by
    have h1 := sl0 j hj
    rw [S2] at h1
    have k := T.kp j hj
    have e1 := mul_tt T hj
    have h2 : col j 0 * y 0 + col j 1 * y 1 = c j := by
      have : col j 0 * y 0 + col j 1 * y 1 - c j = 0 := by
        rcases Rat.mul_eq_zero.mp h1 with h | h
        · grind
        · exact h
      grind
    refine div_of k ?_
    rw [← h2, ← e1]; grind
  have eh := mul_here T
  have fin : want 0 * (y 0 + y 1 * here want) = q := by rw [← yq]; grind
  rcases sides T x0 xw with ⟨j, hj, px, e⟩ | ⟨i, j, hi1, hj1, pi, pj, ti, tj⟩
  · refine ⟨hh col c j, .inl ⟨j, hj, e, rfl⟩, ?_⟩
    rw [L j hj px, e]; exact fin
  · refine ⟨mid col want c i j, .inr ⟨i, j, hi1, hj1, ti, tj, rfl⟩, ?_⟩
    rw [← fin]
    congr 1
    unfold mid
    rw [L i hi1 pi, L j hj1 pj]
    obtain ⟨l0, l1, le⟩ := lam ti tj
    generalize (here want - tt col i) / (tt col j - tt col i) = l at l0 l1 le
    have e : here want = tt col i + l * (tt col j - tt col i) := by grind
    rw [e]; grind
/-- a greatest one of finitely many -/
theorem max_ex {A : Type} (P : A → Prop) (f : A → Rat) : ∀ l : List A, (∃ a, a ∈ l ∧ P a) → ∃ a, a ∈ l ∧ P a ∧ ∀ b, b ∈ l → P b → f b ≤ f a
  | [], h => let ⟨_, h, _⟩ := h; (List.not_mem_nil h).elim
  | a :: l, h => by
    by_cases hl : ∃ b, b ∈ l ∧ P b
    · obtain ⟨b, hb, pb, mb⟩ := max_ex P f l hl
      by_cases pa : P a
      · by_cases c : f b ≤ f a
        · refine ⟨a, List.mem_cons_self, pa, fun d hd pd => ?_⟩
          rcases List.mem_cons.mp hd with rfl | hd
          · exact Rat.le_refl
          · exact Rat.le_trans (mb d hd pd) c
        · refine ⟨b, List.mem_cons_of_mem _ hb, pb, fun d hd pd => ?_⟩
          rcases List.mem_cons.mp hd with rfl | hd
          · exact Rat.le_of_lt (Rat.not_le.mp c)
          · exact mb d hd pd
      · refine ⟨b, List.mem_cons_of_mem _ hb, pb, fun d hd pd => ?_⟩
        rcases List.mem_cons.mp hd with rfl | hd
        · exact absurd pd pa
        · exact mb d hd pd
    · obtain ⟨b, hb, pb⟩ := h
      rcases List.mem_cons.mp hb with rfl | hb
      · refine ⟨b, List.mem_cons_self, pb, fun d hd pd => ?_⟩
        rcases List.mem_cons.mp hd with rfl | hd
        · exact Rat.le_refl
        · exact absurd ⟨d, hd, pd⟩ hl
      · exact absurd ⟨b, hb, pb⟩ hl
theorem hh_of {j : Nat} (T : Told m col want) (hj : j < m) {u : Rat} (h : hh col c j ≤ u) : c j ≤ col j 0 * u := by
  rw [← mul_hh (c := c) T hj]
  exact Rat.mul_le_mul_of_nonneg_left h (Rat.le_of_lt (T.kp j hj))
/-- a line above all -/
theorem line_ex (T : Told m col want) {u : Rat} (h0 : (∃ i, i < m ∧ tt col i = here want) ∨ ∃ i j, i < m ∧ j < m ∧ tt col i < here want ∧ here want < tt col j) (hu : ∀ v, CandT m col want c v → v ≤ u) : ∃ s, ∀ j, j < m → hh col c j ≤ u + s * (tt col j - here want) := by
  have at_ : ∀ j, j < m → tt col j = here want → hh col c j ≤ u := fun j hj e => hu _ (.inl ⟨j, hj, e, rfl⟩)
  have mem : ∀ j, j < m ↔ j ∈ List.range m := fun j => List.mem_range.symm
  by_cases hr : ∃ j, j ∈ List.range m ∧ here want < tt col j
  · obtain ⟨r, hrm, hrt, hmax⟩ := max_ex (fun j => here want < tt col j) (fun j => (hh col c j - u) / (tt col j - here want)) _ hr
    have hrm := (mem r).mpr hrm
    refine ⟨(hh col c r - u) / (tt col r - here want), fun j hj => ?_⟩
    have p : 0 < tt col r - here want := by grind
    have es : (hh col c r - u) / (tt col r - here want) * (tt col r - here want) = hh col c r - u := Rat.div_mul_cancel (by grind)
    by_cases h1 : here want < tt col j
    · have h2 := hmax j ((mem j).mp hj) h1
      have pj : 0 < tt col j - here want := by grind
      have ej : (hh col c j - u) / (tt col j - here want) * (tt col j - here want) = hh col c j - u := Rat.div_mul_cancel (by grind)
      have := Rat.mul_le_mul_of_nonneg_right h2 (Rat.le_of_lt pj)
      grind
    · by_cases h2 : tt col j = here want
      · have := at_ j hj h2
        rw [h2]; grind
      · have h3 : tt col j < here want := by grind
        have hm := hu _ (.inr ⟨j, r, hj, hrm, h3, hrt, rfl⟩)
        unfold mid at hm
        obtain ⟨l0, l1, le⟩ := lam h3 hrt
        generalize (here want - tt col j) / (tt col r - tt col j) = l at l0 l1 le hm
        generalize (hh col c r - u) / (tt col r - here want) = s at es
        have hr2 : hh col c r = u + s * (tt col r - here want) := by grind
        rw [hr2] at hm
        -- (1 - l) (h_j - u) + l s (t_r - here) ≤ 0 and (t_r - here) l = (1 - l) (here - t_j)
        have e1 : l * (tt col r - here want) = (1 - l) * (here want - tt col j) := by grind
        have e2 : (1 - l) * (hh col c j - (u + s * (tt col j - here want))) ≤ 0 := by
          have : (1 - l) * (hh col c j - (u + s * (tt col j - here want))) = hh col c j + l * (u + s * (tt col r - here want) - hh col c j) - u - s * (l * (tt col r - here want) - (1 - l) * (here want - tt col j)) := by grind
          rw [this, e1]; grind
        refine Rat.not_lt.mp fun z => ?_
        have := Rat.mul_pos (show 0 < 1 - l by grind) (show 0 < hh col c j - (u + s * (tt col j - here want)) by grind)
        grind
  · have nor : ∀ j, j < m → tt col j ≤ here want := fun j hj => Rat.not_lt.mp fun z => hr ⟨j, (mem j).mp hj, z⟩
    by_cases hl : ∃ j, j ∈ List.range m ∧ tt col j < here want
    · obtain ⟨r, hrm, hrt, hmax⟩ := max_ex (fun j => tt col j < here want) (fun j => (hh col c j - u) / (here want - tt col j)) _ hl
      refine ⟨-((hh col c r - u) / (here want - tt col r)), fun j hj => ?_⟩
      by_cases h1 : tt col j < here want
      · have h2 := hmax j ((mem j).mp hj) h1
        have pj : 0 < here want - tt col j := by grind
        have ej : (hh col c j - u) / (here want - tt col j) * (here want - tt col j) = hh col c j - u := Rat.div_mul_cancel (by grind)
        have := Rat.mul_le_mul_of_nonneg_right h2 (Rat.le_of_lt pj)
        grind
      · have h2 : tt col j = here want := by have := nor j hj; grind
        have := at_ j hj h2
        rw [h2]; grind
    · refine ⟨0, fun j hj => ?_⟩
      have h2 : tt col j = here want := by
        have := nor j hj
        have : ¬ tt col j < here want := fun z => hl ⟨j, (mem j).mp hj, z⟩
        grind
      have := at_ j hj h2
      grind
theorem S_at1 {i : Nat} (hi : i < m) (a : Rat) (f : Nat → Rat) : (S m fun l => (if i = l then a else 0) * f l) = a * f i := by
  rw [S_congr (g := fun l => f l * (if i = l then a else 0)) fun l _ => by grind, S_pick hi, Rat.mul_comm]
/-- the least worth is there -/
theorem val_ex {x : Nat → Rat} (T : Told m col want) (x0 : ∀ j, j < m → 0 ≤ x j) (xw : ∀ k, k < 2 → (S m fun j => x j * col j k) = want k) (c : Nat → Rat) : ∃ q, IsVal 2 m col want c q := by
  let P : Nat × Nat → Prop := fun p => (p.1 < m ∧ tt col p.1 = here want) ∨ (p.1 < m ∧ p.2 < m ∧ tt col p.1 < here want ∧ here want < tt col p.2)
  let f : Nat × Nat → Rat := fun p => if tt col p.1 = here want then hh col c p.1 else mid col want c p.1 p.2
  let l := (List.range m).flatMap fun i => (List.range (m + 1)).map fun j => (i, j)
  have hl : ∀ i j, i < m → j ≤ m → (i, j) ∈ l := fun i j hi hj => List.mem_flatMap.mpr ⟨i, List.mem_range.mpr hi, List.mem_map.mpr ⟨j, List.mem_range.mpr (by omega), rfl⟩⟩
  have s := sides T x0 xw
  obtain ⟨p, _, hp, hmax⟩ := max_ex P f l (by
    rcases s with ⟨j, hj, _, e⟩ | ⟨i, j, hi, hj, _, _, a, b⟩
    · exact ⟨(j, 0), hl j 0 hj (by omega), .inl ⟨hj, e⟩⟩
    · exact ⟨(i, j), hl i j hi (by omega), .inr ⟨hi, hj, a, b⟩⟩)
  have hu : ∀ v, CandT m col want c v → v ≤ f p := fun v hv => by
    rcases hv with ⟨i, hi, e, rfl⟩ | ⟨i, j, hi, hj, a, b, rfl⟩
    · have := hmax (i, 0) (hl i 0 hi (by omega)) (.inl ⟨hi, e⟩)
      rwa [show f (i, 0) = hh col c i from if_pos e] at this
    · have := hmax (i, j) (hl i j hi (by omega)) (.inr ⟨hi, hj, a, b⟩)
      rwa [show f (i, j) = mid col want c i j from if_neg (by intro z; rw [show tt col (i, j).1 = tt col i from rfl] at z; grind)] at this
  obtain ⟨sl, hs⟩ := line_ex (c := c) T (by
    rcases s with ⟨j, hj, _, e⟩ | ⟨i, j, hi, hj, _, _, a, b⟩
    · exact .inl ⟨j, hj, e⟩
    · exact .inr ⟨i, j, hi, hj, a, b⟩) hu
  have eh := mul_here T
  refine ⟨want 0 * f p, ⟨?_, ?_⟩⟩
  · rcases hp with ⟨hi, e⟩ | ⟨hi, hj, a, b⟩
    · have k := T.kp _ hi
      have e1 := mul_tt T hi
      have e2 := mul_hh (c := c) T hi
      have ef : f p = hh col c p.1 := if_pos e
      have ek : want 0 / col p.1 0 * col p.1 0 = want 0 := Rat.div_mul_cancel (by grind)
      refine ⟨fun l => if p.1 = l then want 0 / col p.1 0 else 0, fun j _ => ?_, fun kk hk => ?_, ?_⟩
      · dsimp only
        split
        · exact div_nonneg (Rat.le_of_lt T.Kp) k
        · exact Rat.le_refl
      · rw [S_at1 hi]
        have : kk = 0 ∨ kk = 1 := by omega
        rcases this with rfl | rfl
        · exact ek
        · rw [← eh, ← e1, ← e]; grind
      · rw [S_congr (g := fun l => (if p.1 = l then want 0 / col p.1 0 else 0) * c l) fun l _ => Rat.mul_comm _ _, S_at1 hi, ef, ← e2]; grind
    · have ki := T.kp _ hi
      have kj := T.kp _ hj
      have e1 := mul_tt T hi
      have e2 := mul_hh (c := c) T hi
      have e3 := mul_tt T hj
      have e4 := mul_hh (c := c) T hj
      have ef : f p = mid col want c p.1 p.2 := if_neg (by grind)
      have eki : want 0 / col p.1 0 * col p.1 0 = want 0 := Rat.div_mul_cancel (by grind)
      have ekj : want 0 / col p.2 0 * col p.2 0 = want 0 := Rat.div_mul_cancel (by grind)
      rw [ef]
      unfold mid
      obtain ⟨l0, l1, le⟩ := lam a b
      generalize (here want - tt col p.1) / (tt col p.2 - tt col p.1) = lm at l0 l1 le
      have h1 : 0 ≤ want 0 / col p.1 0 := div_nonneg (Rat.le_of_lt T.Kp) ki
      have h2 : 0 ≤ want 0 / col p.2 0 := div_nonneg (Rat.le_of_lt T.Kp) kj
      generalize want 0 / col p.1 0 = wi at *
      generalize want 0 / col p.2 0 = wj at *
      have sum2 : ∀ g : Nat → Rat, (S m fun l => ((if p.1 = l then (1 - lm) * wi else 0) + (if p.2 = l then lm * wj else 0)) * g l) = (1 - lm) * wi * g p.1 + lm * wj * g p.2 := fun g => by
        rw [S_congr (g := fun l => (if p.1 = l then (1 - lm) * wi else 0) * g l + (if p.2 = l then lm * wj else 0) * g l) fun l _ => by grind, S_add, S_at1 hi, S_at1 hj]
      refine ⟨fun l => (if p.1 = l then (1 - lm) * wi else 0) + (if p.2 = l then lm * wj else 0), fun j _ => ?_, fun kk hk => ?_, ?_⟩
      · have a1 := Rat.mul_nonneg (show 0 ≤ 1 - lm by grind) h1
        have a2 := Rat.mul_nonneg (Rat.le_of_lt l0) h2
        dsimp only
        split <;> split <;> grind
      · rw [sum2]
        have : kk = 0 ∨ kk = 1 := by omega
        rcases this with rfl | rfl
        · grind
        · rw [← eh, ← e1, ← e3]
          have : here want = tt col p.1 + lm * (tt col p.2 - tt col p.1) := by grind
          rw [this]; grind
      · rw [S_congr (g := fun l => ((if p.1 = l then (1 - lm) * wi else 0) + (if p.2 = l then lm * wj else 0)) * c l) fun l _ => Rat.mul_comm _ _, sum2, ← e2, ← e4]; grind
  · refine ⟨fun k => if k = 0 then f p - sl * here want else sl, fun j hj => ?_, ?_⟩
    · have h := hh_of T hj (hs j hj)
      rw [S2]
      dsimp only
      rw [if_pos rfl, if_neg (by decide)]
      have e1 := mul_tt T hj
      rw [← e1]; grind
    · rw [S2]
      dsimp only
      rw [if_pos rfl, if_neg (by decide), ← eh]; grind
end
end LP


/-! Two sums: what the tables reckon are parts. -/
namespace LP
set_option linter.all false
set_option exponentiation.threshold 3000
set_option maxHeartbeats 4000000
theorem det2 (M : Nat → Nat → Rat) : det 2 M = M 0 0 * M 1 1 - M 1 0 * M 0 1 := by
  have e : ∀ c, det 1 (minor M c) = minor M c 0 0 := fun c => by
    show S 1 (fun c' => sg c' * minor M c c' 0 * 1) = _
    show (0 : Rat) + sg 0 * minor M c 0 0 * 1 = _
    rw [show sg 0 = 1 from rfl]; grind
  show S 2 (fun c => sg c * M c 0 * det 1 (minor M c)) = _
  rw [S2, e, e, show sg 0 = 1 from rfl, show sg 1 = -1 from rfl, show minor M 0 0 0 = M 1 1 from rfl, show minor M 1 0 0 = M 0 1 from rfl]
  grind
/-- scaled whole columns, none below 0 -/
structure Scl (m : Nat) (col : Nat → Nat → Rat) (want : Nat → Rat) (d : Rat) : Prop where
  int : IsI d
  one : 1 ≤ d
  d1 : d ≤ 51840
  cl : ∀ j k, j < m → k < 2 → 0 ≤ col j k ∧ IsI (d * col j k)
  cK : ∀ j, j < m → d * col j 0 ≤ 51840
  cP : ∀ j, j < m → d * col j 1 ≤ 114048
  wn : ∀ k, k < 2 → 0 ≤ want k ∧ IsI (12 * d * want k)
  wK : 12 * d * want 0 ≤ 3732480
  wP : 12 * d * want 1 ≤ 8211456
theorem bd_two {a b c e A B M : Rat} (a0 : 0 ≤ a) (b0 : 0 ≤ b) (c0 : 0 ≤ c) (e0 : 0 ≤ e) (h1 : a ≤ A) (h2 : b ≤ B) (h3 : A * B ≤ M) {C F : Rat} (h4 : c ≤ C) (h5 : e ≤ F) (h6 : C * F ≤ M) : Bd M (a * b - c * e) := by
  have p1 : a * b ≤ A * B := Rat.le_trans (Rat.mul_le_mul_of_nonneg_right h1 b0) (Rat.mul_le_mul_of_nonneg_left h2 (Rat.le_trans a0 h1))
  have p2 : c * e ≤ C * F := Rat.le_trans (Rat.mul_le_mul_of_nonneg_right h4 e0) (Rat.mul_le_mul_of_nonneg_left h5 (Rat.le_trans c0 h4))
  have q1 := Rat.mul_nonneg a0 b0
  have q2 := Rat.mul_nonneg c0 e0
  constructor <;> grind
def BDn : Rat := 71 * 10 ^ 9
def BEn : Rat := 43 * 10 ^ 10
/-- the table's entries over a denominator -/
structure Dn (m : Nat) (s : Tab) (D : Rat) : Prop where
  int : IsI D
  ne : D ≠ 0
  bd : Bd BDn D
  ent : ∀ i j, i < 2 → j < m + 2 → Hd D BDn (s.T i j)
  goal : ∀ i, i < 2 → Hd D BEn (s.T i (m + 2))
theorem BDn_le : BDn ≤ BEn := by decide +kernel
theorem BE0 : (0 : Rat) ≤ BEn := by decide +kernel
theorem BD0 : (0 : Rat) ≤ BDn := by decide +kernel
theorem isI12 : IsI 12 := ⟨12, rfl⟩
section
variable {m : Nat} {col : Nat → Nat → Rat} {want : Nat → Rat} {d : Rat} {s : Tab}
theorem Scl.sgn (h : Scl m col want d) {k : Nat} (hk : k < 2) : LP.sgn want k = 1 := by
  unfold LP.sgn
  rw [if_neg (Rat.not_lt.mpr (h.wn k hk).1)]
/-- a column, scaled -/
theorem Scl.ent (h : Scl m col want d) {j k : Nat} (hj : j < m + 2) (hk : k < 2) : 0 ≤ d * mat 2 m col want k j ∧ IsI (d * mat 2 m col want k j) ∧ (k = 0 → d * mat 2 m col want k j ≤ 51840) ∧ (k = 1 → d * mat 2 m col want k j ≤ 114048) := by
  have o := h.one
  have d1 := h.d1
  have dn : (0 : Rat) ≤ d := by grind
  unfold mat
  split
  · next hjm =>
    rw [h.sgn hk, Rat.one_mul]
    obtain ⟨a, b⟩ := h.cl j k hjm hk
    exact ⟨Rat.mul_nonneg dn a, b, fun e => by rw [e]; exact h.cK j hjm, fun e => by rw [e]; exact h.cP j hjm⟩
  · split
    · rw [Rat.mul_one]; exact ⟨dn, h.int, fun _ => d1, fun _ => by grind⟩
    · rw [Rat.mul_zero]; exact ⟨Rat.le_refl, isI_zero, fun _ => by grind, fun _ => by grind⟩
theorem Scl.goalE (h : Scl m col want d) {k : Nat} (hk : k < 2) : 0 ≤ 12 * d * mat 2 m col want k (m + 2) ∧ IsI (12 * d * mat 2 m col want k (m + 2)) ∧ (k = 0 → 12 * d * mat 2 m col want k (m + 2) ≤ 3732480) ∧ (k = 1 → 12 * d * mat 2 m col want k (m + 2) ≤ 8211456) := by
  have o := h.one
  rw [mat_rhs, h.sgn hk, Rat.one_mul]
  obtain ⟨a, b⟩ := h.wn k hk
  exact ⟨Rat.mul_nonneg (by grind) a, b, fun e => by rw [e]; exact h.wK, fun e => by rw [e]; exact h.wP⟩
theorem Scl.den (h : Scl m col want d) (I : Inv 2 m (mat 2 m col want) s) (h0 : det 2 (bas (mat 2 m col want) s) ≠ 0) : ∃ D, Dn m s D := by
  have b0 := I.bl 0 (by omega)
  have b1 := I.bl 1 (by omega)
  have cr : ∀ i j, i < 2 → j ≤ m + 2 → det 2 (setc (bas (mat 2 m col want) s) i (fun k => mat 2 m col want k j)) = s.T i j * det 2 (bas (mat 2 m col want) s) := fun i j hi hj => cramer hi (x := fun i => s.T i j) (a := fun k => mat 2 m col want k j) fun k hk => by
    rw [I.cols k j hk hj]
    exact S_congr fun l _ => by show _ = s.T l j * mat 2 m col want k (s.b l); grind
  have e00 := h.ent b0 (k := 0) (by omega)
  have e01 := h.ent b0 (k := 1) (by omega)
  have e10 := h.ent b1 (k := 0) (by omega)
  have e11 := h.ent b1 (k := 1) (by omega)
  have cr0 : ∀ j, j ≤ m + 2 → mat 2 m col want 0 j * mat 2 m col want 1 (s.b 1) - mat 2 m col want 0 (s.b 1) * mat 2 m col want 1 j = s.T 0 j * det 2 (bas (mat 2 m col want) s) := fun j hj => by
    rw [← cr 0 j (by omega) hj, det2]; rfl
  have cr1 : ∀ j, j ≤ m + 2 → mat 2 m col want 0 (s.b 0) * mat 2 m col want 1 j - mat 2 m col want 0 j * mat 2 m col want 1 (s.b 0) = s.T 1 j * det 2 (bas (mat 2 m col want) s) := fun j hj => by
    rw [← cr 1 j (by omega) hj, det2]; rfl
  have dd : det 2 (bas (mat 2 m col want) s) = mat 2 m col want 0 (s.b 0) * mat 2 m col want 1 (s.b 1) - mat 2 m col want 0 (s.b 1) * mat 2 m col want 1 (s.b 0) := by rw [det2]; rfl
  have o := h.one
  generalize hDt : det 2 (bas (mat 2 m col want) s) = dt at *
  have b12 : ∀ {x : Rat}, Bd (51840 * 114048) x → Bd BDn (12 * x) := fun {x} hx => by
    have : BDn = 71 * 10 ^ 9 := rfl
    obtain ⟨l, u⟩ := hx
    constructor
    · have : -BDn ≤ 12 * -(51840 * 114048) := by decide +kernel
      grind
    · have : 12 * (51840 * 114048) ≤ BDn := by decide +kernel
      grind
  refine ⟨12 * (d * d * dt), isI12.mul ?_, ?_, b12 ?_, fun i j hi hj => ?_, fun i hi => ?_⟩
  · have : d * d * dt = d * mat 2 m col want 0 (s.b 0) * (d * mat 2 m col want 1 (s.b 1)) - d * mat 2 m col want 0 (s.b 1) * (d * mat 2 m col want 1 (s.b 0)) := by rw [dd]; grind
    rw [this]; exact (e00.2.1.mul e11.2.1).sub (e10.2.1.mul e01.2.1)
  · have : d ≠ 0 := by grind
    grind
  · have : d * d * dt = d * mat 2 m col want 0 (s.b 0) * (d * mat 2 m col want 1 (s.b 1)) - d * mat 2 m col want 0 (s.b 1) * (d * mat 2 m col want 1 (s.b 0)) := by rw [dd]; grind
    rw [this]; exact bd_two e00.1 e11.1 e10.1 e01.1 (e00.2.2.1 rfl) (e11.2.2.2 rfl) Rat.le_refl (e10.2.2.1 rfl) (e01.2.2.2 rfl) Rat.le_refl
  · have j0 := h.ent hj (k := 0) (by omega)
    have j1 := h.ent hj (k := 1) (by omega)
    have hi2 : i = 0 ∨ i = 1 := by omega
    unfold Hd
    rcases hi2 with rfl | rfl
    · have : 12 * (d * d * dt) * s.T 0 j = 12 * (d * mat 2 m col want 0 j * (d * mat 2 m col want 1 (s.b 1)) - d * mat 2 m col want 0 (s.b 1) * (d * mat 2 m col want 1 j)) := by
        have := cr0 j (by omega); grind
      rw [this]
      exact ⟨isI12.mul ((j0.2.1.mul e11.2.1).sub (e10.2.1.mul j1.2.1)), b12 (bd_two j0.1 e11.1 e10.1 j1.1 (j0.2.2.1 rfl) (e11.2.2.2 rfl) Rat.le_refl (e10.2.2.1 rfl) (j1.2.2.2 rfl) Rat.le_refl)⟩
    · have : 12 * (d * d * dt) * s.T 1 j = 12 * (d * mat 2 m col want 0 (s.b 0) * (d * mat 2 m col want 1 j) - d * mat 2 m col want 0 j * (d * mat 2 m col want 1 (s.b 0))) := by
        have := cr1 j (by omega); grind
      rw [this]
      exact ⟨isI12.mul ((e00.2.1.mul j1.2.1).sub (j0.2.1.mul e01.2.1)), b12 (bd_two e00.1 j1.1 j0.1 e01.1 (e00.2.2.1 rfl) (j1.2.2.2 rfl) Rat.le_refl (j0.2.2.1 rfl) (e01.2.2.2 rfl) Rat.le_refl)⟩
  · have j0 := h.goalE (k := 0) (by omega)
    have j1 := h.goalE (k := 1) (by omega)
    have hi2 : i = 0 ∨ i = 1 := by omega
    unfold Hd
    rcases hi2 with rfl | rfl
    · have : 12 * (d * d * dt) * s.T 0 (m + 2) = 12 * d * mat 2 m col want 0 (m + 2) * (d * mat 2 m col want 1 (s.b 1)) - d * mat 2 m col want 0 (s.b 1) * (12 * d * mat 2 m col want 1 (m + 2)) := by
        have := cr0 (m + 2) (by omega); grind
      rw [this]
      exact ⟨(j0.2.1.mul e11.2.1).sub (e10.2.1.mul j1.2.1), bd_two j0.1 e11.1 e10.1 j1.1 (j0.2.2.1 rfl) (e11.2.2.2 rfl) (by decide +kernel) (e10.2.2.1 rfl) (j1.2.2.2 rfl) (by decide +kernel)⟩
    · have : 12 * (d * d * dt) * s.T 1 (m + 2) = d * mat 2 m col want 0 (s.b 0) * (12 * d * mat 2 m col want 1 (m + 2)) - 12 * d * mat 2 m col want 0 (m + 2) * (d * mat 2 m col want 1 (s.b 0)) := by
        have := cr1 (m + 2) (by omega); grind
      rw [this]
      exact ⟨(e00.2.1.mul j1.2.1).sub (j0.2.1.mul e01.2.1), bd_two e00.1 j1.1 j0.1 e01.1 (e00.2.2.1 rfl) (j1.2.2.2 rfl) (by decide +kernel) (j0.2.2.1 rfl) (e01.2.2.2 rfl) (by decide +kernel)⟩
theorem Scl.fit0 (h : Scl m col want d) : (∀ j k, j < m → k < 2 → Fit (LP.sgn want k * col j k)) ∧ ∀ k, k < 2 → Fit (LP.sgn want k * want k) := by
  have o := h.one
  have d1 := h.d1
  refine ⟨fun j k hj hk => ?_, fun k hk => ?_⟩
  · rw [h.sgn hk, Rat.one_mul]
    obtain ⟨a, b⟩ := h.cl j k hj hk
    have hb : d * col j k ≤ 114048 := by
      have : k = 0 ∨ k = 1 := by omega
      rcases this with rfl | rfl
      · have := h.cK j hj; grind
      · exact h.cP j hj
    exact fitH (B := 51840) (K := 114048) h.int (by grind) ⟨by grind, d1⟩ (by decide +kernel) (by decide +kernel) ⟨b, by have := Rat.mul_nonneg (show 0 ≤ d by grind) a; grind, hb⟩
  · rw [h.sgn hk, Rat.one_mul]
    obtain ⟨a, b⟩ := h.wn k hk
    have hb : 12 * d * want k ≤ 8211456 := by
      have : k = 0 ∨ k = 1 := by omega
      rcases this with rfl | rfl
      · have := h.wK; grind
      · exact h.wP
    exact fitH (B := 12 * 51840) (K := 8211456) (isI12.mul h.int) (by grind) ⟨by grind, by grind⟩ (by decide +kernel) (by decide +kernel) ⟨b, by have := Rat.mul_nonneg (show 0 ≤ 12 * d by grind) a; grind, hb⟩
end
/-! ### worths -/
/-- a worth over six times a whole number -/
def Wz (q : Rat) : Prop := ∃ e : Rat, IsI e ∧ 1 ≤ e ∧ e ≤ 10 ^ 14 ∧ IsI (6 * e * q) ∧ Bd 121000 q
theorem Wz.zero : Wz 0 := ⟨1, isI_one, Rat.le_refl, by decide +kernel, by rw [Rat.mul_zero]; exact isI_zero, by constructor <;> decide +kernel⟩
theorem Wz.m1 : Wz (-1) := ⟨1, isI_one, Rat.le_refl, by decide +kernel, ⟨-6, by decide +kernel⟩, by constructor <;> decide +kernel⟩
theorem Wz.one : Wz 1 := ⟨1, isI_one, Rat.le_refl, by decide +kernel, ⟨6, by decide +kernel⟩, by constructor <;> decide +kernel⟩
/-- .. as what stands over 6 e -/
theorem wz_hd {e q : Rat} (h1 : 1 ≤ e) (h2 : e ≤ 10 ^ 14) (h3 : IsI (6 * e * q)) (h4 : Bd 121000 q) : Hd (6 * e) (726000 * 10 ^ 14) q := by
  refine ⟨h3, ?_⟩
  have : Bd (6 * 10 ^ 14) (6 * e) := ⟨by grind, by grind⟩
  exact bd_mono (by decide +kernel) (bd_mul this h4)
section
variable {m : Nat} {s : Tab} {D : Rat} {c : Nat → Rat}
theorem isI6 : IsI 6 := ⟨6, rfl⟩
variable (dn : Dn m s D) (hb : ∀ i, i < 2 → s.b i < m + 2) (hc : ∀ j, j < m + 2 → Wz (c j))
include dn hb hc
theorem Dn.all {i j : Nat} (hi : i < 2) (hj : j ≤ m + 2) : Hd D BEn (s.T i j) := by
  by_cases h : j = m + 2
  · rw [h]; exact dn.goal i hi
  · exact (dn.ent i j hi (by omega)).mono BDn_le
/-- one product -/
theorem Dn.prod {i j : Nat} (hi : i < 2) (hj : j ≤ m + 2) : Fit (c (s.b i) * s.T i j) := by
  obtain ⟨e, e1, e2, e3, e4, e5⟩ := hc _ (hb i hi)
  have h := (wz_hd e2 e3 e4 e5).mul (dn.all hb hc hi hj)
  have n := dn.ne
  exact fitH ((isI6.mul e1).mul dn.int) (by grind) (bd_mul (A := 6 * 10 ^ 14) ⟨by grind, by grind⟩ dn.bd) (by decide +kernel) (by decide +kernel) h
/-- the sum: over 6 e e' D -/
theorem Dn.sum2 {j : Nat} (hj : j ≤ m + 2) {M : Rat} (hM : ∀ i, i < 2 → Hd D M (s.T i j)) : ∃ E, IsI E ∧ 1 ≤ E ∧ E ≤ 10 ^ 28 ∧ Hd (6 * E * D) (2 * (10 ^ 14 * (726000 * 10 ^ 14 * M))) (S 2 fun i => c (s.b i) * s.T i j) := by
  obtain ⟨e, e1, e2, e3, e4, e5⟩ := hc _ (hb 0 (by omega))
  obtain ⟨f, f1, f2, f3, f4, f5⟩ := hc _ (hb 1 (by omega))
  have p0 := ((wz_hd e2 e3 e4 e5).mul (hM 0 (by omega))).scale (E := f) (B := 10 ^ 14) f1 ⟨by grind, f3⟩
  have p1 := ((wz_hd f2 f3 f4 f5).mul (hM 1 (by omega))).scale (E := e) (B := 10 ^ 14) e1 ⟨by grind, e3⟩
  have q := Rat.mul_le_mul_of_nonneg_right e3 (show 0 ≤ f by grind)
  have q1 := Rat.mul_le_mul_of_nonneg_right e2 (show 0 ≤ f by grind)
  refine ⟨e * f, e1.mul f1, by grind, by grind, ?_⟩
  rw [S2]
  have a0 : Hd (6 * (e * f) * D) (10 ^ 14 * (726000 * 10 ^ 14 * M)) (c (s.b 0) * s.T 0 j) := by
    rw [show 6 * (e * f) * D = f * (6 * e * D) by grind]; exact p0
  have a1 : Hd (6 * (e * f) * D) (10 ^ 14 * (726000 * 10 ^ 14 * M)) (c (s.b 1) * s.T 1 j) := by
    rw [show 6 * (e * f) * D = e * (6 * f * D) by grind]; exact p1
  exact (a0.add a1).mono (by grind)
theorem Dn.sum2c {M : Rat} : ∃ E, IsI E ∧ 1 ≤ E ∧ E ≤ 10 ^ 28 ∧ ∀ j, j ≤ m + 2 → (∀ i, i < 2 → Hd D M (s.T i j)) → Hd (6 * E * D) (2 * (10 ^ 14 * (726000 * 10 ^ 14 * M))) (S 2 fun i => c (s.b i) * s.T i j) := by
  obtain ⟨e, e1, e2, e3, e4, e5⟩ := hc _ (hb 0 (by omega))
  obtain ⟨f, f1, f2, f3, f4, f5⟩ := hc _ (hb 1 (by omega))
  have q := Rat.mul_le_mul_of_nonneg_right e3 (show 0 ≤ f by grind)
  have q1 := Rat.mul_le_mul_of_nonneg_right e2 (show 0 ≤ f by grind)
  refine ⟨e * f, e1.mul f1, by grind, by grind, fun j hj hM => ?_⟩
  have p0 := ((wz_hd e2 e3 e4 e5).mul (hM 0 (by omega))).scale (E := f) (B := 10 ^ 14) f1 ⟨by grind, f3⟩
  have p1 := ((wz_hd f2 f3 f4 f5).mul (hM 1 (by omega))).scale (E := e) (B := 10 ^ 14) e1 ⟨by grind, e3⟩
  rw [S2]
  have a0 : Hd (6 * (e * f) * D) (10 ^ 14 * (726000 * 10 ^ 14 * M)) (c (s.b 0) * s.T 0 j) := by
    rw [show 6 * (e * f) * D = f * (6 * e * D) by grind]; exact p0
  have a1 : Hd (6 * (e * f) * D) (10 ^ 14 * (726000 * 10 ^ 14 * M)) (c (s.b 1) * s.T 1 j) := by
    rw [show 6 * (e * f) * D = e * (6 * f * D) by grind]; exact p1
  exact (a0.add a1).mono (by grind)
theorem Dn.fsum {j : Nat} (hj : j ≤ m + 2) : ∀ k, k ≤ 2 → Fit (S k fun i => c (s.b i) * s.T i j) := fun k hk => by
  have n := dn.ne
  have hk3 : k = 0 ∨ k = 1 ∨ k = 2 := by omega
  rcases hk3 with rfl | rfl | rfl
  · exact (show Fit 0 from ⟨by decide, by decide +kernel⟩)
  · rw [show (S 1 fun i => c (s.b i) * s.T i j) = c (s.b 0) * s.T 0 j from Rat.zero_add _]
    exact dn.prod hb hc (by omega) hj
  · obtain ⟨E, i, l, u, h⟩ := dn.sum2 hb hc hj (M := BEn) fun i hi => dn.all hb hc hi hj
    exact fitH ((isI6.mul i).mul dn.int) (by grind) (bd_mul (A := 6 * 10 ^ 28) ⟨by grind, by grind⟩ dn.bd) (by decide +kernel) (by decide +kernel) h
theorem Dn.fred {j : Nat} (hj : j < m + 2) : Fit (LP.red 2 c s j) := by
  have n := dn.ne
  obtain ⟨E, i, l, u, h⟩ := dn.sum2 hb hc (Nat.le_of_lt hj) (M := BDn) fun i hi => dn.ent i j hi hj
  obtain ⟨e, e1, e2, e3, e4, e5⟩ := hc j hj
  have h2 := h.scale (E := e) (B := 10 ^ 14) e1 ⟨by grind, e3⟩
  have h1 := (wz_hd e2 e3 e4 e5).scale (E := E * D) (B := 10 ^ 28 * BDn) (i.mul dn.int) (bd_mul ⟨by grind, u⟩ dn.bd)
  have a1 : Hd (6 * e * E * D) (10 ^ 28 * BDn * (726000 * 10 ^ 14)) (c j) := by
    rw [show 6 * e * E * D = E * D * (6 * e) by grind]; exact h1
  have a2 : Hd (6 * e * E * D) (10 ^ 14 * (2 * (10 ^ 14 * (726000 * 10 ^ 14 * BDn)))) (S 2 fun i => c (s.b i) * s.T i j) := by
    rw [show 6 * e * E * D = e * (6 * E * D) by grind]; exact h2
  have q := Rat.mul_le_mul_of_nonneg_right e3 (show 0 ≤ E by grind)
  have q2 := Rat.mul_le_mul_of_nonneg_right e2 (show 0 ≤ E by grind)
  refine fitH (((isI6.mul e1).mul i).mul dn.int) (by grind) (bd_mul (A := 6 * 10 ^ 42) ⟨by grind, by grind⟩ dn.bd) (by decide +kernel) ?_ (a1.sub a2)
  decide +kernel
theorem Dn.used_red {k : Nat} (hk : k < 2) : c (m + k) - LP.red 2 c s (m + k) = S 2 fun i => c (s.b i) * s.T i (m + k) := by
  show c (m + k) - (c (m + k) - S 2 fun i => c (s.b i) * s.T i (m + k)) = _
  grind
end
section
variable {m : Nat} {s : Tab} {D : Rat} (dn : Dn m s D)
include dn
theorem Dn.any {i j : Nat} (hi : i < 2) (hj : j ≤ m + 2) : Hd D BEn (s.T i j) := by
  by_cases h : j = m + 2
  · rw [h]; exact dn.goal i hi
  · exact (dn.ent i j hi (by omega)).mono BDn_le
theorem Dn.dent {i j : Nat} (hi : i < 2) (hj : j ≤ m + 2) (h : s.T i j ≠ 0) : IsI (D * s.T i j) ∧ D * s.T i j ≠ 0 ∧ Bd BEn (D * s.T i j) := by
  refine ⟨(dn.any hi hj).1, ?_, (dn.any hi hj).2⟩
  have := dn.ne
  grind
theorem Dn.ratio {r e i j : Nat} (hr : r < 2) (he : e ≤ m + 2) (h : s.T r e ≠ 0) (hi : i < 2) (hj : j ≤ m + 2) : Hd (D * s.T r e) BEn (s.T i j / s.T r e) := by
  have e1 : D * s.T r e * (s.T i j / s.T r e) = D * s.T i j := by grind
  unfold Hd
  rw [e1]
  exact dn.any hi hj
theorem Dn.fit_ratio {r e i j : Nat} (hr : r < 2) (he : e ≤ m + 2) (h : s.T r e ≠ 0) (hi : i < 2) (hj : j ≤ m + 2) : Fit (s.T i j / s.T r e) :=
  let ⟨a, b, c⟩ := dn.dent hr he h
  fitH a b c (by decide +kernel) (by decide +kernel) (dn.ratio hr he h hi hj)
theorem Dn.fit_piv {r e i j : Nat} (hr : r < 2) (he : e ≤ m + 2) (h : s.T r e ≠ 0) (hi : i < 2) (hj : j ≤ m + 2) : Fit (s.T i e * (s.T r j / s.T r e)) ∧ Fit (s.T i j - s.T i e * (s.T r j / s.T r e)) := by
  obtain ⟨a, b, c⟩ := dn.dent hr he h
  have h1 := (dn.any hi he).mul (dn.ratio hr he h hr hj)
  have h2 := (dn.any hi hj).scale' a c
  have ne : D * (D * s.T r e) ≠ 0 := by have := dn.ne; grind
  exact ⟨fitH (dn.int.mul a) ne (bd_mul dn.bd c) (by decide +kernel) (by decide +kernel) h1, fitH (dn.int.mul a) ne (bd_mul dn.bd c) (by decide +kernel) (by decide +kernel) (h2.sub h1)⟩
theorem Dn.fit_neg {i e : Nat} (hi : i < 2) (he : e ≤ m + 2) : Fit (0 - s.T i e) := by
  have e1 : 0 - s.T i e = - s.T i e := by grind
  rw [e1]
  exact fitH dn.int dn.ne dn.bd (by decide +kernel) (by decide +kernel) (dn.any hi he).neg
end
/-- what weights are over -/
def Xz (m : Nat) (x : Nat → Rat) : Prop := ∃ D, IsI D ∧ D ≠ 0 ∧ Bd BDn D ∧ ∀ j, j < m → Hd D BEn (x j)
theorem Dn.wt {m : Nat} {s : Tab} {D : Rat} (dn : Dn m s D) (inj : ∀ i k, i < 2 → k < 2 → s.b i = s.b k → i = k) : Xz m (LP.wt 2 m s) := by
  refine ⟨D, dn.int, dn.ne, dn.bd, fun j _ => ?_⟩
  have h : LP.wt 2 m s j = 0 ∨ ∃ i, i < 2 ∧ LP.wt 2 m s j = s.T i (m + 2) := by
    by_cases h : ∃ i, i < 2 ∧ s.b i = j
    · obtain ⟨i, hi, e⟩ := h
      refine .inr ⟨i, hi, ?_⟩
      unfold LP.wt
      rw [S_one hi]
      · exact if_pos e
      · exact fun k hk hne => if_neg fun z => hne (inj k i hk hi (z.trans e.symm))
    · exact .inl (S_zero fun i hi => if_neg fun z => h ⟨i, hi, z⟩)
  rcases h with h | ⟨i, hi, h⟩
  · rw [h]; exact Hd.zero BE0
  · rw [h]; exact dn.goal i hi
/-- what places are over -/
def Yz (y : Nat → Rat) : Prop := ∃ E, IsI E ∧ E ≠ 0 ∧ Bd (10 ^ 41) E ∧ ∀ k, k < 2 → Hd E (10 ^ 47) (y k)
theorem Dn.side {m : Nat} {s : Tab} {D : Rat} {c want : Nat → Rat} (dn : Dn m s D) (hb : ∀ i, i < 2 → s.b i < m + 2) (hc : ∀ j, j < m + 2 → Wz (c j)) (hw : ∀ k, k < 2 → 0 ≤ want k) {k : Nat} (hk : k < 2) :
    Fit (c (m + k) - LP.red 2 c s (m + k)) ∧ Fit (LP.side 2 m want c s k) ∧ ∃ E, IsI E ∧ E ≠ 0 ∧ Bd (10 ^ 41) E ∧ Hd E (10 ^ 47) (LP.side 2 m want c s k) := by
  have e := dn.used_red hb hc hk
  have f := dn.fsum hb hc (j := m + k) (by omega) 2 (Nat.le_refl _)
  have es : LP.side 2 m want c s k = S 2 fun i => c (s.b i) * s.T i (m + k) := by
    unfold LP.side LP.sgn
    rw [if_neg (Rat.not_lt.mpr (hw k hk)), Rat.one_mul, e]
  refine ⟨by rw [e]; exact f, by rw [es]; exact f, ?_⟩
  obtain ⟨E, i, l, u, h⟩ := dn.sum2 hb hc (j := m + k) (by omega) (M := BDn) fun i hi => dn.ent i _ hi (by omega)
  have n := dn.ne
  rw [es]
  exact ⟨6 * E * D, (isI6.mul i).mul dn.int, by grind, bd_mono (by decide +kernel) (bd_mul (A := 6 * 10 ^ 28) ⟨by grind, by grind⟩ dn.bd), h.mono (by decide +kernel)⟩
theorem Dn.sides {m : Nat} {s : Tab} {D : Rat} {c want : Nat → Rat} (dn : Dn m s D) (hb : ∀ i, i < 2 → s.b i < m + 2) (hc : ∀ j, j < m + 2 → Wz (c j)) (hw : ∀ k, k < 2 → 0 ≤ want k) : Yz (LP.side 2 m want c s) := by
  obtain ⟨E, i, l, u, h⟩ := dn.sum2c hb hc (M := BDn)
  have n := dn.ne
  refine ⟨6 * E * D, (isI6.mul i).mul dn.int, by grind, bd_mono (by decide +kernel) (bd_mul (A := 6 * 10 ^ 28) ⟨by grind, by grind⟩ dn.bd), fun k hk => ?_⟩
  have e := dn.used_red hb hc hk
  have es : LP.side 2 m want c s k = S 2 fun i => c (s.b i) * s.T i (m + k) := by
    unfold LP.side LP.sgn
    rw [if_neg (Rat.not_lt.mpr (hw k hk)), Rat.one_mul, e]
  rw [es]
  exact (h (m + k) (by omega) fun i hi => dn.ent i _ hi (by omega)).mono (by decide +kernel)
end LP


/-! The tree; costs by depth. -/
namespace LP
set_option linter.all false
set_option exponentiation.threshold 3000
set_option maxHeartbeats 4000000
structure Tr where
  N : Nat
  par : Nat → Nat
  pr : Nat → Nat → Rat
def Tr.kids (T : Tr) (i : Nat) : List Nat := (List.range T.N).filter fun j => decide (0 < j ∧ T.par j = i)
def Tr.m (T : Tr) (i : Nat) : Nat := (T.kids i).length
def Tr.kid (T : Tr) (i j : Nat) : Nat := (T.kids i).getD j 0
def Tr.col (T : Tr) (i : Nat) : Nat → Nat → Rat := fun j k => T.pr (T.kid i j) k
theorem Tr.kid_mem {T : Tr} {i j : Nat} (h : j < T.m i) : T.kid i j ∈ T.kids i := by
  unfold Tr.kid
  rw [List.getD_eq_getElem?_getD, List.getElem?_eq_getElem h]
  exact List.getElem_mem h
theorem Tr.mem_kids {T : Tr} {i j : Nat} : j ∈ T.kids i ↔ j < T.N ∧ 0 < j ∧ T.par j = i := by
  unfold Tr.kids
  rw [List.mem_filter, List.mem_range, decide_eq_true_eq]
def LB : Nat → Rat
  | 0 => 1 / 128
  | 1 => 1 / 32
  | 2 => 1 / 8
  | _ => 1 / 2
def Dd : Nat → Rat
  | 0 => 3456
  | 1 => 288
  | 2 => 24
  | _ => 2
def KB : Nat → Rat
  | 0 => 1080
  | 1 => 180
  | 2 => 30
  | _ => 5
def PB : Nat → Rat
  | 0 => 2376
  | 1 => 396
  | 2 => 66
  | _ => 11
def xb : Nat → Rat
  | 0 => 10 ^ 39
  | 1 => 954 * 10 ^ 11
  | 2 => 2640
  | _ => 1
def rb : Nat → Rat
  | 0 => 2720
  | 1 => 672
  | 2 => 160
  | _ => 32
/-- prices at a depth -/
structure PrOk (d : Nat) (p : Nat → Rat) : Prop where
  kp : LB d ≤ p 0
  pp : 0 ≤ p 1
  int : ∀ k, k < 2 → IsI (Dd d * p k)
  kb : p 0 ≤ KB d
  pb : p 1 ≤ PB d
structure Tr.Ok (T : Tr) (dep : Nat → Nat) (wt : Nat → Rat) : Prop where
  n1 : 1 ≤ T.N
  n12 : T.N ≤ 12
  lt : ∀ j, 0 < j → j < T.N → T.par j < j
  d0 : dep 0 = 0
  dS : ∀ j, 0 < j → j < T.N → dep j = dep (T.par j) + 1
  d3 : ∀ j, j < T.N → dep j ≤ 3
  m4 : ∀ i, T.m i ≤ 4
  wp : ∀ j, 0 < j → j < T.N → 0 < wt j
  sum : ∀ i, i < T.N → 0 < T.m i → ∀ k, k < 2 → (S (T.m i) fun j => wt (T.kid i j) * T.pr (T.kid i j) k) = T.pr i k
  pr : ∀ i, i < T.N → PrOk (dep i) (T.pr i)
section
variable {T : Tr} {dep : Nat → Nat} {wt : Nat → Rat}
theorem Tr.Ok.kid (h : T.Ok dep wt) {i j : Nat} (hj : j < T.m i) : T.kid i j < T.N ∧ 0 < T.kid i j ∧ T.par (T.kid i j) = i ∧ i < T.kid i j ∧ dep (T.kid i j) = dep i + 1 := by
  obtain ⟨a, b, c⟩ := Tr.mem_kids.mp (Tr.kid_mem hj)
  have := h.lt _ b a
  refine ⟨a, b, c, by omega, ?_⟩
  rw [h.dS _ b a, c]
theorem dd_cases {d : Nat} (h : d ≤ 3) : d = 0 ∨ d = 1 ∨ d = 2 ∨ d = 3 := by omega
theorem LB_pos {d : Nat} (h : d ≤ 3) : 0 < LB d := by
  rcases dd_cases h with rfl | rfl | rfl | rfl <;> decide +kernel
theorem Dd_int {d : Nat} (h : d ≤ 3) : IsI (Dd d) := by
  rcases dd_cases h with rfl | rfl | rfl | rfl
  · exact ⟨3456, rfl⟩
  · exact ⟨288, rfl⟩
  · exact ⟨24, rfl⟩
  · exact ⟨2, rfl⟩
theorem Tr.Ok.depLe (h : T.Ok dep wt) {i : Nat} (hi : i < T.N) (hm : 0 < T.m i) : dep i ≤ 2 := by
  obtain ⟨a, b, c, d, e⟩ := h.kid hm
  have := h.d3 _ a
  omega
theorem PrOk.kpos {d : Nat} {p : Nat → Rat} (h : PrOk d p) (hd : d ≤ 3) : 0 < p 0 := by
  have := LB_pos hd
  have := h.kp
  grind
theorem Tr.Ok.told (h : T.Ok dep wt) {i : Nat} (hi : i < T.N) : Told (T.m i) (T.col i) (T.pr i) where
  kp := fun j hj => by
    obtain ⟨a, b, c, d, e⟩ := h.kid hj
    exact (h.pr _ a).kpos (h.d3 _ a)
  Kp := (h.pr i hi).kpos (h.d3 i hi)
theorem PrOk.scaled {d : Nat} {p : Nat → Rat} (h : PrOk d p) (hd : d ≤ 3) : 0 ≤ p 0 ∧ 0 ≤ p 1 := ⟨Rat.le_of_lt (h.kpos hd), h.pp⟩
theorem sc_le {a b c : Rat} (hc : 0 ≤ c) (h : a ≤ b) {M : Rat} (hM : c * b ≤ M) : c * a ≤ M := Rat.le_trans (Rat.mul_le_mul_of_nonneg_left h hc) hM
theorem Tr.Ok.scl (h : T.Ok dep wt) {i : Nat} (hi : i < T.N) (hm : 0 < T.m i) : Scl (T.m i) (T.col i) (T.pr i) (Dd (dep i + 1)) := by
  have d2 := h.depLe hi hm
  have pi := h.pr i hi
  have nn := pi.scaled (h.d3 i hi)
  have e12 : 12 * Dd (dep i + 1) = Dd (dep i) := by
    have h3 : dep i = 0 ∨ dep i = 1 ∨ dep i = 2 := by omega
    rcases h3 with e | e | e <;> rw [e] <;> decide +kernel
  have dn : 0 ≤ Dd (dep i + 1) ∧ 1 ≤ Dd (dep i + 1) ∧ Dd (dep i + 1) ≤ 51840 ∧ Dd (dep i + 1) * KB (dep i + 1) ≤ 51840 ∧ Dd (dep i + 1) * PB (dep i + 1) ≤ 114048 ∧ 0 ≤ Dd (dep i) ∧ Dd (dep i) * KB (dep i) ≤ 3732480 ∧ Dd (dep i) * PB (dep i) ≤ 8211456 := by
    have h3 : dep i = 0 ∨ dep i = 1 ∨ dep i = 2 := by omega
    rcases h3 with e | e | e <;> rw [e] <;> decide +kernel
  obtain ⟨n1, n2, n3, n4, n5, n6, n7, n8⟩ := dn
  refine ⟨Dd_int (by omega), n2, n3, fun j k hj hk => ?_, fun j hj => ?_, fun j hj => ?_, fun k hk => ⟨?_, ?_⟩, ?_, ?_⟩
  · obtain ⟨a, b, c, d, e⟩ := h.kid hj
    have p := h.pr _ a
    rw [e] at p
    refine ⟨?_, p.int k hk⟩
    have q := p.scaled (by omega)
    have : k = 0 ∨ k = 1 := by omega
    rcases this with rfl | rfl
    · exact q.1
    · exact q.2
  · obtain ⟨a, b, c, d, e⟩ := h.kid hj
    have p := h.pr _ a
    rw [e] at p
    exact sc_le n1 p.kb n4
  · obtain ⟨a, b, c, d, e⟩ := h.kid hj
    have p := h.pr _ a
    rw [e] at p
    exact sc_le n1 p.pb n5
  · have : k = 0 ∨ k = 1 := by omega
    rcases this with rfl | rfl
    · exact nn.1
    · exact nn.2
  · rw [e12]; exact pi.int k hk
  · rw [e12]; exact sc_le n6 pi.kb n7
  · rw [e12]; exact sc_le n6 pi.pb n8
theorem Tr.Ok.shares (h : T.Ok dep wt) {i : Nat} (hi : i < T.N) (hm : 0 < T.m i) : (∀ j, j < T.m i → 0 ≤ wt (T.kid i j)) ∧ ∀ k, k < 2 → (S (T.m i) fun j => wt (T.kid i j) * T.col i j k) = T.pr i k :=
  ⟨fun j hj => let ⟨a, b, _⟩ := h.kid hj; Rat.le_of_lt (h.wp _ b a), h.sum i hi hm⟩
/-- what it takes at a node -/
noncomputable def tkv (T : Tr) (i : Nat) (f : Nat → Rat) : Rat :=
  open Classical in if h : ∃ q, IsVal 2 (T.m i) (T.col i) (T.pr i) (fun j => f (T.kid i j)) q then Classical.choose h else 0
theorem tkv_leaf (h : T.Ok dep wt) {i : Nat} (hi : i < T.N) (hm : T.m i = 0) (f : Nat → Rat) : tkv T i f = 0 := by
  unfold tkv
  rw [dif_neg]
  rintro ⟨q, v⟩
  obtain ⟨x, _, xw, _⟩ := v.wt
  have := xw 0 (by omega)
  rw [hm] at this
  have k := (h.told hi).Kp
  have : (0 : Rat) = T.pr i 0 := this
  grind
theorem tkv_val (h : T.Ok dep wt) {i : Nat} (hi : i < T.N) (hm : 0 < T.m i) (f : Nat → Rat) : IsVal 2 (T.m i) (T.col i) (T.pr i) (fun j => f (T.kid i j)) (tkv T i f) := by
  obtain ⟨s1, s2⟩ := h.shares hi hm
  have ex := val_ex (h.told hi) s1 s2 (fun j => f (T.kid i j))
  unfold tkv
  rw [dif_pos ex]
  exact Classical.choose_spec ex
theorem tkv_eq (h : T.Ok dep wt) {i : Nat} (hi : i < T.N) (hm : 0 < T.m i) {f c : Nat → Rat} {q : Rat} (hc : ∀ j, j < T.m i → c j = f (T.kid i j)) (v : IsVal 2 (T.m i) (T.col i) (T.pr i) c q) : tkv T i f = q :=
  (tkv_val h hi hm f).uniq (v.congr hc)
theorem tkv_local (h : T.Ok dep wt) {i : Nat} (hi : i < T.N) {f g : Nat → Rat} (e : ∀ j, i < j → j < T.N → f j = g j) : tkv T i f = tkv T i g := by
  by_cases hm : T.m i = 0
  · rw [tkv_leaf h hi hm, tkv_leaf h hi hm]
  · refine tkv_eq h hi (by omega) (c := fun j => g (T.kid i j)) (fun j hj => ?_) (tkv_val h hi (by omega) g)
    obtain ⟨a, b, c, d, _⟩ := h.kid hj
    exact (e _ d a).symm
/-! ### sizes -/
/-- a due part -/
def Du (q : Rat) : Prop := IsI (6 * q) ∧ Bd 16 q
/-- a cost at depth d with the keep K -/
def Cz (d : Nat) (K q : Rat) : Prop := ∃ e, IsI e ∧ 1 ≤ e ∧ e ≤ xb d ∧ IsI (6 * e * q) ∧ Bd (rb d * K) q
/-- what it takes at depth d -/
def Cv (d : Nat) (K q : Rat) : Prop := ∃ e, IsI e ∧ 1 ≤ e ∧ e ≤ xb d ∧ IsI (6 * e * q) ∧ Bd (rb (d + 1) * K) q
theorem rb_pos (d : Nat) : 0 < rb d := by
  unfold rb; split <;> decide +kernel
theorem xb_one {d : Nat} : 1 ≤ xb d := by
  unfold xb; split <;> decide +kernel
theorem rb_lb {d : Nat} (hd : d ≤ 3) : 16 ≤ rb d * LB d ∧ (d ≤ 2 → rb (d + 1) * LB d + 16 ≤ rb d * LB d) ∧ rb (d + 1) ≤ rb d := by
  rcases dd_cases hd with rfl | rfl | rfl | rfl <;> decide +kernel
theorem Du.cz {d : Nat} {K q : Rat} (h : Du q) (hd : d ≤ 3) (hK : LB d ≤ K) : Cz d K q := by
  refine ⟨1, isI_one, Rat.le_refl, xb_one, by rw [show (6 : Rat) * 1 * q = 6 * q by grind]; exact h.1, bd_mono ?_ h.2⟩
  have a := (rb_lb hd).1
  have b := Rat.mul_le_mul_of_nonneg_left hK (Rat.le_of_lt (rb_pos d))
  grind
theorem Cv.cz {d : Nat} {K q : Rat} (h : Cv d K q) (hd : d ≤ 3) (hK : 0 ≤ K) : Cz d K q := by
  obtain ⟨e, e1, e2, e3, e4, e5⟩ := h
  exact ⟨e, e1, e2, e3, e4, bd_mono (Rat.mul_le_mul_of_nonneg_right (rb_lb hd).2.2 hK) e5⟩
theorem Cv.zero {d : Nat} {K : Rat} (hK : 0 ≤ K) : Cv d K 0 := ⟨1, isI_one, Rat.le_refl, xb_one, by rw [Rat.mul_zero]; exact isI_zero, bd_zero (Rat.mul_nonneg (Rat.le_of_lt (rb_pos _)) hK)⟩
theorem Cv.add {d : Nat} {K q u : Rat} (h : Cv d K q) (hu : Du u) (hd : d ≤ 2) (hK : LB d ≤ K) : Cz d K (u + q) := by
  obtain ⟨e, e1, e2, e3, e4, e5⟩ := h
  refine ⟨e, e1, e2, e3, ?_, bd_mono ?_ (bd_add hu.2 e5)⟩
  · rw [show 6 * e * (u + q) = e * (6 * u) + 6 * e * q by grind]
    exact (e1.mul hu.1).add e4
  · have a := (rb_lb (show d ≤ 3 by omega)).2.1 hd
    have m := (rb_lb (show d ≤ 3 by omega)).2.2
    have b := Rat.mul_le_mul_of_nonneg_left hK (show 0 ≤ rb d - rb (d + 1) by grind)
    grind
theorem Cz.wz {d : Nat} {K q : Rat} (h : Cz d K q) (h1 : 1 ≤ d) (h3 : d ≤ 3) (hK : K ≤ KB d) : Wz q := by
  obtain ⟨e, e1, e2, e3, e4, e5⟩ := h
  have hd : d = 1 ∨ d = 2 ∨ d = 3 := by omega
  refine ⟨e, e1, e2, Rat.le_trans e3 ?_, e4, bd_mono (sc_le (Rat.le_of_lt (rb_pos d)) hK ?_) e5⟩
  · rcases hd with rfl | rfl | rfl <;> decide +kernel
  · rcases hd with rfl | rfl | rfl <;> decide +kernel
/-- a sum of weighed worths stays in bounds -/
theorem bd_w {m : Nat} {x c k : Nat → Rat} {R K : Rat} (hx : ∀ j, j < m → 0 ≤ x j) (hc : ∀ j, j < m → Bd (R * k j) (c j)) (hK : (S m fun j => x j * k j) = K) : Bd (R * K) (S m fun j => c j * x j) := by
  have e : R * K = S m fun j => R * k j * x j := by
    rw [← hK, ← S_mul]; exact S_congr fun j _ => by grind
  rw [e]
  constructor
  · have : -(S m fun j => R * k j * x j) = S m fun j => (-1) * (R * k j * x j) := by rw [S_mul]; grind
    rw [this]
    refine S_le fun j hj => ?_
    have := Rat.mul_le_mul_of_nonneg_right (hc j hj).1 (hx j hj)
    grind
  · exact S_le fun j hj => Rat.mul_le_mul_of_nonneg_right (hc j hj).2 (hx j hj)
theorem isI_prod4 {a b c e : Rat} (h1 : IsI a) (h2 : IsI b) (h3 : IsI c) (h4 : IsI e) : IsI (a * b - c * e) := (h1.mul h2).sub (h3.mul h4)
theorem one_le_int {z : Rat} (h : IsI z) (p : 0 < z) : 1 ≤ z := by
  obtain ⟨n, rfl⟩ := h
  have : (0 : Int) < n := by
    have h0 : ((0 : Int) : Rat) < (n : Rat) := by rw [Rat.intCast_zero]; exact p
    exact Rat.intCast_lt_intCast.mp h0
  have : ((1 : Int) : Rat) ≤ (n : Rat) := Rat.intCast_le_intCast.mpr (by omega)
  exact this
theorem mul3 {a b c A B C : Rat} (a0 : 0 ≤ a) (b0 : 0 ≤ b) (c0 : 0 ≤ c) (h1 : a ≤ A) (h2 : b ≤ B) (h3 : c ≤ C) : a * b * c ≤ A * B * C := by
  have p1 : a * b ≤ A * B := Rat.le_trans (Rat.mul_le_mul_of_nonneg_right h1 b0) (Rat.mul_le_mul_of_nonneg_left h2 (Rat.le_trans a0 h1))
  have n1 : 0 ≤ A * B := Rat.mul_nonneg (Rat.le_trans a0 h1) (Rat.le_trans b0 h2)
  exact Rat.le_trans (Rat.mul_le_mul_of_nonneg_right p1 c0) (Rat.mul_le_mul_of_nonneg_left h3 n1)
def KU : Nat → Rat
  | 1 => 51840
  | 2 => 720
  | _ => 10
def PU : Nat → Rat
  | 1 => 114048
  | 2 => 1584
  | _ => 22
theorem step_num {d : Nat} (hd : d ≤ 2) : Dd (d + 1) * KB (d + 1) ≤ KU (d + 1) ∧ Dd (d + 1) * PB (d + 1) ≤ PU (d + 1) ∧ 12 * KU (d + 1) * xb (d + 1) ≤ xb d ∧ 12 * (KU (d + 1) * PU (d + 1)) * (xb (d + 1) * xb (d + 1)) ≤ xb d ∧ 0 ≤ Dd (d + 1) ∧ 12 * Dd (d + 1) = Dd d := by
  have h3 : d = 0 ∨ d = 1 ∨ d = 2 := by omega
  rcases h3 with rfl | rfl | rfl <;> decide +kernel
theorem val_cv (h : T.Ok dep wt) {i : Nat} (hi : i < T.N) (hm : 0 < T.m i) {c : Nat → Rat} {q : Rat} (hc : ∀ j, j < T.m i → Cz (dep i + 1) (T.pr (T.kid i j) 0) (c j)) (v : IsVal 2 (T.m i) (T.col i) (T.pr i) c q) : Cv (dep i) (T.pr i 0) q := by
  have d2 := h.depLe hi hm
  have told := h.told hi
  obtain ⟨n1, n2, n3, n4, n5, n6⟩ := step_num d2
  have sc := h.scl hi hm
  have pi := h.pr i hi
  have bd : Bd (rb (dep i + 1) * T.pr i 0) q := by
    obtain ⟨x, x0, xw, xq⟩ := v.wt
    rw [← xq]
    exact bd_w x0 (fun j hj => let ⟨_, _, _, _, _, e5⟩ := hc j hj; e5) (xw 0 (by omega))
  have kidk : ∀ j, j < T.m i → 0 < T.col i j 0 ∧ 0 ≤ T.col i j 1 ∧ Dd (dep i + 1) * T.col i j 0 ≤ KU (dep i + 1) ∧ Dd (dep i + 1) * T.col i j 1 ≤ PU (dep i + 1) := fun j hj => by
    obtain ⟨a, b, cc, d, e⟩ := h.kid hj
    have p := h.pr _ a
    rw [e] at p
    exact ⟨told.kp j hj, p.pp, sc_le n5 p.kb n1, sc_le n5 p.pb n2⟩
  have o := sc.one
  have wI : ∀ k, k < 2 → IsI (Dd (dep i) * T.pr i k) := pi.int
  have x1 : 1 ≤ xb (dep i + 1) := xb_one
  obtain ⟨u, hu, rfl⟩ := cand_ex told v
  rcases hu with ⟨a, ha, et, rfl⟩ | ⟨a, b, ha, hb, l1, l2, rfl⟩
  · obtain ⟨e, e1, e2, e3, e4, e5⟩ := hc a ha
    obtain ⟨k0, p0, k1, p1⟩ := kidk a ha
    have eh := mul_hh (c := c) told ha
    have I1 := (sc.cl a 0 ha (by omega)).2
    have pos : 0 < Dd (dep i + 1) * T.col i a 0 := Rat.mul_pos (by grind) k0
    have one := one_le_int I1 pos
    refine ⟨12 * (Dd (dep i + 1) * T.col i a 0) * e, (isI12.mul I1).mul e1, ?_, ?_, ?_, bd⟩
    · have := Rat.mul_le_mul_of_nonneg_right one (show 0 ≤ e by grind)
      grind
    · refine Rat.le_trans (mul3 (by decide) (Rat.le_of_lt pos) (show 0 ≤ e by grind) (Rat.le_refl (a := 12)) k1 e3) n3
    · have : 6 * (12 * (Dd (dep i + 1) * T.col i a 0) * e) * (T.pr i 0 * hh (T.col i) c a) = (Dd (dep i) * T.pr i 0) * (6 * e * c a) := by
        rw [← n6, ← eh]; grind
      rw [this]; exact (wI 0 (by omega)).mul e4
  · obtain ⟨e, e1, e2, e3, e4, e5⟩ := hc a ha
    obtain ⟨f, f1, f2, f3, f4, f5⟩ := hc b hb
    obtain ⟨k0, p0, k1, p1⟩ := kidk a ha
    obtain ⟨k0', p0', k1', p1'⟩ := kidk b hb
    have eh := mul_hh (c := c) told ha
    have eh' := mul_hh (c := c) told hb
    have et := mul_tt told ha
    have et' := mul_tt told hb
    have ew := mul_here told
    have I1 := sc.cl a 0 ha (by omega)
    have I2 := sc.cl a 1 ha (by omega)
    have I3 := sc.cl b 0 hb (by omega)
    have I4 := sc.cl b 1 hb (by omega)
    obtain ⟨g0, g1, gl⟩ := lam l1 l2
    unfold mid
    generalize hdd : Dd (dep i + 1) = d at *
    generalize hD : Dd (dep i) = D0 at *
    have dpos : 0 < d := by grind
    -- the determinant
    let dl : Rat := d * T.col i a 0 * (d * T.col i b 1) - d * T.col i a 1 * (d * T.col i b 0)
    have dlI : IsI dl := isI_prod4 I1.2 I4.2 I2.2 I3.2
    have dle : dl = d * d * (T.col i a 0 * T.col i b 0 * (tt (T.col i) b - tt (T.col i) a)) := by
      show d * T.col i a 0 * (d * T.col i b 1) - d * T.col i a 1 * (d * T.col i b 0) = _
      rw [← et, ← et']; grind
    have dlp : 0 < dl := by
      rw [dle]
      exact Rat.mul_pos (Rat.mul_pos dpos dpos) (Rat.mul_pos (Rat.mul_pos k0 k0') (by grind))
    have one := one_le_int dlI dlp
    have dlb : dl ≤ KU (dep i + 1) * PU (dep i + 1) := by
      have a1 : 0 ≤ d * T.col i a 1 * (d * T.col i b 0) := Rat.mul_nonneg (Rat.mul_nonneg (Rat.le_of_lt dpos) p0) (Rat.mul_nonneg (Rat.le_of_lt dpos) (Rat.le_of_lt k0'))
      have a2 : d * T.col i a 0 * (d * T.col i b 1) ≤ KU (dep i + 1) * PU (dep i + 1) := Rat.le_trans (Rat.mul_le_mul_of_nonneg_right k1 (Rat.mul_nonneg (Rat.le_of_lt dpos) p0')) (Rat.mul_le_mul_of_nonneg_left p1' (Rat.le_trans (Rat.mul_nonneg (Rat.le_of_lt dpos) (Rat.le_of_lt k0)) k1))
      show d * T.col i a 0 * (d * T.col i b 1) - d * T.col i a 1 * (d * T.col i b 0) ≤ _
      grind
    refine ⟨12 * dl * (e * f), (isI12.mul dlI).mul (e1.mul f1), ?_, ?_, ?_, bd⟩
    · have q1 := Rat.mul_le_mul_of_nonneg_right e2 (show 0 ≤ f by grind)
      have q2 := Rat.mul_le_mul_of_nonneg_right one (show 0 ≤ e * f by grind)
      grind
    · have q : e * f ≤ xb (dep i + 1) * xb (dep i + 1) := Rat.le_trans (Rat.mul_le_mul_of_nonneg_right e3 (by grind)) (Rat.mul_le_mul_of_nonneg_left f3 (by grind))
      have ef0 : 0 ≤ e * f := Rat.mul_nonneg (by grind) (by grind)
      exact Rat.le_trans (mul3 (by decide) (Rat.le_of_lt dlp) ef0 (Rat.le_refl (a := 12)) dlb q) n4
    · generalize (here (T.pr i) - tt (T.col i) a) / (tt (T.col i) b - tt (T.col i) a) = l at *
      have hw : here (T.pr i) = tt (T.col i) a + l * (tt (T.col i) b - tt (T.col i) a) := by grind
      have x1e : D0 * T.pr i 0 * (d * T.col i b 1) - D0 * T.pr i 1 * (d * T.col i b 0) = 12 * (d * d) * (T.pr i 0 * T.col i b 0 * ((1 - l) * (tt (T.col i) b - tt (T.col i) a))) := by
        rw [← ew, ← et', hw, ← n6]; grind
      have x2e : D0 * T.pr i 1 * (d * T.col i a 0) - D0 * T.pr i 0 * (d * T.col i a 1) = 12 * (d * d) * (T.pr i 0 * T.col i a 0 * (l * (tt (T.col i) b - tt (T.col i) a))) := by
        rw [← ew, ← et, hw, ← n6]; grind
      have J1 : IsI (D0 * T.pr i 0 * (d * T.col i b 1) - D0 * T.pr i 1 * (d * T.col i b 0)) := isI_prod4 (wI 0 (by omega)) I4.2 (wI 1 (by omega)) I3.2
      have J2 : IsI (D0 * T.pr i 1 * (d * T.col i a 0) - D0 * T.pr i 0 * (d * T.col i a 1)) := isI_prod4 (wI 1 (by omega)) I1.2 (wI 0 (by omega)) I2.2
      have fin : 6 * (12 * dl * (e * f)) * (T.pr i 0 * (hh (T.col i) c a + l * (hh (T.col i) c b - hh (T.col i) c a))) =
          f * (6 * e * c a) * (D0 * T.pr i 0 * (d * T.col i b 1) - D0 * T.pr i 1 * (d * T.col i b 0)) + e * (6 * f * c b) * (D0 * T.pr i 1 * (d * T.col i a 0) - D0 * T.pr i 0 * (d * T.col i a 1)) := by
        rw [x1e, x2e, dle, ← eh, ← eh']; grind
      rw [fin]
      exact ((f1.mul e4).mul J1).add ((e1.mul f4).mul J2)
theorem tkv_cv (h : T.Ok dep wt) {i : Nat} (hi : i < T.N) {f : Nat → Rat} (hf : ∀ j, i < j → j < T.N → Cz (dep j) (T.pr j 0) (f j)) : Cv (dep i) (T.pr i 0) (tkv T i f) := by
  by_cases hm : T.m i = 0
  · rw [tkv_leaf h hi hm]; exact Cv.zero (Rat.le_of_lt ((h.pr i hi).kpos (h.d3 i hi)))
  · refine val_cv h hi (by omega) (fun j hj => ?_) (tkv_val h hi (by omega) f)
    obtain ⟨a, b, c, d, e⟩ := h.kid hj
    have := hf _ d a
    rw [e] at this
    exact this
end
/-! ### from the ends back -/
def bk (N : Nat) (G : Nat → (Nat → Rat) → Rat) : Nat → Nat → Rat
  | 0 => fun _ => 0
  | s + 1 => fun j => if j = N - 1 - s then G j (bk N G s) else bk N G s j
def back (N : Nat) (G : Nat → (Nat → Rat) → Rat) : Nat → Rat := bk N G N
theorem bk_stay {N : Nat} {G : Nat → (Nat → Rat) → Rat} {s : Nat} : ∀ t, s + t ≤ N → ∀ j, N - s ≤ j → j < N → bk N G (s + t) j = bk N G s j
  | 0, _, _, _, _ => rfl
  | t + 1, h, j, h1, h2 => by
    show (if j = N - 1 - (s + t) then G j (bk N G (s + t)) else bk N G (s + t) j) = _
    rw [if_neg (by omega)]
    exact bk_stay t (by omega) j h1 h2
theorem back_eq {N : Nat} {G : Nat → (Nat → Rat) → Rat} (hG : ∀ i f g, i < N → (∀ j, i < j → j < N → f j = g j) → G i f = G i g) {i : Nat} (hi : i < N) : back N G i = G i (back N G) := by
  have e1 : back N G i = bk N G (N - 1 - i + 1) i := by
    have := bk_stay (N := N) (G := G) (s := N - 1 - i + 1) i (by omega) i (by omega) hi
    rw [show N - 1 - i + 1 + i = N by omega] at this
    exact this
  rw [e1]
  show (if i = N - 1 - (N - 1 - i) then G i (bk N G (N - 1 - i)) else bk N G (N - 1 - i) i) = _
  rw [if_pos (by omega)]
  refine hG i _ _ hi fun j h1 h2 => ?_
  have := bk_stay (N := N) (G := G) (s := N - 1 - i) (i + 1) (by omega) j (by omega) h2
  rw [show N - 1 - i + (i + 1) = N by omega] at this
  exact this.symm
theorem back_ind {N : Nat} {P : Nat → Prop} (h : ∀ i, i < N → (∀ j, i < j → j < N → P j) → P i) : ∀ i, i < N → P i := by
  have : ∀ s, s ≤ N → ∀ i, N - s ≤ i → i < N → P i := fun s => by
    induction s with
    | zero => intro _ i h1 h2; omega
    | succ s ih =>
      intro hs i h1 h2
      exact h i h2 fun j h3 h4 => ih (by omega) j (by omega) h4
  exact fun i hi => this N (Nat.le_refl _) i (by omega) hi
end LP


/-! Costs: dues, offers, calls, several times. -/
namespace LP
set_option linter.all false
set_option exponentiation.threshold 3000
set_option maxHeartbeats 4000000
def mx (a b : Rat) : Rat := if a < b then b else a
def mn (a b : Rat) : Rat := if b < a then b else a
noncomputable def dueG (T : Tr) (du : Nat → Rat) (i : Nat) (f : Nat → Rat) : Rat := du i + tkv T i f
noncomputable def uncG (T : Tr) (o : Nat → Option Rat) (i : Nat) (f : Nat → Rat) : Rat := match o i with
  | none => tkv T i f
  | some q => mx (tkv T i f) q
noncomputable def offG (T : Tr) (o cl : Nat → Option Rat) (i : Nat) (f : Nat → Rat) : Rat := match cl i with
  | none => uncG T o i f
  | some c => mn (uncG T o i f) c
noncomputable def timG (T : Tr) (o : Nat → Option Rat) (g : Nat → Rat) (i : Nat) (f : Nat → Rat) : Rat := match o i with
  | none => tkv T i f
  | some q => mx (tkv T i f) (q + tkv T i g)
noncomputable def dueF (T : Tr) (du : Nat → Rat) : Nat → Rat := back T.N (dueG T du)
noncomputable def offF (T : Tr) (o cl : Nat → Option Rat) : Nat → Rat := back T.N (offG T o cl)
noncomputable def timF (T : Tr) (o : Nat → Option Rat) : Nat → Nat → Rat
  | 0 => fun _ => 0
  | t + 1 => back T.N (timG T o (timF T o t))
def DuO (N : Nat) (o : Nat → Option Rat) : Prop := ∀ i q, i < N → o i = some q → Du q
section
variable {T : Tr} {dep : Nat → Nat} {wt : Nat → Rat}
def CzF (T : Tr) (dep : Nat → Nat) (f : Nat → Rat) : Prop := ∀ i, i < T.N → Cz (dep i) (T.pr i 0) (f i)
theorem mx_cz {d : Nat} {K a b : Rat} (h1 : Cz d K a) (h2 : Cz d K b) : Cz d K (mx a b) := by
  unfold mx; split <;> assumption
theorem mn_cz {d : Nat} {K a b : Rat} (h1 : Cz d K a) (h2 : Cz d K b) : Cz d K (mn a b) := by
  unfold mn; split <;> assumption
theorem Tr.Ok.cvz (h : T.Ok dep wt) {i : Nat} (hi : i < T.N) {q : Rat} (v : Cv (dep i) (T.pr i 0) q) : Cz (dep i) (T.pr i 0) q := v.cz (h.d3 i hi) (Rat.le_of_lt ((h.pr i hi).kpos (h.d3 i hi)))
theorem Tr.Ok.duz (h : T.Ok dep wt) {i : Nat} (hi : i < T.N) {q : Rat} (v : Du q) : Cz (dep i) (T.pr i 0) q := v.cz (h.d3 i hi) (h.pr i hi).kp
theorem Tr.Ok.addz (h : T.Ok dep wt) {i : Nat} (hi : i < T.N) {q : Rat} {f : Nat → Rat} (v : Cv (dep i) (T.pr i 0) (tkv T i f)) (hq : Du q) : Cz (dep i) (T.pr i 0) (q + tkv T i f) := by
  by_cases hm : T.m i = 0
  · rw [tkv_leaf h hi hm, Rat.add_zero]; exact h.duz hi hq
  · exact v.add hq (h.depLe hi (by omega)) (h.pr i hi).kp
theorem due_local (h : T.Ok dep wt) (du : Nat → Rat) : ∀ i f g, i < T.N → (∀ j, i < j → j < T.N → f j = g j) → dueG T du i f = dueG T du i g := fun i f g hi e => by
  unfold dueG; rw [tkv_local h hi e]
theorem unc_local (h : T.Ok dep wt) (o : Nat → Option Rat) : ∀ i f g, i < T.N → (∀ j, i < j → j < T.N → f j = g j) → uncG T o i f = uncG T o i g := fun i f g hi e => by
  unfold uncG; rw [tkv_local h hi e]
theorem off_local (h : T.Ok dep wt) (o cl : Nat → Option Rat) : ∀ i f g, i < T.N → (∀ j, i < j → j < T.N → f j = g j) → offG T o cl i f = offG T o cl i g := fun i f g hi e => by
  unfold offG; rw [unc_local h o i f g hi e]
theorem tim_local (h : T.Ok dep wt) (o : Nat → Option Rat) (p : Nat → Rat) : ∀ i f g, i < T.N → (∀ j, i < j → j < T.N → f j = g j) → timG T o p i f = timG T o p i g := fun i f g hi e => by
  unfold timG; rw [tkv_local h hi e]
theorem due_eq (h : T.Ok dep wt) (du : Nat → Rat) {i : Nat} (hi : i < T.N) : dueF T du i = dueG T du i (dueF T du) := back_eq (due_local h du) hi
theorem off_eq (h : T.Ok dep wt) (o cl : Nat → Option Rat) {i : Nat} (hi : i < T.N) : offF T o cl i = offG T o cl i (offF T o cl) := back_eq (off_local h o cl) hi
theorem tim_eq (h : T.Ok dep wt) (o : Nat → Option Rat) (t : Nat) {i : Nat} (hi : i < T.N) : timF T o (t + 1) i = timG T o (timF T o t) i (timF T o (t + 1)) := back_eq (tim_local h o _) hi
theorem due_cz (h : T.Ok dep wt) {du : Nat → Rat} (hd : ∀ i, i < T.N → Du (du i)) : CzF T dep (dueF T du) := back_ind fun i hi ih => by
  rw [due_eq h du hi]
  exact h.addz hi (tkv_cv h hi ih) (hd i hi)
theorem unc_cz (h : T.Ok dep wt) {o : Nat → Option Rat} (ho : DuO T.N o) {i : Nat} (hi : i < T.N) {f : Nat → Rat} (hf : ∀ j, i < j → j < T.N → Cz (dep j) (T.pr j 0) (f j)) : Cz (dep i) (T.pr i 0) (uncG T o i f) := by
  have t := h.cvz hi (tkv_cv h hi hf)
  unfold uncG
  split
  · exact t
  · next q e => exact mx_cz t (h.duz hi (ho i q hi e))
theorem offG_cz (h : T.Ok dep wt) {o cl : Nat → Option Rat} (ho : DuO T.N o) (hc : DuO T.N cl) {i : Nat} (hi : i < T.N) {f : Nat → Rat} (hf : ∀ j, i < j → j < T.N → Cz (dep j) (T.pr j 0) (f j)) : Cz (dep i) (T.pr i 0) (offG T o cl i f) := by
  have u := unc_cz h ho hi hf
  unfold offG
  split
  · exact u
  · next c e => exact mn_cz u (h.duz hi (hc i c hi e))
theorem off_cz (h : T.Ok dep wt) {o cl : Nat → Option Rat} (ho : DuO T.N o) (hc : DuO T.N cl) : CzF T dep (offF T o cl) := back_ind fun i hi ih => by
  rw [off_eq h o cl hi]; exact offG_cz h ho hc hi ih
theorem zero_cz (h : T.Ok dep wt) : CzF T dep (fun _ => 0) := fun i hi => h.duz hi (show Du 0 from ⟨by rw [Rat.mul_zero]; exact isI_zero, by constructor <;> decide⟩)
theorem timG_cz (h : T.Ok dep wt) {o : Nat → Option Rat} (ho : DuO T.N o) {g : Nat → Rat} (hg : CzF T dep g) {i : Nat} (hi : i < T.N) {f : Nat → Rat} (hf : ∀ j, i < j → j < T.N → Cz (dep j) (T.pr j 0) (f j)) : Cz (dep i) (T.pr i 0) (timG T o g i f) := by
  have t := h.cvz hi (tkv_cv h hi hf)
  unfold timG
  split
  · exact t
  · next q e => exact mx_cz t (h.addz hi (tkv_cv h hi fun j _ hj => hg j hj) (ho i q hi e))
theorem tim_cz (h : T.Ok dep wt) {o : Nat → Option Rat} (ho : DuO T.N o) : ∀ t, CzF T dep (timF T o t)
  | 0 => zero_cz h
  | t + 1 => back_ind fun i hi ih => by
    rw [tim_eq h o t hi]; exact timG_cz h ho (tim_cz h ho t) hi ih
theorem Cz.fit {d : Nat} {K q : Rat} (h : Cz d K q) (hd : d ≤ 3) (hK : K ≤ KB d) (K0 : 0 ≤ K) : Fit q := by
  obtain ⟨e, e1, e2, e3, e4, e5⟩ := h
  have x : xb d ≤ 10 ^ 39 := by
    rcases dd_cases hd with rfl | rfl | rfl | rfl <;> decide +kernel
  have rk : rb d * K ≤ 3 * 10 ^ 6 := sc_le (Rat.le_of_lt (rb_pos d)) hK (by rcases dd_cases hd with rfl | rfl | rfl | rfl <;> decide +kernel)
  have b6 : Bd (6 * 10 ^ 39) (6 * e) := ⟨by grind, by grind⟩
  refine fitH (D := 6 * e) (B := 6 * 10 ^ 39) (K := 6 * 10 ^ 39 * (3 * 10 ^ 6)) (isI6.mul e1) (by grind) b6 (by decide +kernel) (by decide +kernel) ⟨e4, bd_mul b6 (bd_mono rk e5)⟩
theorem Tr.Ok.fitz (h : T.Ok dep wt) {i : Nat} (hi : i < T.N) {q : Rat} (v : Cz (dep i) (T.pr i 0) q) : Fit q := v.fit (h.d3 i hi) (h.pr i hi).kb (Rat.le_of_lt ((h.pr i hi).kpos (h.d3 i hi)))
theorem Du.fit {q : Rat} (h : Du q) : Fit q := fitH (D := 6) (B := 6) (K := 96) isI6 (by decide) (by constructor <;> decide) (by decide +kernel) (by decide +kernel) ⟨h.1, bd_mono (by decide +kernel) (bd_mul (A := 6) (B := 16) (by constructor <;> decide) h.2)⟩
theorem Tr.Ok.kidW (h : T.Ok dep wt) {i : Nat} {f : Nat → Rat} (hf : ∀ j, i < j → j < T.N → Cz (dep j) (T.pr j 0) (f j)) : ∀ j, j < T.m i → Wz (f (T.kid i j)) := fun j hj => by
  obtain ⟨a, b, c, d, e⟩ := h.kid hj
  exact (hf _ d a).wz (by omega) (h.d3 _ a) (h.pr _ a).kb
end
end LP


/-! Parts that the law's takes reckons stay in bounds. -/
namespace LP
set_option linter.all false
set_option exponentiation.threshold 3000
set_option maxHeartbeats 4000000
section
variable {T : Tr} {dep : Nat → Nat} {wt : Nat → Rat}
/-- a child's data in whole numbers -/
structure KidI (d D0 : Rat) (col : Nat → Nat → Rat) (c : Nat → Rat) (a : Nat) : Prop where
  p0 : 0 < d * col a 0
  i0 : IsI (d * col a 0)
  b0 : d * col a 0 ≤ 51840
  p1 : 0 ≤ d * col a 1
  i1 : IsI (d * col a 1)
  b1 : d * col a 1 ≤ 114048
  ce : ∃ e, IsI e ∧ 1 ≤ e ∧ e ≤ 10 ^ 14 ∧ IsI (6 * e * c a) ∧ Bd 121000 (c a)
  hb : Bd 672 (hh col c a)
structure NodI (d D0 : Rat) (want : Nat → Rat) : Prop where
  dI : IsI d
  d1 : 1 ≤ d
  d2 : d ≤ 288
  e12 : 12 * d = D0
  h0 : 0 < D0 * want 0
  i0 : IsI (D0 * want 0)
  b0 : D0 * want 0 ≤ 3732480
  h1 : 0 ≤ D0 * want 1
  i1 : IsI (D0 * want 1)
  b1 : D0 * want 1 ≤ 8211456
theorem bd_nn {x M : Rat} (h0 : 0 ≤ x) (h : x ≤ M) : Bd M x := ⟨by grind, h⟩
theorem Tr.Ok.nodI (h : T.Ok dep wt) {i : Nat} (hi : i < T.N) (hm : 0 < T.m i) : NodI (Dd (dep i + 1)) (Dd (dep i)) (T.pr i) := by
  have d2 := h.depLe hi hm
  have pi := h.pr i hi
  have kp := pi.kpos (h.d3 i hi)
  have s := h.scl hi hm
  have e := (step_num d2).2.2.2.2.2
  have num : 1 ≤ Dd (dep i + 1) ∧ Dd (dep i + 1) ≤ 288 ∧ 0 < Dd (dep i) ∧ Dd (dep i) * KB (dep i) ≤ 3732480 ∧ Dd (dep i) * PB (dep i) ≤ 8211456 := by
    have h3 : dep i = 0 ∨ dep i = 1 ∨ dep i = 2 := by omega
    rcases h3 with e | e | e <;> rw [e] <;> decide +kernel
  obtain ⟨n1, n2, n3, n4, n5⟩ := num
  exact ⟨Dd_int (by omega), n1, n2, e, Rat.mul_pos n3 kp, pi.int 0 (by omega), sc_le (Rat.le_of_lt n3) pi.kb n4, Rat.mul_nonneg (Rat.le_of_lt n3) pi.pp, pi.int 1 (by omega), sc_le (Rat.le_of_lt n3) pi.pb n5⟩
theorem Tr.Ok.kidI (h : T.Ok dep wt) {i : Nat} (hi : i < T.N) {a : Nat} (ha : a < T.m i) {c : Nat → Rat} (hc : Cz (dep i + 1) (T.pr (T.kid i a) 0) (c a)) : KidI (Dd (dep i + 1)) (Dd (dep i)) (T.col i) c a := by
  have hm : 0 < T.m i := by omega
  have d2 := h.depLe hi hm
  obtain ⟨a1, a2, a3, a4, e⟩ := h.kid ha
  have p := h.pr _ a1
  rw [e] at p
  have kp := p.kpos (by omega)
  have num : 0 < Dd (dep i + 1) ∧ Dd (dep i + 1) * KB (dep i + 1) ≤ 51840 ∧ Dd (dep i + 1) * PB (dep i + 1) ≤ 114048 ∧ xb (dep i + 1) ≤ 10 ^ 14 ∧ rb (dep i + 1) ≤ 672 ∧ 0 < rb (dep i + 1) ∧ rb (dep i + 1) * KB (dep i + 1) ≤ 121000 := by
    have h3 : dep i = 0 ∨ dep i = 1 ∨ dep i = 2 := by omega
    rcases h3 with e | e | e <;> rw [e] <;> decide +kernel
  obtain ⟨n1, n2, n3, n4, n5, n6, n7⟩ := num
  obtain ⟨x, x1, x2, x3, x4, x5⟩ := hc
  have kp' : 0 < T.col i a 0 := kp
  refine ⟨Rat.mul_pos n1 kp', p.int 0 (by omega), sc_le (Rat.le_of_lt n1) p.kb n2, Rat.mul_nonneg (Rat.le_of_lt n1) p.pp, p.int 1 (by omega), sc_le (Rat.le_of_lt n1) p.pb n3, ⟨x, x1, x2, Rat.le_trans x3 n4, x4, bd_mono (sc_le (Rat.le_of_lt n6) p.kb n7) x5⟩, ?_⟩
  have eh := mul_hh (c := c) (h.told hi) ha
  have x5 : Bd (rb (dep i + 1) * T.col i a 0) (c a) := x5
  rw [← eh] at x5
  refine bd_mono n5 ⟨?_, ?_⟩
  · refine Rat.not_lt.mp fun z => ?_
    have := Rat.mul_lt_mul_of_pos_left z kp'
    have := x5.1
    grind
  · refine Rat.not_lt.mp fun z => ?_
    have := Rat.mul_lt_mul_of_pos_left z kp'
    have := x5.2
    grind
end
section
variable {d D0 : Rat} {m : Nat} {col : Nat → Nat → Rat} {want c : Nat → Rat} {a b : Nat}
theorem hd_tt (Td : Told m col want) (ha : a < m) (k : KidI d D0 col c a) : Hd (d * col a 0) 114048 (tt col a) := by
  have e : d * col a 0 * tt col a = d * col a 1 := by rw [← mul_tt Td ha]; grind
  unfold Hd
  rw [e]
  exact ⟨k.i1, bd_nn k.p1 k.b1⟩
theorem fit_tt (Td : Told m col want) (ha : a < m) (k : KidI d D0 col c a) : Fit (tt col a) :=
  fitH k.i0 (by have := k.p0; grind) (bd_nn (Rat.le_of_lt k.p0) k.b0) (by decide +kernel) (by decide +kernel) (hd_tt Td ha k)
theorem hd_here (Td : Told m col want) (n : NodI d D0 want) : Hd (D0 * want 0) 8211456 (here want) := by
  have e : D0 * want 0 * here want = D0 * want 1 := by rw [← mul_here Td]; grind
  unfold Hd
  rw [e]
  exact ⟨n.i1, bd_nn n.h1 n.b1⟩
theorem fit_here (Td : Told m col want) (n : NodI d D0 want) : Fit (here want) :=
  fitH n.i0 (by have := n.h0; grind) (bd_nn (Rat.le_of_lt n.h0) n.b0) (by decide +kernel) (by decide +kernel) (hd_here Td n)
/-- heights -/
theorem hd_hh (Td : Told m col want) (n : NodI d D0 want) (ha : a < m) (k : KidI d D0 col c a) : ∃ D, IsI D ∧ 0 < D ∧ D ≤ 311040 * 10 ^ 14 ∧ Hd D (209088 * 10 ^ 17) (hh col c a) := by
  obtain ⟨e, e1, e2, e3, e4, e5⟩ := k.ce
  have i6 : IsI (6 * e) := isI6.mul e1
  have b6 : 6 * e ≤ 6 * 10 ^ 14 := by grind
  refine ⟨6 * e * (d * col a 0), i6.mul k.i0, Rat.mul_pos (by grind) k.p0, ?_, ?_⟩
  · have h1 := Rat.mul_le_mul_of_nonneg_right b6 (Rat.le_of_lt k.p0)
    have h2 := Rat.mul_le_mul_of_nonneg_left k.b0 (show (0 : Rat) ≤ 6 * 10 ^ 14 by decide +kernel)
    exact Rat.le_trans h1 (Rat.le_trans h2 (by decide +kernel))
  · have ee : 6 * e * (d * col a 0) * hh col c a = 6 * e * c a * d := by rw [← mul_hh (c := c) Td ha]; grind
    unfold Hd
    rw [ee]
    refine ⟨e4.mul n.dI, ?_⟩
    have b1 : Bd (6 * 10 ^ 14) (6 * e) := bd_nn (by grind) b6
    have b2 := bd_mul b1 e5
    have b3 : Bd 288 d := bd_nn (by have := n.d1; grind) n.d2
    exact bd_mono (by decide +kernel) (bd_mul b2 b3)
theorem fit_hh (Td : Told m col want) (n : NodI d D0 want) (ha : a < m) (k : KidI d D0 col c a) : Fit (hh col c a) := by
  obtain ⟨D, d1, d2, d3, d4⟩ := hd_hh Td n ha k
  exact fitH d1 (by grind) (bd_nn (Rat.le_of_lt d2) d3) (by decide +kernel) (by decide +kernel) d4
theorem fit_up (Td : Told m col want) (n : NodI d D0 want) (ha : a < m) (k : KidI d D0 col c a) : Fit (here want - tt col a) := by
  have b1 : Bd 51840 (d * col a 0) := bd_nn (Rat.le_of_lt k.p0) k.b0
  have b2 : Bd 3732480 (D0 * want 0) := bd_nn (Rat.le_of_lt n.h0) n.b0
  have x := (hd_here Td n).scale' (E := d * col a 0) k.i0 b1
  have y := (hd_tt Td ha k).scale (E := D0 * want 0) n.i0 b2
  exact fitH (n.i0.mul k.i0) (by have := Rat.mul_pos n.h0 k.p0; grind) (bd_mul b2 b1) (by decide +kernel) (by decide +kernel) (x.sub y)
theorem fit_wide (Td : Told m col want) (ha : a < m) (hb : b < m) (k : KidI d D0 col c a) (k' : KidI d D0 col c b) : Fit (tt col b - tt col a) := by
  have b1 : Bd 51840 (d * col a 0) := bd_nn (Rat.le_of_lt k.p0) k.b0
  have b2 : Bd 51840 (d * col b 0) := bd_nn (Rat.le_of_lt k'.p0) k'.b0
  have x := (hd_tt Td hb k').scale' (E := d * col a 0) k.i0 b1
  have y := (hd_tt Td ha k).scale (E := d * col b 0) k'.i0 b2
  exact fitH (k'.i0.mul k.i0) (by have := Rat.mul_pos k'.p0 k.p0; grind) (bd_mul b2 b1) (by decide +kernel) (by decide +kernel) (x.sub y)
theorem hd_diff (Td : Told m col want) (n : NodI d D0 want) (ha : a < m) (hb : b < m) (k : KidI d D0 col c a) (k' : KidI d D0 col c b) : ∃ D, IsI D ∧ 0 < D ∧ D ≤ 10 ^ 39 ∧ Hd D (14 * 10 ^ 41) (hh col c b - hh col c a) := by
  obtain ⟨D, d1, d2, d3, d4⟩ := hd_hh Td n ha k
  obtain ⟨E, e1, e2, e3, e4⟩ := hd_hh Td n hb k'
  have bD := bd_nn (Rat.le_of_lt d2) d3
  have bE := bd_nn (Rat.le_of_lt e2) e3
  have x := e4.scale' (E := D) d1 bD
  have y := d4.scale (E := E) e1 bE
  refine ⟨E * D, e1.mul d1, Rat.mul_pos e2 d2, ?_, (x.sub y).mono (by decide +kernel)⟩
  exact Rat.le_trans (bd_mul bE bD).2 (by decide +kernel)
theorem fit_diff (Td : Told m col want) (n : NodI d D0 want) (ha : a < m) (hb : b < m) (k : KidI d D0 col c a) (k' : KidI d D0 col c b) : Fit (hh col c b - hh col c a) := by
  obtain ⟨D, d1, d2, d3, d4⟩ := hd_diff Td n ha hb k k'
  exact fitH d1 (by grind) (bd_nn (Rat.le_of_lt d2) d3) (by decide +kernel) (by decide +kernel) d4
theorem hd_share (Td : Told m col want) (n : NodI d D0 want) (ha : a < m) (hb : b < m) (k : KidI d D0 col c a) (k' : KidI d D0 col c b) (l1 : tt col a < here want) (l2 : here want < tt col b) :
    ∃ D, IsI D ∧ 0 < D ∧ D ≤ 5 * 10 ^ 16 ∧ Hd D (5 * 10 ^ 16) ((here want - tt col a) / (tt col b - tt col a)) := by
  obtain ⟨_, _, gl⟩ := lam l1 l2
  have et := mul_tt Td ha
  have et' := mul_tt Td hb
  have ew := mul_here Td
  generalize (here want - tt col a) / (tt col b - tt col a) = l at *
  have dl : d * col a 0 * (d * col b 1) - d * col a 1 * (d * col b 0) = d * col a 0 * (d * col b 0) * (tt col b - tt col a) := by rw [← et, ← et']; grind
  have dlp : 0 < d * col a 0 * (d * col b 1) - d * col a 1 * (d * col b 0) := by
    rw [dl]; exact Rat.mul_pos (Rat.mul_pos k.p0 k'.p0) (by grind)
  have dI : IsI (d * col a 0 * (d * col b 1) - d * col a 1 * (d * col b 0)) := (k.i0.mul k'.i1).sub (k.i1.mul k'.i0)
  have a0 := Rat.le_of_lt k.p0
  have b0 := Rat.le_of_lt k'.p0
  have dlb : d * col a 0 * (d * col b 1) - d * col a 1 * (d * col b 0) ≤ 51840 * 114048 := by
    have h1 := (bd_mul (bd_nn a0 k.b0) (bd_nn k'.p1 k'.b1)).2
    have h2 := Rat.mul_nonneg k.p1 b0
    grind
  refine ⟨D0 * want 0 * (d * col a 0 * (d * col b 1) - d * col a 1 * (d * col b 0)), n.i0.mul dI, Rat.mul_pos n.h0 dlp, ?_, ?_⟩
  · exact Rat.le_trans (bd_mul (bd_nn (Rat.le_of_lt n.h0) n.b0) (bd_nn (Rat.le_of_lt dlp) dlb)).2 (by decide +kernel)
  · have e : D0 * want 0 * (d * col a 0 * (d * col b 1) - d * col a 1 * (d * col b 0)) * l = (D0 * want 1 * (d * col a 0) - D0 * want 0 * (d * col a 1)) * (d * col b 0) := by
      rw [dl]
      have : D0 * want 0 * (d * col a 0 * (d * col b 0) * (tt col b - tt col a)) * l = D0 * want 0 * (d * col a 0 * (d * col b 0)) * (l * (tt col b - tt col a)) := by grind
      rw [this, gl, ← ew, ← et]; grind
    unfold Hd
    rw [e]
    refine ⟨((n.i1.mul k.i0).sub (n.i0.mul k.i1)).mul k'.i0, ?_⟩
    have x := bd_mul (bd_nn n.h1 n.b1) (bd_nn a0 k.b0)
    have y := bd_mul (bd_nn (Rat.le_of_lt n.h0) n.b0) (bd_nn k.p1 k.b1)
    have z : Bd (8211456 * 51840 + 3732480 * 114048) (D0 * want 1 * (d * col a 0) - D0 * want 0 * (d * col a 1)) := ⟨by have := x.1; have := y.2; grind, by have := x.2; have := y.1; grind⟩
    exact bd_mono (by decide +kernel) (bd_mul z (bd_nn b0 k'.b0))
theorem fit_share (Td : Told m col want) (n : NodI d D0 want) (ha : a < m) (hb : b < m) (k : KidI d D0 col c a) (k' : KidI d D0 col c b) (l1 : tt col a < here want) (l2 : here want < tt col b) : Fit ((here want - tt col a) / (tt col b - tt col a)) := by
  obtain ⟨D, d1, d2, d3, d4⟩ := hd_share Td n ha hb k k' l1 l2
  exact fitH d1 (by grind) (bd_nn (Rat.le_of_lt d2) d3) (by decide +kernel) (by decide +kernel) d4
theorem fit_prod (Td : Told m col want) (n : NodI d D0 want) (ha : a < m) (hb : b < m) (k : KidI d D0 col c a) (k' : KidI d D0 col c b) (l1 : tt col a < here want) (l2 : here want < tt col b) : Fit ((here want - tt col a) / (tt col b - tt col a) * (hh col c b - hh col c a)) := by
  obtain ⟨D, d1, d2, d3, d4⟩ := hd_share Td n ha hb k k' l1 l2
  obtain ⟨E, e1, e2, e3, e4⟩ := hd_diff Td n ha hb k k'
  exact fitH (d1.mul e1) (by have := Rat.mul_pos d2 e2; grind) (bd_mul (bd_nn (Rat.le_of_lt d2) d3) (bd_nn (Rat.le_of_lt e2) e3)) (by decide +kernel) (by decide +kernel) (d4.mul e4)
theorem fit_mid (Td : Told m col want) (n : NodI d D0 want) (ha : a < m) (hb : b < m) (k : KidI d D0 col c a) (k' : KidI d D0 col c b) (l1 : tt col a < here want) (l2 : here want < tt col b) : Fit (mid col want c a b) := by
  obtain ⟨g0, g1, gl⟩ := lam l1 l2
  have eh := mul_hh (c := c) Td ha
  have eh' := mul_hh (c := c) Td hb
  have et := mul_tt Td ha
  have et' := mul_tt Td hb
  have ew := mul_here Td
  obtain ⟨e, e1, e2, e3, e4, e5⟩ := k.ce
  obtain ⟨f, f1, f2, f3, f4, f5⟩ := k'.ce
  have hbA := k.hb
  have hbB := k'.hb
  have n12 := n.e12
  unfold mid
  generalize (here want - tt col a) / (tt col b - tt col a) = l at *
  have hw : here want = tt col a + l * (tt col b - tt col a) := by grind
  have dle : d * col a 0 * (d * col b 1) - d * col a 1 * (d * col b 0) = d * col a 0 * (d * col b 0) * (tt col b - tt col a) := by rw [← et, ← et']; grind
  have dlp : 0 < d * col a 0 * (d * col b 1) - d * col a 1 * (d * col b 0) := by
    rw [dle]; exact Rat.mul_pos (Rat.mul_pos k.p0 k'.p0) (by grind)
  have dI : IsI (d * col a 0 * (d * col b 1) - d * col a 1 * (d * col b 0)) := (k.i0.mul k'.i1).sub (k.i1.mul k'.i0)
  have a0 := Rat.le_of_lt k.p0
  have b0 := Rat.le_of_lt k'.p0
  have dlb : d * col a 0 * (d * col b 1) - d * col a 1 * (d * col b 0) ≤ 51840 * 114048 := by
    have h1 := (bd_mul (bd_nn a0 k.b0) (bd_nn k'.p1 k'.b1)).2
    have h2 := Rat.mul_nonneg k.p1 b0
    grind
  -- 6 e f dl H0 mid is whole
  have J1 : IsI (D0 * want 0 * (d * col b 1) - D0 * want 1 * (d * col b 0)) := (n.i0.mul k'.i1).sub (n.i1.mul k'.i0)
  have J2 : IsI (D0 * want 1 * (d * col a 0) - D0 * want 0 * (d * col a 1)) := (n.i1.mul k.i0).sub (n.i0.mul k.i1)
  have x1e : D0 * want 0 * (d * col b 1) - D0 * want 1 * (d * col b 0) = D0 * want 0 * (d * col b 0) * ((1 - l) * (tt col b - tt col a)) := by
    rw [← ew, ← et', hw]; grind
  have x2e : D0 * want 1 * (d * col a 0) - D0 * want 0 * (d * col a 1) = D0 * want 0 * (d * col a 0) * (l * (tt col b - tt col a)) := by
    rw [← ew, ← et, hw]; grind
  have fin : 6 * (e * f) * (d * col a 0 * (d * col b 1) - d * col a 1 * (d * col b 0)) * (D0 * want 0) * (hh col c a + l * (hh col c b - hh col c a)) =
      d * (f * (6 * e * c a) * (D0 * want 0 * (d * col b 1) - D0 * want 1 * (d * col b 0)) + e * (6 * f * c b) * (D0 * want 1 * (d * col a 0) - D0 * want 0 * (d * col a 1))) := by
    rw [x1e, x2e, dle, ← eh, ← eh']; grind
  have ef : Bd (10 ^ 14 * 10 ^ 14) (e * f) := bd_mul (bd_nn (by grind) e3) (bd_nn (by grind) f3)
  have efp : 0 < e * f := Rat.mul_pos (by grind) (by grind)
  have b6 : Bd (6 : Rat) 6 := by constructor <;> decide
  have DI : IsI (6 * (e * f) * (d * col a 0 * (d * col b 1) - d * col a 1 * (d * col b 0)) * (D0 * want 0)) := ((isI6.mul (e1.mul f1)).mul dI).mul n.i0
  have DB := bd_mul (bd_mul (bd_mul b6 ef) (bd_nn (Rat.le_of_lt dlp) dlb)) (bd_nn (Rat.le_of_lt n.h0) n.b0)
  have Dp : 0 < 6 * (e * f) * (d * col a 0 * (d * col b 1) - d * col a 1 * (d * col b 0)) * (D0 * want 0) := Rat.mul_pos (Rat.mul_pos (Rat.mul_pos (by decide) efp) dlp) n.h0
  have mb : Bd 2016 (hh col c a + l * (hh col c b - hh col c a)) := by
    have lb : Bd 1 l := ⟨by grind, by grind⟩
    have db : Bd 1344 (hh col c b - hh col c a) := ⟨by have := hbA.2; have := hbB.1; grind, by have := hbA.1; have := hbB.2; grind⟩
    have pb := bd_mul lb db
    exact ⟨by have := pb.1; have := hbA.1; grind, by have := pb.2; have := hbA.2; grind⟩
  refine fitH DI (by grind) DB (by decide +kernel) (K := 6 * (10 ^ 14 * 10 ^ 14) * (51840 * 114048) * 3732480 * 2016) (by decide +kernel) ⟨?_, bd_mul DB mb⟩
  rw [fin]
  exact n.dI.mul (((f1.mul e4).mul J1).add ((e1.mul f4).mul J2))
end
end LP


/-! Parts that the law shows stay in bounds. -/
namespace LP
set_option linter.all false
set_option exponentiation.threshold 3000
set_option maxHeartbeats 4000000
section
variable {d D0 : Rat} {m : Nat} {col : Nat → Nat → Rat} {want c x y : Nat → Rat} {a b k : Nat}
theorem NodI.hd (n : NodI d D0 want) (hk : k < 2) : Hd D0 8211456 (want k) := by
  have : k = 0 ∨ k = 1 := by omega
  rcases this with rfl | rfl
  · exact ⟨n.i0, bd_nn (Rat.le_of_lt n.h0) (Rat.le_trans n.b0 (by decide +kernel))⟩
  · exact ⟨n.i1, bd_nn n.h1 n.b1⟩
theorem NodI.D0I (n : NodI d D0 want) : IsI D0 ∧ D0 ≠ 0 ∧ Bd 3456 D0 := by
  have e := n.e12
  have h1 := n.d1
  have h2 := n.d2
  refine ⟨by rw [← e]; exact isI12.mul n.dI, by grind, ⟨by grind, by grind⟩⟩
theorem NodI.dB (n : NodI d D0 want) : d ≠ 0 ∧ Bd 288 d := ⟨by have := n.d1; grind, by have := n.d1; have := n.d2; exact ⟨by grind, by grind⟩⟩
theorem KidI.hd (n : KidI d D0 col c a) (hk : k < 2) : Hd d 114048 (col a k) := by
  have : k = 0 ∨ k = 1 := by omega
  rcases this with rfl | rfl
  · exact ⟨n.i0, bd_nn (Rat.le_of_lt n.p0) (Rat.le_trans n.b0 (by decide +kernel))⟩
  · exact ⟨n.i1, bd_nn n.p1 n.b1⟩
theorem fit_yp (hy : Yz y) (n : NodI d D0 want) (hk : k < 2) : Fit (y k * want k) := by
  obtain ⟨E, e1, e2, e3, e4⟩ := hy
  obtain ⟨d1, d2, d3⟩ := n.D0I
  exact fitH (e1.mul d1) (by grind) (bd_mul e3 d3) (by decide +kernel) (by decide +kernel) ((e4 k hk).mul (n.hd hk))
theorem fit_yc (hy : Yz y) (n : NodI d D0 want) (ka : KidI d D0 col c a) : ∀ j, j ≤ 2 → Fit (S j fun k => y k * col a k) ∧ ∀ k, k < 2 → Fit (y k * col a k) := fun j hj => by
  obtain ⟨E, e1, e2, e3, e4⟩ := hy
  obtain ⟨d2, d3⟩ := n.dB
  have h : ∀ k, k < 2 → Hd (E * d) (10 ^ 47 * 114048) (y k * col a k) := fun k hk => (e4 k hk).mul (ka.hd hk)
  refine ⟨?_, fun k hk => fitH (e1.mul n.dI) (by grind) (bd_mul e3 d3) (by decide +kernel) (by decide +kernel) (h k hk)⟩
  have s := Hd.sum (n := j) fun k hk => h k (by omega)
  refine fitH (e1.mul n.dI) (by grind) (bd_mul e3 d3) (by decide +kernel) ?_ s
  have : (j : Rat) ≤ ((2 : Nat) : Rat) := Rat.natCast_le_natCast.mpr hj
  have := Rat.mul_le_mul_of_nonneg_right this (show (0 : Rat) ≤ 10 ^ 47 * 114048 by decide +kernel)
  exact Rat.le_trans this (by decide +kernel)
/-- what the sums add -/
def ext3 (col : Nat → Nat → Rat) (c : Nat → Rat) (j k : Nat) : Rat := if k < 2 then col j k else c j
theorem fit_xs (hx : Xz m x) (n : NodI d D0 want) (hm : m ≤ 4) (ka : ∀ a, a < m → KidI d D0 col c a) (hc : ∀ a, a < m → Du (c a)) : ∀ j, j ≤ m → ∀ k, Fit (S j fun a => x a * ext3 col c a k) ∧ ∀ a, a < m → Fit (x a * ext3 col c a k) := fun j hj k => by
  obtain ⟨D, d1, d2, d3, d4⟩ := hx
  obtain ⟨n2, n3⟩ := n.dB
  have b6 : Bd (6 : Rat) 6 := by constructor <;> decide
  have h : ∀ a, a < m → Hd (D * (d * 6)) (BEn * (114048 * 6)) (x a * ext3 col c a k) := fun a ha => by
    refine (d4 a ha).mul ?_
    unfold ext3
    by_cases hk : k < 2
    · rw [if_pos hk]
      exact (((ka a ha).hd hk).scale' isI6 b6).mono (by decide +kernel)
    · rw [if_neg hk]
      have : Hd 6 96 (c a) := ⟨(hc a ha).1, bd_mono (by decide +kernel) (bd_mul b6 (hc a ha).2)⟩
      exact (this.scale n.dI n3).mono (by decide +kernel)
  have DI : IsI (D * (d * 6)) := d1.mul (n.dI.mul isI6)
  have DB := bd_mul d3 (bd_mul n3 b6)
  refine ⟨?_, fun a ha => fitH DI (by grind) DB (by decide +kernel) (by decide +kernel) (h a ha)⟩
  have s := Hd.sum (n := j) fun a ha => h a (by omega)
  refine fitH DI (by grind) DB (by decide +kernel) ?_ s
  have : (j : Rat) ≤ ((4 : Nat) : Rat) := Rat.natCast_le_natCast.mpr (by omega)
  have := Rat.mul_le_mul_of_nonneg_right this (show (0 : Rat) ≤ BEn * (114048 * 6) by decide +kernel)
  exact Rat.le_trans this (by decide +kernel)
end
end LP


set_option Elab.async false
set_option linter.all false
set_option maxRecDepth 100000
set_option maxHeartbeats 4000000
/-! any, all of a generator expression over anything that PI serves, its element any expression (calls too). -/
namespace GA
open PySem PySem.Spec PyProof.Rows L2 GxR

/-- the context of a generator expression's frame -/
abbrev gblk (X : Cx) (A : Around) (s : Shared) (H : Hp) (cenv : Env) (fp : List Addr) : Cx :=
  { X with A := A, s_0 := s, H_0 := H, env := cenv, outer := X.stack, stack := cenv :: X.stack, ex := fp, fn := fun _ => false, pn := [], xe := fun _ _ => False }
section
variable {X : Cx} {pins : List (Addr × Obj)} {σ : L2.St} {H : Hp} {s : Shared}
theorem gen_start {scope : Scope} {own : List (Str × Nat)} {fp : List Addr} {A : Around} {code : Value} {h5 : Heap} {g5 : Array GenState} {t5 : Nat} {a : Addr} {go : Obj} {m0 : Str → Option Value}
    (I : Inv X pins σ H s) (ok : BlkOk X.N X.env.scope scope own) (hN : X.N.Nodup) (hcell : ∀ y ∈ scope.names, y.2 ≠ .cell) (hfp : ∀ b ∈ fp, FpOk X pins H b ∧ b < s.heap.objs.size)
    (hh : A.handled = none) (hAf : A.frames = some (genEnv scope (cloFrom X.env.cells scope.names []) s.heap.objs.size code builtinsNs X.env :: X.stack))
    (hg5 : AllBare g5) (hn : h5.Ns s.heap.objs.size m0) (hk : ∀ b o, s.heap.get? b = some o → h5.get? b = some o) (ha : s.heap.objs.size < a) (hga : h5.get? a = some go) (hgo : ∀ v, go.data ≠ .cell v) :
    Inv (gblk X A s H (genEnv scope (cloFrom X.env.cells scope.names []) s.heap.objs.size code builtinsNs X.env) fp) [(a, go)] (wipe σ (own.map (·.2))) H { s with heap := h5, gens := g5, toks := t5 } := by
  have hfree : ∀ y ∈ scope.names, y.2 = .free → ∃ c, X.env.cells.lookup y.1 = some c := fun y hy e => by
    rcases ok.free y hy e with k | k
    · exact I.ok.has _ (.inl k)
    · exact I.ok.has _ (.inr k)
  generalize hcenv : genEnv scope (cloFrom X.env.cells scope.names []) s.heap.objs.size code builtinsNs X.env = cenv at hAf ⊢
  have hL : cenv.locals = s.heap.objs.size := by rw [← hcenv]; rfl
  have hcl : cenv.cells = cloFrom X.env.cells scope.names [] := by rw [← hcenv]; rfl
  have hsc : cenv.scope = scope := by rw [← hcenv]; rfl
  have cm : ∀ {y c}, (y, c) ∈ cloFrom X.env.cells scope.names [] → X.env.cells.lookup y = some c ∧ c < s.heap.objs.size := fun {y c} hm => by
    rcases cloFrom_mem hm with hm | ⟨h1, rfl⟩
    · cases hm
    · obtain ⟨c, hc⟩ := hfree _ h1 rfl
      rw [hc]
      obtain ⟨w, z⟩ := I.cell _ _ hc
      exact ⟨rfl, z.lt⟩
  have mem : ∀ {y c}, cenv.cells.lookup y = some c → X.env.cells.lookup y = some c ∧ c < s.heap.objs.size := fun {y c} e => by
    rw [hcl] at e
    exact cm (PySem.mem_of_lookup e)
  have look : ∀ {y}, scope.names.lookup y = some .free → ∃ c, cenv.cells.lookup y = some c ∧ X.env.cells.lookup y = some c := fun {y} hl => by
    have hy : (y, NameKind.free) ∈ scope.names := PySem.mem_of_lookup hl
    obtain ⟨c', e'⟩ := mem_lookup (cloFrom_has (cells := X.env.cells) (acc := []) hy)
    rw [← hcl] at e'
    exact ⟨c', e', (mem e').1⟩
  have nostk : ∀ b, s.heap.objs.size ≤ b → b ∉ frs X.stack := fun b hb z => by
    rcases List.mem_cons.mp (I.stkSub b z) with z | z
    · exact Nat.lt_irrefl _ (Nat.lt_of_lt_of_le (z ▸ I.lt) hb)
    · exact I.nofs hb z
  have okB : (gblk X A s H cenv fp).Ok := by
    refine ⟨I.ok.mod, by show cenv.scope.kind = _; rw [hsc]; exact ok.kind, by show cenv.globals = _; rw [← hcenv]; exact I.ok.glob, by show cenv.builtins = _; rw [← hcenv]; rfl, by show s.heap.objs.size ≤ cenv.locals; rw [hL]; exact Nat.le_refl _,
      fun y z c e1 e2 => ?_, fun y hy => ?_, fun y c z e => absurd (show false = true from z) (by decide), fun _ => hh, hAf, .inr ⟨rfl, by show cenv.frame = some cenv.locals; rw [← hcenv]; rfl⟩, fun b hb => ⟨?_, fun y c e z => ?_⟩, I.bs, Nat.le_trans I.ok.bsz I.sz, fun b o e hb => ?_, fun b hb z => ?_, I.stack, I.stkFree⟩
    · exact I.ok.inj y z c (mem e1).1 (mem e2).1
    · show ∃ c, cenv.cells.lookup y = some c
      have key : ∀ k, cenv.kindOf y = some k → (k = .cell ∨ k = .free) → ∃ c, cenv.cells.lookup y = some c := fun k hk hk' => by
        unfold Env.kindOf at hk
        rw [hsc] at hk
        rcases hk' with rfl | rfl
        · exact absurd rfl (hcell _ (PySem.mem_of_lookup hk))
        · obtain ⟨c, h1, _⟩ := look hk
          exact ⟨c, h1⟩
      rcases hy with hy | hy
      · exact key _ hy (.inl rfl)
      · exact key _ hy (.inr rfl)
    · show b ≠ cenv.locals
      rw [hL]; exact Nat.ne_of_lt (hfp b hb).2
    · have e : cenv.cells.lookup y = some c := e
      exact (hfp b hb).1.2.2.2.2.1 y c (mem e).1 z
    · rcases (hfp b hb).1.2.2.2.1 with z | z
      · exact I.ok.noex b o e z
      · exact absurd (Nat.lt_of_lt_of_le (Heap.lt_size e) (Nat.le_trans I.ok.bsz z)) (Nat.lt_irrefl _)
    · rcases List.mem_cons.mp (I.stkSub b z) with z | z
      · exact (hfp b hb).1.2.1 z
      · exact (hfp b hb).1.2.2.1 z
  refine ⟨okB, rfl, hg5, Un.kept hk, ⟨m0, ?_, fun i y av e1 e2 e3 => ?_⟩, fun y c e => ?_, ?_, fun y c e => ?_, fun p hp => ?_, I.hok.kept hk, by rw [wipe_length]; exact I.len⟩
  · show Heap.Ns _ cenv.locals _
    rw [hL]
    exact hn
  · obtain ⟨e2, hne⟩ := wipe_some e2
    have hfr : scope.names.lookup y = some .free := by
      have key : ∀ k, cenv.scope.names.lookup y = some k → k = .local ∨ k = .cell ∨ k = .free → scope.names.lookup y = some .free := fun k hk hk' => by
        rw [hsc] at hk
        have no : ¬ (k = .local ∨ k = .cell) := fun hh => by
          rcases ok.own _ (PySem.mem_of_lookup hk) hh with e' | e'
          · obtain ⟨p, hp, hpy⟩ := List.mem_map.mp e'
            have e3 := ok.ix p hp
            have : p.1 = y := hpy
            rw [this] at e3
            exact hne (List.mem_map.mpr ⟨p, hp, nodup_ix hN e3 e1⟩)
          · exact e' (List.mem_of_getElem? e1)
        rcases hk' with rfl | rfl | rfl
        · exact absurd (.inl rfl) no
        · exact absurd (.inr rfl) no
        · exact hk
      have e3 : Vis cenv.scope y := e3
      rcases e3 with e3 | e3 | e3
      · exact key _ e3 (.inl rfl)
      · exact key _ e3 (.inr (.inl rfl))
      · exact key _ e3 (.inr (.inr rfl))
    obtain ⟨m, hn, hl⟩ := I.loc
    have hvis : Vis X.env.scope y := (ok.free _ (PySem.mem_of_lookup hfr) rfl).elim (fun k => .inr (.inl k)) (fun k => .inr (.inr k))
    obtain ⟨w, r, q⟩ := hl i y av e1 e2 hvis
    refine ⟨w, r, .inr ⟨.inr (by show cenv.scope.names.lookup y = _; rw [hsc]; exact hfr), ?_⟩⟩
    obtain ⟨c, h1, h2⟩ := look hfr
    rcases q with ⟨k, _⟩ | ⟨_, c', e', z⟩
    · have k : X.env.scope.names.lookup y = some .local := k
      rcases ok.free _ (PySem.mem_of_lookup hfr) rfl with k' | k' <;> rw [show X.env.scope.names.lookup y = _ from k'] at k <;> cases k
    · rw [h2] at e'; cases e'
      exact ⟨c, h1, z.keeps hk⟩
  · have e : cenv.cells.lookup y = some c := e
    obtain ⟨w, z⟩ := I.cell y c (mem e).1
    exact ⟨w, z.keeps hk⟩
  · show H cenv.locals = none
    rw [hL]; exact I.hok.fresh (Nat.le_refl _)
  · have e : cenv.cells.lookup y = some c := e
    exact I.freeC y c (mem e).1
  · have hp : p ∈ [(a, go)] := by simpa using hp
    rw [List.mem_singleton.mp hp]
    exact ⟨hga, I.hok.fresh (Nat.le_of_lt ha), by show a ≠ cenv.locals; rw [hL]; exact Nat.ne_of_gt ha, nostk a (Nat.le_of_lt ha), hgo⟩

/-! ### the protocol -/
/-- the consumer changes nothing but which generators run -/
structure Sim (s s' : Shared) : Prop where
  heap : s'.heap = s.heap
  os : s'.os = s.os
  bare : AllBare s'.gens
theorem Inv.sim {s' : Shared} (I : Inv X pins σ H s) (z : Sim s s') : Inv X pins σ H s' := by
  obtain ⟨h1, h2, h3⟩ := z
  exact ⟨I.ok, h2.trans I.os, h3, by rw [h1]; exact I.base, by rw [h1]; exact I.loc, fun x c e => by rw [h1]; exact I.cell x c e, I.free, I.freeC, fun p hp => by rw [h1]; exact I.pin p hp, by rw [h1]; exact I.hok, I.len⟩
end
/-- an item: stopB ends the walk -/
def GYi (XG : Cx) (pins : List (Addr × Obj)) (σw : L2.St) (stopB : Bool) (Q : Hp → Prop) : Protocol := fun _ _ v s kap =>
  ∃ (b : Bool) (H : Hp), v = .bool b ∧ Inv XG pins σw H s ∧ (if b = stopB then Q H else ∀ s'', Sim s s'' → kap (.send .none) s'')
def GEnd (XG : Cx) (pins : List (Addr × Obj)) (σw : L2.St) (Qe : Hp → Prop) : Nat → Shared → Shared → Prop := fun _ _ s => ∃ H, Inv XG pins σw H s ∧ Qe H

/-- the walk's plan -/
def Plan (J : It) (stopB : Bool) (g : TG) (te : TE) (vs : List Nat) (σ : L2.St) (Qe Qs : Hp → Prop) (W : Nat → Nat → Hp → Prop) : Prop := ∀ i m H, W i m H →
  (J.stop i H ∧ Qe H) ∨ (J.go i H ∧ ∃ Nx : Hp → Prop, (∀ H', Nx H' → ∃ m', m' < m ∧ W (i + 1) m' H') ∧ ∀ x H', J.yld i H x H' → g x (wipe σ vs) H' fun σ2 H2 => wipe σ2 vs = wipe σ vs ∧
    te σ2 H2 fun y H3 => ∃ b, y = .bl b ∧ if b = stopB then Qs H3 else Nx H3)

section
variable {X : Cx} {A1 : Around} {elt tg iter : Expr} {scope : Scope} {gpos : Pos} {cenv : Env} {it : Addr} {fp : List Addr} {s4 : Shared} {H4 : Hp} {pn : List (Addr × Obj)} {σ : L2.St} {vs : List Nat} {g : TG} {te : TE} {J : It} {tn : Nat → Heap → Prop}
  {stopB : Bool} {Qe Qs : Hp → Prop} {W : Nat → Nat → Hp → Prop}
abbrev gA (A1 : Around) (elt tg iter : Expr) (scope : Scope) (gpos : Pos) (it : Addr) (cenv : Env) : Around := A1.over (.compLoop (.GeneratorExp elt [⟨tg, iter, [], 0⟩] scope gpos) 0 (.ref it) .none cenv) []
theorem gen_seg (hcalm : X.calm = true) (hco : cenv.scope.isCoroutine = false)
    (T : Turn X.prog X.w X.K tg J fp it tn) (hpn : ∀ p ∈ pn, ∀ b ∈ fp, p.1 ≠ b)
    (hg : PG (gblk X (gA A1 elt tg iter scope gpos it cenv) s4 H4 cenv fp) tg g) (he : PE (gblk X (gA A1 elt tg iter scope gpos it cenv) s4 H4 cenv fp) elt te)
    (plan : Plan J stopB g te vs σ Qe Qs W) :
    ∀ (m i : Nat) (s : Shared) (H : Hp), Inv (gblk X (gA A1 elt tg iter scope gpos it cenv) s4 H4 cenv fp) pn (wipe σ vs) H s → tn i s.heap → (∀ b ∈ fp, H b = none) → W i m H → ∀ (n : Nat) (s₀ : Shared), m < n →
      Seg (model X.prog X.w) A1 (fun n s₀ r s₁ => r = .ok .next ∧ GEnd (gblk X (gA A1 elt tg iter scope gpos it cenv) s4 H4 cenv fp) pn (wipe σ vs) Qe n s₀ s₁) (GYi (gblk X (gA A1 elt tg iter scope gpos it cenv) s4 H4 cenv fp) pn (wipe σ vs) stopB Qs) n s₀
        (.compLoop (.GeneratorExp elt [⟨tg, iter, [], 0⟩] scope gpos) 0 (.ref it) .none cenv)
        ((model X.prog X.w).den (.compLoop (.GeneratorExp elt [⟨tg, iter, [], 0⟩] scope gpos) 0 (.ref it) .none cenv)) [] s := by
  have stat : ∀ {pl : List (Addr × Obj)} {σ' : L2.St} {H' : Hp} {s' : Shared}, Inv (gblk X (gA A1 elt tg iter scope gpos it cenv) s4 H4 cenv fp) pn σ' H' s' → (∀ b ∈ fp, H' b = none) → ∀ b ∈ fp, FpOk (gblk X (gA A1 elt tg iter scope gpos it cenv) s4 H4 cenv fp) pn H' b := fun {pl σ' H' s'} I' hn b hb =>
    ⟨hn b hb, (I'.ok.exf b hb).1, I'.ok.exfs b hb, .inl hb, fun x c e => (I'.ok.exf b hb).2 x c e, fun p hp => hpn p (by simpa using hp) b hb⟩
  intro m
  induction m using Nat.strongRecOn with
  | ind m ih =>
    intro i s H I st nf w n s₀ hmn
    show Seg _ A1 _ _ _ s₀ _ ((compTurn (.GeneratorExp elt [⟨tg, iter, [], 0⟩] scope gpos) 0 (.ref it) .none cenv).onRaise (leaving cenv)) [] s
    rw [compTurn_gen, Sem.onRaise_eq_wrap]
    refine seg_bind_wrap (wpAny_standAt ?_)
    rcases plan i m H w with ⟨stop, qq⟩ | ⟨go, Nx, hNx, step⟩
    · have td := T.done (gblk X (gA A1 elt tg iter scope gpos it cenv) s4 H4 cenv fp) rfl rfl rfl hcalm i pn s _ H (fun _ _ => False) I (stat (pl := []) I nf) st stop
      refine seg_bind_wrap (thnF td fun r s6 ⟨hr, I6⟩ => ?_)
      subst hr
      exact seg_end (.ok .next) ⟨rfl, H, I6, qq⟩
    · have ti := T.item (gblk X (gA A1 elt tg iter scope gpos it cenv) s4 H4 cenv fp) rfl rfl rfl hcalm i pn s _ H (fun _ _ => False) I (stat (pl := []) I nf) st go
      refine seg_bind_wrap (thnF ti fun r s6 ⟨u, hr, h6⟩ => ?_)
      subst hr
      refine seg_bind_wrap (thnF h6 fun _ s7 ⟨x, H7, I7, r7, y7, st7, n7⟩ => ?_)
      have I7' := I7.pinned (stat (pl := []) I7 n7) (T.obj _ _ st7)
      refine seg_bind_wrap (thnF (hg.run _ s7 _ H7 x u _ I7' r7 (step x H7 y7)) fun _ s8 ⟨σ8, H8, I8, hw8, q8⟩ => ?_)
      simp only [List.forIn_nil]
      refine seg_bind_wrap (wpAny_pure ?_)
      simp only [if_true]
      have hy : ∀ v, yieldOut cenv v = yieldValue v := fun v => by simp only [yieldOut, hco, Bool.false_eq_true, if_false]
      simp only [hy]
      rw [Sem.bind_eq_wrap', Sem.bind_eq_wrap', Sem.wrap_wrap, Sem.wrap_wrap]
      refine seg_wrap (thnF (he.run _ s8 σ8 H8 _ I8 q8) fun z s10 ⟨yv, H10, I10, r10, b, hyv, hb⟩ => ?_)
      subst hyv
      have hz : z = .bool b := r10
      subst hz
      have hl : (wipe σ vs).length = σ8.length := by rw [← hw8, wipe_length]
      have I10' : Inv (gblk X (gA A1 elt tg iter scope gpos it cenv) s4 H4 cenv fp) pn (wipe σ vs) H10 s10 := (I10.unpinned (pins := pn)).weak hl (fun j v e => by
        rw [← hw8] at e
        exact (wipe_some e).1)
      have pin' : ∀ b ∈ fp, ∀ o, s7.heap.get? b = some o → s10.heap.get? b = some o ∧ H10 b = none := fun b hb o e =>
        let z := I10.pin (b, o) (List.mem_append_right _ (List.mem_append_right _ (mem_pinsAt hb e)))
        ⟨z.1, z.2.1⟩
      have st10 : tn (i + 1) s10.heap := T.keep _ _ _ st7 fun b hb o e => (pin' b hb o e).1
      have n10 : ∀ b ∈ fp, H10 b = none := fun b hb => by
        obtain ⟨o, e, _⟩ := T.obj _ _ st7 b hb
        exact (pin' b hb o e).2
      cases n with
      | zero => omega
      | succ n =>
        refine seg_at (seg_yield rfl rfl rfl ⟨b, H10, rfl, I10', ?_⟩)
        by_cases hbs : b = stopB
        · rw [if_pos hbs] at hb ⊢
          exact hb
        · rw [if_neg hbs] at hb ⊢
          obtain ⟨m', hm, w'⟩ := hNx H10 hb
          intro s'' hsim
          refine seg_again rfl (ih m' hm (i + 1) s'' H10 (Inv.sim I10' hsim) (by rw [hsim.heap]; exact st10) n10 w' n s'' (by omega))

theorem gen_seg0 (hcalm : X.calm = true) (hco : cenv.scope.isCoroutine = false)
    (T : Turn X.prog X.w X.K tg J fp it tn) (hpn : ∀ p ∈ pn, ∀ b ∈ fp, p.1 ≠ b)
    (hg : PG (gblk X (gA A1 elt tg iter scope gpos it cenv) s4 H4 cenv fp) tg g) (he : PE (gblk X (gA A1 elt tg iter scope gpos it cenv) s4 H4 cenv fp) elt te)
    (plan : Plan J stopB g te vs σ Qe Qs W) {m : Nat} {s : Shared} {H : Hp} (I : Inv (gblk X (gA A1 elt tg iter scope gpos it cenv) s4 H4 cenv fp) pn (wipe σ vs) H s) (st : tn 0 s.heap) (nf : ∀ b ∈ fp, H b = none) (w : W 0 m H) {n : Nat} (s₀ : Shared) (hmn : m < n) :
      Seg (model X.prog X.w) A1 (fun n s₀ r s₁ => r = .ok .next ∧ GEnd (gblk X (gA A1 elt tg iter scope gpos it cenv) s4 H4 cenv fp) pn (wipe σ vs) Qe n s₀ s₁) (GYi (gblk X (gA A1 elt tg iter scope gpos it cenv) s4 H4 cenv fp) pn (wipe σ vs) stopB Qs) n s₀
        (.compStart (.GeneratorExp elt [⟨tg, iter, [], 0⟩] scope gpos) 0 (.ref it) .none cenv)
        ((model X.prog X.w).den (.compStart (.GeneratorExp elt [⟨tg, iter, [], 0⟩] scope gpos) 0 (.ref it) .none cenv)) [] s := by
  have loop := gen_seg hcalm hco T hpn hg he plan m 0 s H I st nf w n s₀ hmn
  show Seg _ A1 _ _ _ s₀ _ ((compStart (.GeneratorExp elt [⟨tg, iter, [], 0⟩] scope gpos) 0 (.ref it) .none cenv).onRaise (leaving cenv)) [] s
  unfold compStart
  rw [Sem.onRaise_eq_wrap]
  show Seg _ A1 _ _ _ s₀ _ ((ask >>= _).wrap _ _ _ _) [] s
  refine seg_bind_wrap (wpAny_askSetting ?_)
  split
  · exact seg_again rfl loop
  · first
      | exact seg_bind_wrap (wpAny_rule (seg_bind_wrap (wpAny_standAt (seg_bind_wrap (T.self _ 0 s _ _ st (seg_again rfl loop))))))
      | (refine seg_bind_wrap (wpAny_rule ?_); show Seg _ A1 _ _ _ s₀ _ ((standAt iter.pos >>= _).wrap _ _ _ _) [] s; exact seg_bind_wrap (wpAny_standAt (seg_bind_wrap (T.self _ 0 s _ _ st (seg_again rfl loop)))))
end

/-! ### the consumer -/
structure Ready (M : Model) (A1 : Around) (R : GenEnd) (Y : Protocol) (a : Addr) (g n : Nat) (s : Shared) : Prop where
  lim : s.heap.NoLimit
  gen : s.heap.IsGen a g
  go : ∃ gs, s.gens[g]? = some gs ∧ ∀ s'', Sim s s'' → gs.Goes M A1 R Y n (.send .none) s''
  bare : AllBare s.gens
theorem setGen_bare {s : Shared} {g : Nat} {x : GenState} (h : AllBare s.gens) (hx : x.bare = true) : AllBare (s.setGen g x).gens := by
  intro y hy
  simp only [Shared.setGen] at hy
  rcases Array.mem_or_eq_of_mem_setIfInBounds hy with z | z
  · exact h y z
  · rw [z]; exact hx
theorem setGen_at {s : Shared} {g : Nat} {x : GenState} (h : g < s.gens.size) : (s.setGen g x).gens[g]? = some x := by
  simp [Shared.setGen, h]
theorem sim_setGen {s : Shared} {g : Nat} {x : GenState} (h : AllBare s.gens) (hx : x.bare = true) : Sim s (s.setGen g x) := ⟨rfl, rfl, setGen_bare h hx⟩
theorem Sim.trans {a b c : Shared} (x : Sim a b) (y : Sim b c) : Sim a c := ⟨y.heap.trans x.heap, y.os.trans x.os, y.bare⟩
section
variable {XG : Cx} {pn : List (Addr × Obj)} {σw : L2.St} {stopB : Bool} {Qe Qs : Hp → Prop} {A : Around} {a : Addr} {go : Obj} {g : Nat} {nm qn : Value}
/-- one next of the generator -/
theorem next_gen {n : Nat} {s : Shared} {E : Value → Shared → Prop} {Q : Option Value → Shared → Prop} (hh : A.handled = none) (hroom : A.depth < recursionLimit) (hpa : (a, go) ∈ pn)
    (hgo : go.cls = .type "generator" ∧ go.data = .fields #[.int g 0, nm, qn] ∧ go.slots = #[])
    (r : Ready (model XG.prog XG.w) A.in1 (fun n s₀ r s₁ => r = .ok .next ∧ GEnd XG pn σw Qe n s₀ s₁) (GYi XG pn σw stopB Qs) a g n s)
    (hE : ∀ s' H, Inv XG pn σw H s' → Qe H → Q none s')
    (hS : ∀ s' H, Inv XG pn σw H s' → Qs H → Q (some (.bool stopB)) s')
    (hC : ∀ s' m, m < n → Ready (model XG.prog XG.w) A.in1 (fun n s₀ r s₁ => r = .ok .next ∧ GEnd XG pn σw Qe n s₀ s₁) (GYi XG pn σw stopB Qs) a g m s' → Q (some (.bool (!stopB))) s') :
    wpAny (model XG.prog XG.w) A (pyNext (.ref a)) Q E s := by
  obtain ⟨hl, hg, ⟨gs, hgs, hgoes⟩, hb⟩ := r
  have hlt : g < s.gens.size := by
    obtain ⟨h, _⟩ := Array.getElem?_eq_some_iff.mp hgs
    exact h
  have fin : wpAny (model XG.prog XG.w) A (pyNext (.ref a)) (fun r s' => s.gens.size ≤ s'.gens.size → Q r s') (fun e s' => s.gens.size ≤ s'.gens.size → E e s') s := by
    refine wpAny_pyNext_genexpQ (P := fun n s₀ s₁ => GEnd XG pn σw Qe n s₀ s₁) hh hl hroom hg hgs (hgoes _ (sim_setGen hb rfl)) (fun v s₁ gs' hgb hv => ?_) (fun s₁ hp h' hk => ?_)
    · intro hsz
      obtain ⟨b, H, rfl, I, hq⟩ := hv
      have hsz' : s.gens.size ≤ s₁.gens.size := by
        rw [GenW.setGen_size] at hsz
        exact hsz
      have sm : Sim s₁ (s₁.setGen g gs') := sim_setGen I.bare hgb
      by_cases hbs : b = stopB
      · rw [if_pos hbs] at hq
        rw [hbs]
        exact hS _ H (Inv.sim I sm) hq
      · rw [if_neg hbs] at hq
        have hbn : b = !stopB := by cases b <;> cases stopB <;> simp_all
        rw [hbn]
        have J := Inv.sim I sm
        have ea : (s₁.setGen g gs').heap.get? a = some go := (J.pin (a, go) (List.mem_append_right _ hpa)).1
        cases n with
        | zero => exact False.elim (hq s₁ ⟨rfl, rfl, I.bare⟩)
        | succ m =>
          refine hC _ m (Nat.lt_succ_self m) ⟨J.nolimit, ⟨go, nm, qn, ea, hgo.1, hgo.2.1, hgo.2.2⟩, ⟨gs', setGen_at (Nat.lt_of_lt_of_le hlt hsz'), fun s'' z => hq s'' (Sim.trans sm z)⟩, J.bare⟩
    · intro hsz
      obtain ⟨H, I, hq⟩ := hp
      have J := Inv.sim I (sim_setGen (g := g) (x := .finished) I.bare rfl)
      exact hE _ H (Inv.kept (t' := (s₁.setGen g .finished).toks) J hk) hq
  exact GenW.wpAny_gsz (Nat.le_refl _) fin
theorem any_loop (hh : A.handled = none) (hroom : A.depth < recursionLimit) (hpa : (a, go) ∈ pn) (hgo : go.cls = .type "generator" ∧ go.data = .fields #[.int g 0, nm, qn] ∧ go.slots = #[]) {Rc : Result → Shared → Prop}
    (hE : ∀ s' H, Inv XG pn σw H s' → Qe H → Rc (.ok (.ret (.bool false))) s') (hS : ∀ s' H, Inv XG pn σw H s' → Qs H → Rc (.ok (.ret (.bool true))) s') :
    ∀ (n : Nat) (s : Shared), Ready (model XG.prog XG.w) A.in1.in1 (fun n s₀ r s₁ => r = .ok .next ∧ GEnd XG pn σw Qe n s₀ s₁) (GYi XG pn σw true Qs) a g n s →
      codeAny (model XG.prog XG.w) A (.builtin "any.loop" ⟨[.ref a], []⟩) Rc s := by
  intro n
  induction n using Nat.strongRecOn with
  | ind n ih =>
    intro s r
    refine codeAny_builtin F.entry_any_loop ?_
    rw [Around.under_plainId F.plain_any_loop _]
    show wpAny _ A.in1 (pyNext (.ref a) >>= _) _ _ s
    refine wpAny_bind (next_gen (A := A.in1) hh hroom hpa hgo r (fun s' H I q => ?_) (fun s' H I q => ?_) fun s' m hm r' => ?_)
    · exact wpAny_bind (wpAny_rule (wpAny_pure (hE s' H I q)))
    · refine wpAny_bind (wpAny_holding (wpAny_truthy_bool ?_))
      refine wpAny_bind (wpAny_letGo ?_)
      simp only [if_true]
      exact wpAny_bind (wpAny_rule (wpAny_pure (hS s' H I q)))
    · refine wpAny_bind (wpAny_holding (wpAny_truthy_bool ?_))
      refine wpAny_bind (wpAny_letGo ?_)
      simp only [Bool.not_true, Bool.false_eq_true, if_false]
      exact wpAny_pure ⟨plainId_quiet F.plain_any_loop _, ih m hm s' r'⟩
theorem all_loop (hh : A.handled = none) (hroom : A.depth < recursionLimit) (hpa : (a, go) ∈ pn) (hgo : go.cls = .type "generator" ∧ go.data = .fields #[.int g 0, nm, qn] ∧ go.slots = #[]) {Rc : Result → Shared → Prop}
    (hE : ∀ s' H, Inv XG pn σw H s' → Qe H → Rc (.ok (.ret (.bool true))) s') (hS : ∀ s' H, Inv XG pn σw H s' → Qs H → Rc (.ok (.ret (.bool false))) s') :
    ∀ (n : Nat) (s : Shared), Ready (model XG.prog XG.w) A.in1.in1 (fun n s₀ r s₁ => r = .ok .next ∧ GEnd XG pn σw Qe n s₀ s₁) (GYi XG pn σw false Qs) a g n s →
      codeAny (model XG.prog XG.w) A (.builtin "all.loop" ⟨[.ref a], []⟩) Rc s := by
  intro n
  induction n using Nat.strongRecOn with
  | ind n ih =>
    intro s r
    refine codeAny_builtin F.entry_all_loop ?_
    rw [Around.under_plainId F.plain_all_loop _]
    show wpAny _ A.in1 (pyNext (.ref a) >>= _) _ _ s
    refine wpAny_bind (next_gen (A := A.in1) hh hroom hpa hgo r (fun s' H I q => ?_) (fun s' H I q => ?_) fun s' m hm r' => ?_)
    · exact wpAny_bind (wpAny_rule (wpAny_pure (hE s' H I q)))
    · refine wpAny_bind (wpAny_holding (wpAny_truthy_bool ?_))
      refine wpAny_bind (wpAny_letGo ?_)
      simp only [Bool.false_eq_true, if_false]
      exact wpAny_bind (wpAny_rule (wpAny_pure (hS s' H I q)))
    · refine wpAny_bind (wpAny_holding (wpAny_truthy_bool ?_))
      refine wpAny_bind (wpAny_letGo ?_)
      simp only [Bool.not_false, if_true]
      exact wpAny_pure ⟨plainId_quiet F.plain_all_loop _, ih m hm s' r'⟩
end

/-! ### the rule -/
/-- a generator expression's own scope -/
structure GenSc (scope : Scope) : Prop where
  co : scope.isCoroutine = false
  cell : ∀ y ∈ scope.names, y.2 ≠ .cell
  dot : scope.names.lookup (".0" : Str) = some NameKind.local
/-- any, all of a generator expression: stopB ends it; its def's table at P may grow at first -/
def tGenQ (P : Addr) (stopB : Bool) (wi : TI) (g : TG) (te : TE) (vs : List Nat) : TE := fun σ H Q => wi σ H fun J H1 => TabG H1 P ∧ ∀ H2, Tabbed P H1 H2 →
  ∃ W : Nat → Nat → Hp → Prop, (∃ m, W 0 m H2) ∧ Plan J stopB g te vs σ (fun H => Q (.bl (!stopB)) H) (fun H => Q (.bl stopB) H) W
theorem room_gA {k : Nat} {A : Around} (r : Room (k + 1) A) (elt tg iter : Expr) (scope : Scope) (gpos : Pos) (it : Addr) (cenv : Env) : Room k (gA A.in1.in1 elt tg iter scope gpos it cenv) :=
  ⟨r.hd, by have := r.dp; show A.depth + 0 + 1 + 3 * k + 5 < _; omega, by have := r.un; show A.units + 1 + 1 + 0 + 3 + 16 * k + 200 < _; omega⟩
section
variable {X : Cx} {elt tg iter : Expr} {scope : Scope} {gpos : Pos} {own : List (Str × Nat)} {g : TG} {te : TE} {wi : TI} {stopB : Bool} {c P : Addr} {k : Nat}
theorem gen_made {pins : List (Addr × Obj)} {s : Shared} {σ : L2.St} {H : Hp} {Q : VK} {Q' : Value → Shared → Prop}
    (hr : Room (k + 1) X.A) (hcalm : X.calm = true) (hN : X.N.Nodup) (TB : TabB X.base X.mg c P) (hcode : X.env.code = .ref c) (hi : PI X tg iter wi) (ok : BlkOk X.N X.env.scope scope own) (sc : GenSc scope)
    (hgt : ∀ (A : Around) (s : Shared) (H : Hp) (C : Addr) (code : Value) (fp : List Addr), PG (gblk X A s H (genEnv scope (cloFrom X.env.cells scope.names []) C code builtinsNs X.env) fp) tg g)
    (hel : ∀ (A : Around) (s : Shared) (H : Hp) (C : Addr) (code : Value) (fp : List Addr), Room k A → PE (gblk X A s H (genEnv scope (cloFrom X.env.cells scope.names []) C code builtinsNs X.env) fp) elt te)
    (hs : ∀ v, genFold iter X.env v = pure v) (I : Inv X pins σ H s) (h : tGenQ P stopB wi g te (own.map (·.2)) σ H Q)
    (hQ : ∀ (XG : Cx) (pn : List (Addr × Obj)) (σw : L2.St) (a : Addr) (go : Obj) (gi : Nat) (nm qn : Value) (n : Nat) (s5 : Shared), XG.prog = X.prog → XG.w = X.w → (a, go) ∈ pn → (go.cls = .type "generator" ∧ go.data = .fields #[.int gi 0, nm, qn] ∧ go.slots = #[]) →
      Ready (model XG.prog XG.w) X.A.in1.in1 (fun n s₀ r s₁ => r = .ok .next ∧ GEnd XG pn σw (fun H => Q (.bl (!stopB)) H) n s₀ s₁) (GYi XG pn σw stopB (fun H => Q (.bl stopB) H)) a gi n s5 →
      (∀ s' H, Inv XG pn σw H s' → Inv X pins σ H s') → Q' (.ref a) s5) :
    wpAny (model X.prog X.w) X.A (eval (.GeneratorExp elt [⟨tg, iter, [], 0⟩] scope gpos) X.env) Q' X.xe s := by
  have hfree : ∀ y ∈ scope.names, y.2 = .free → ∃ c, X.env.cells.lookup y.1 = some c := fun y hy e => by
    rcases ok.free y hy e with k | k
    · exact I.ok.has _ (.inl k)
    · exact I.ok.has _ (.inr k)
  refine wpAny_GeneratorExp_make sc.co (closure_ok hfree) sc.cell sc.dot ok.kind (by have := hr.dp; omega) ?_ hs
  refine thn (hi.run pins s σ H _ I h) fun xv s1 hx => thn hx fun itv s2 h2 => ?_
  obtain ⟨it, fp, tn, J, H1, e, I1, T, st2, f2, ⟨ps, hP, ht⟩, q⟩ := h2
  subst e
  refine ⟨I1.nolimit, ?_⟩
  have hPs : s2.heap.get? P = some { cls := .none, data := .fields ps } := I1.hok P _ hP
  have cd : PySem.W.CodeHd s2.heap c P := TB.code.keeps fun b u e => I1.bk b u e
  have sz2 : ∀ b ∈ fp, b < s2.heap.objs.size := fun b hb => by
    obtain ⟨o, e, _⟩ := T.obj _ _ st2 b hb
    exact Heap.lt_size e
  have fpP : ∀ b ∈ fp, b ≠ P := fun b hb z => by
    have := (f2 b hb).1
    rw [z, hP] at this; cases this
  -- behind the code object: the table may have grown
  have cont : ∀ (code : Value) (h3 : Heap) (tk : Nat) (more : Array Value), Heap.ExtBut P s2.heap h3 → s2.heap.objs.size ≤ h3.objs.size → h3.get? P = some { cls := .none, data := .fields (ps ++ more) } → TriplesOk (ps ++ more).toList →
      wpAny (model X.prog X.w) X.A (builtinsFor X.env.globals X.env.builtins) (fun bi s₄ =>
        ∀ h', h'.Ns s₄.heap.objs.size (fun y => if y = ".0" then some (.ref it) else none) → Heap.SameBut s₄.heap.objs.size (s₄.heap.push { cls := .type "frame", data := .dict #[] }) h' →
          Q' (.ref h'.objs.size) { s₄ with
            gens := s₄.gens.push (.fresh (.compStart (.GeneratorExp elt [⟨tg, iter, [], 0⟩] scope gpos) 0 (.ref it) .none (genEnv scope (cloFrom X.env.cells scope.names []) s₄.heap.objs.size code bi X.env))),
            toks := s₄.toks + 1 + 1 + 1,
            heap := h'.push { cls := .type "generator", data := .fields #[.int s₄.gens.size 0, .str "<genexpr>" (s₄.toks + 1), .str (X.env.qual ++ "<genexpr>") (s₄.toks + 1 + 1)] } }) X.xe { s2 with heap := h3, toks := tk } := by
    intro code h3 tk more hx hsz hP3 ht3
    obtain ⟨bm, ob, e1, e2, e3, e4, e5, e6, e7, e8⟩ := TB.bm
    have keep3 : ∀ b u, b ≠ P → s2.heap.get? b = some u → h3.get? b = some u := fun b u hb e => hx b u hb e
    refine wpAny_builtinsFor (m := X.mg) (by rw [I1.ok.glob]; exact ((I1.mod.glob.keeps I1.bk)).extBut hx TB.gP) e1 e2 (keep3 _ _ e4 (I1.bk _ _ e5)) e6 e7 e8 ?_
    intro h' hn' hs'
    have I2 : Inv X pins σ (upd H1 P (.tbl (ps ++ more))) { s2 with heap := h3, toks := tk } := inv_tab (more := more) (h' := h3) (g' := s2.gens) (d' := s2.drawn) (t' := tk) I1 hP keep3 hP3 I1.bare
    have tb : Tabbed P H1 (upd H1 P (.tbl (ps ++ more))) := ⟨⟨_, upd_same, ht3⟩, fun b hb => upd_ne hb⟩
    obtain ⟨W, ⟨m0, w0⟩, plan⟩ := q _ tb
    have kf : ∀ b o, h3.get? b = some o → h'.get? b = some o := fun b o e => hs'.extBut b o (Nat.ne_of_lt (Heap.lt_size e)) (Heap.get?_push_of_some _ e)
    have hsz' : h'.objs.size = h3.objs.size + 1 := by
      have := hs'.1
      rw [this, Heap.size_push]
    have f3 : ∀ b ∈ fp, FpOk X pins (upd H1 P (.tbl (ps ++ more))) b ∧ b < h3.objs.size := fun b hb =>
      ⟨⟨by rw [upd_ne (fpP b hb)]; exact (f2 b hb).1, (f2 b hb).2⟩, Nat.lt_of_lt_of_le (sz2 b hb) hsz⟩
    have hAf : (gA X.A.in1.in1 elt tg iter scope gpos it (genEnv scope (cloFrom X.env.cells scope.names []) h3.objs.size code builtinsNs X.env)).frames = some (genEnv scope (cloFrom X.env.cells scope.names []) h3.objs.size code builtinsNs X.env :: X.stack) := by
      have e := I1.ok.frames
      show pushEnvs [_] (pushEnvs [] X.A.frames) = _
      rw [e]; rfl
    have go5 := Heap.get?_push_size h' (o := { cls := .type "generator", data := .fields #[.int s2.gens.size 0, .str "<genexpr>" (tk + 1), .str (X.env.qual ++ "<genexpr>") (tk + 1 + 1)] }) rfl
    have I5 := gen_start (A := gA X.A.in1.in1 elt tg iter scope gpos it (genEnv scope (cloFrom X.env.cells scope.names []) h3.objs.size code builtinsNs X.env)) (code := code) (h5 := h'.push { cls := .type "generator", data := .fields #[.int s2.gens.size 0, .str "<genexpr>" (tk + 1), .str (X.env.qual ++ "<genexpr>") (tk + 1 + 1)] })
      (g5 := s2.gens.push (.fresh (.compStart (.GeneratorExp elt [⟨tg, iter, [], 0⟩] scope gpos) 0 (.ref it) .none (genEnv scope (cloFrom X.env.cells scope.names []) h3.objs.size code builtinsNs X.env)))) (t5 := tk + 1 + 1 + 1) (a := h'.objs.size)
      I2 ok hN sc.cell f3 hr.hd hAf (AllBare.push I1.bare rfl) (hn'.push _) (fun b o e => Heap.get?_push_of_some _ (kf b o e)) (by show h3.objs.size < h'.objs.size; omega) go5 (fun v z => by cases z)
    have st5 : tn 0 (h'.push { cls := .type "generator", data := .fields #[.int s2.gens.size 0, .str "<genexpr>" (tk + 1), .str (X.env.qual ++ "<genexpr>") (tk + 1 + 1)] }) := T.keep _ _ _ st2 fun b hb o e => Heap.get?_push_of_some _ (kf b o (keep3 b o (fpP b hb) e))
    refine hQ (gblk X (gA X.A.in1.in1 elt tg iter scope gpos it (genEnv scope (cloFrom X.env.cells scope.names []) h3.objs.size code builtinsNs X.env)) { s2 with heap := h3, toks := tk } (upd H1 P (.tbl (ps ++ more))) (genEnv scope (cloFrom X.env.cells scope.names []) h3.objs.size code builtinsNs X.env) fp) [(h'.objs.size, ({ cls := .type "generator", data := .fields #[.int s2.gens.size 0, .str "<genexpr>" (tk + 1), .str (X.env.qual ++ "<genexpr>") (tk + 1 + 1)] } : Obj))] (wipe σ (own.map (·.2))) h'.objs.size ({ cls := .type "generator", data := .fields #[.int s2.gens.size 0, .str "<genexpr>" (tk + 1), .str (X.env.qual ++ "<genexpr>") (tk + 1 + 1)] } : Obj) s2.gens.size (.str "<genexpr>" (tk + 1)) (.str (X.env.qual ++ "<genexpr>") (tk + 1 + 1)) (m0 + 1) _ rfl rfl (List.mem_singleton.mpr rfl) ⟨rfl, rfl, rfl⟩ ⟨I5.nolimit, ⟨_, _, _, go5, rfl, rfl, rfl⟩, ⟨_, Array.getElem?_push_size .., fun s'' z => ⟨rfl, ?_⟩⟩, I5.bare⟩ fun s' H' J => ?_
    · exact gen_seg0 hcalm sc.co T (fun p hp b hb z => by
        rw [List.mem_singleton.mp hp] at z
        have := sz2 b hb
        rw [← z] at this
        have z2 : h'.objs.size < s2.heap.objs.size := this
        omega) (hgt _ _ _ _ _ _) (hel _ _ _ _ _ _ (room_gA hr ..)) plan (Inv.sim I5 z) (by rw [z.heap]; exact st5) (fun b hb => (f3 b hb).1.1) w0 s'' (Nat.lt_succ_self m0)
    · exact I2.call' (ch := fp) J.os J.base J.hok J.bare fun b hb => ⟨(f3 b hb).1.2.2.2.1, (f3 b hb).1.2.1, (f3 b hb).1.2.2.2.2.1, (f3 b hb).1.2.2.2.2.2⟩
  cases hf : codeAmong gpos ps.toList with
  | none =>
    refine wpAny_genexprCodeX hcode (cd.code hPs ht) (cd.tab hPs) hf fun c' h' tk hx hge hlt hco' _ htab' _ => ?_
    obtain ⟨o1, vs, f1, tf, fl, tg', inF, tx, tt, op, _, _, _, _, _, _, _, _, _, htr, _⟩ := hco'
    exact cont _ h' tk _ hx (Nat.le_trans hge (Nat.le_of_lt hlt)) htab'.2 htr
  | some cv =>
    refine wpAny_genexprCode_hit hcode (cd.code hPs ht) hf ?_
    exact cont cv s2.heap s2.toks #[] (Heap.ExtBut.refl _ _) (Nat.le_refl _) (by simpa using hPs) (by simpa using ht)
theorem pe_anyG {p pos : Pos}
    (hr : Room (k + 1) X.A) (hcalm : X.calm = true) (hN : X.N.Nodup) (hg : Gl X "any") (hm : X.mg "any" = none) (TB : TabB X.base X.mg c P) (hcode : X.env.code = .ref c) (hi : PI X tg iter wi) (ok : BlkOk X.N X.env.scope scope own) (sc : GenSc scope)
    (hgt : ∀ (A : Around) (s : Shared) (H : Hp) (C : Addr) (code : Value) (fp : List Addr), PG (gblk X A s H (genEnv scope (cloFrom X.env.cells scope.names []) C code builtinsNs X.env) fp) tg g)
    (hel : ∀ (A : Around) (s : Shared) (H : Hp) (C : Addr) (code : Value) (fp : List Addr), Room k A → PE (gblk X A s H (genEnv scope (cloFrom X.env.cells scope.names []) C code builtinsNs X.env) fp) elt te)
    (hs : ∀ v, genFold iter X.env v = pure v := by intro _; rfl)
    (he : starEach [.GeneratorExp elt [⟨tg, iter, [], 0⟩] scope gpos] X.env = (false, eval (.GeneratorExp elt [⟨tg, iter, [], 0⟩] scope gpos) X.env) :: starEach [] X.env := by rfl) :
    PE X (.Call (.Name "any" p) [.GeneratorExp elt [⟨tg, iter, [], 0⟩] scope gpos] [] pos) (tGenQ P true wi g te (own.map (·.2))) := by
  refine ⟨fun pins s σ H Q I h => ?_⟩
  refine wpAny_Call_Name_kw (ld_blt I hg hm boot_any ?_)
  refine PyProof.Rows.callWith_builtin1 ?_ he (by rfl)
  rw [he]
  show wpAny _ _ (spliced ((false, eval (.GeneratorExp elt [⟨tg, iter, [], 0⟩] scope gpos) X.env) :: backTo pos (starEach [] X.env))) _ _ s
  refine Calls.spliced_cons (gen_made hr hcalm hN TB hcode hi ok sc hgt hel hs I h fun XG pn σw a go gi nm qn n s5 e1 e2 hpa hgo hR back => ?_)
  refine Calls.spliced_nil ?_
  refine call_function_tree F.kind_any F.plain_any F.entry_any (F.args_any1 _) ?_
  unfold Builtin.«any»
  refine wpAny_bind (m := oneArg "any" _) (wpAny_pure ?_)
  refine wpAny_bind (wpAny_pyIter_gen hR.gen ?_)
  refine wpAny_pure ⟨plainId_quiet F.plain_any_loop _, ?_⟩
  have := any_loop (XG := XG) (pn := pn) (σw := σw) (go := go) (g := gi) (nm := nm) (qn := qn) (A := X.A) hr.hd (by have := hr.dp; omega) hpa hgo (Rc := fun r s' => match r with | .ok (.ret v) => EP X pins σ Q v s' | .ok _ => False | .error e => X.xe e s')
    (Qe := fun H => Q (.bl (!true)) H) (Qs := fun H => Q (.bl true) H) (fun s' H' J q => ⟨.bl false, H', back s' H' J, rfl, q⟩) (fun s' H' J q => ⟨.bl true, H', back s' H' J, rfl, q⟩) n s5 hR
  rw [e1, e2] at this
  exact this
theorem pe_allG {p pos : Pos}
    (hr : Room (k + 1) X.A) (hcalm : X.calm = true) (hN : X.N.Nodup) (hg : Gl X "all") (hm : X.mg "all" = none) (TB : TabB X.base X.mg c P) (hcode : X.env.code = .ref c) (hi : PI X tg iter wi) (ok : BlkOk X.N X.env.scope scope own) (sc : GenSc scope)
    (hgt : ∀ (A : Around) (s : Shared) (H : Hp) (C : Addr) (code : Value) (fp : List Addr), PG (gblk X A s H (genEnv scope (cloFrom X.env.cells scope.names []) C code builtinsNs X.env) fp) tg g)
    (hel : ∀ (A : Around) (s : Shared) (H : Hp) (C : Addr) (code : Value) (fp : List Addr), Room k A → PE (gblk X A s H (genEnv scope (cloFrom X.env.cells scope.names []) C code builtinsNs X.env) fp) elt te)
    (hs : ∀ v, genFold iter X.env v = pure v := by intro _; rfl)
    (he : starEach [.GeneratorExp elt [⟨tg, iter, [], 0⟩] scope gpos] X.env = (false, eval (.GeneratorExp elt [⟨tg, iter, [], 0⟩] scope gpos) X.env) :: starEach [] X.env := by rfl) :
    PE X (.Call (.Name "all" p) [.GeneratorExp elt [⟨tg, iter, [], 0⟩] scope gpos] [] pos) (tGenQ P false wi g te (own.map (·.2))) := by
  refine ⟨fun pins s σ H Q I h => ?_⟩
  refine wpAny_Call_Name_kw (ld_blt I hg hm boot_all ?_)
  refine PyProof.Rows.callWith_builtin1 ?_ he (by rfl)
  rw [he]
  show wpAny _ _ (spliced ((false, eval (.GeneratorExp elt [⟨tg, iter, [], 0⟩] scope gpos) X.env) :: backTo pos (starEach [] X.env))) _ _ s
  refine Calls.spliced_cons (gen_made hr hcalm hN TB hcode hi ok sc hgt hel hs I h fun XG pn σw a go gi nm qn n s5 e1 e2 hpa hgo hR back => ?_)
  refine Calls.spliced_nil ?_
  refine call_function_tree F.kind_all F.plain_all F.entry_all (F.args_all1 _) ?_
  unfold Builtin.«all»
  refine wpAny_bind (m := oneArg "all" _) (wpAny_pure ?_)
  refine wpAny_bind (wpAny_pyIter_gen hR.gen ?_)
  refine wpAny_pure ⟨plainId_quiet F.plain_all_loop _, ?_⟩
  have := all_loop (XG := XG) (pn := pn) (σw := σw) (go := go) (g := gi) (nm := nm) (qn := qn) (A := X.A) hr.hd (by have := hr.dp; omega) hpa hgo (Rc := fun r s' => match r with | .ok (.ret v) => EP X pins σ Q v s' | .ok _ => False | .error e => X.xe e s')
    (Qe := fun H => Q (.bl (!false)) H) (Qs := fun H => Q (.bl false) H) (fun s' H' J q => ⟨.bl true, H', back s' H' J, rfl, q⟩) (fun s' H' J q => ⟨.bl false, H', back s' H' J, rfl, q⟩) n s5 hR
  rw [e1, e2] at this
  exact this
end
end GA


set_option Elab.async false
set_option linter.all false
set_option maxRecDepth 100000
set_option maxHeartbeats 4000000
/-! What stands in the heap: parts, rows of parts; the parts' defs. -/
namespace K44
open PySem L2
open LP (Fit lim)
def top (i : Nat) : Stmt := PySem.Challenge.pw_paidallways_k10_whole_costs_by_straight.main.body.getD i (.Pass ⟨0, 0, 0, 0⟩)

/-! ### heaps that grow: tables of code objects may be longer -/
def Gw (H H' : Hp) : Prop := ∀ b o, H b = some o → H' b = some o ∨ ∃ ps ps', o = .tbl ps ∧ H' b = some (.tbl ps') ∧ (TriplesOk ps.toList → TriplesOk ps'.toList)
theorem Gw.refl (H : Hp) : Gw H H := fun _ _ h => .inl h
theorem Gw.trans {H H1 H2 : Hp} (a : Gw H H1) (b : Gw H1 H2) : Gw H H2 := fun c o h => by
  rcases a c o h with h1 | ⟨ps, ps', rfl, h1, t1⟩
  · exact b c o h1
  · rcases b c _ h1 with h2 | ⟨qs, qs', e, h2, t2⟩
    · exact .inr ⟨ps, ps', rfl, h2, t1⟩
    · cases e
      exact .inr ⟨ps, qs', rfl, h2, fun z => t2 (t1 z)⟩
theorem Gw.of {H H' : Hp} (h : ∀ b o, H b = some o → H' b = some o) : Gw H H' := fun b o e => .inl (h b o e)
theorem Gw.free {H H' : Hp} (e : Gw H H') {l : Addr} (h : H' l = none) : H l = none := by
  cases q : H l with
  | none => rfl
  | some o =>
    rcases e l o q with z | ⟨_, _, _, z, _⟩ <;> rw [h] at z <;> cases z
theorem Gw.new {H : Hp} {p : Addr} (o : HO) (h : H p = none) : Gw H (upd H p o) := .of fun b u e => by rw [upd_ne (ne_of_none e h)]; exact e
theorem Gw.upd {H H' : Hp} {p : Addr} (o : HO) (g : Gw H H') (h : H p = none) : Gw H (L2.upd H' p o) := fun b u e => by
  have hb : b ≠ p := ne_of_none e h
  rw [upd_ne hb]
  exact g b u e
theorem Gw.tab {H H' : Hp} {P : Addr} (t : GxR.TabG H P) (z : GxR.Tabbed P H H') : Gw H H' := fun b o e => by
  by_cases hb : b = P
  · subst hb
    obtain ⟨ps, h1, h2⟩ := t
    obtain ⟨ps', h3, h4⟩ := z.1
    rw [e] at h1
    cases h1
    exact .inr ⟨ps, ps', rfl, h3, fun _ => h4⟩
  · exact .inl (by rw [z.2 b hb]; exact e)
theorem Gw.tabG {H H' : Hp} {P : Addr} (g : Gw H H') (t : GxR.TabG H P) : GxR.TabG H' P := by
  obtain ⟨ps, h1, h2⟩ := t
  rcases g P _ h1 with z | ⟨qs, qs', e, z, t⟩
  · exact ⟨ps, z, h2⟩
  · cases e
    exact ⟨qs', z, t h2⟩
section
variable {K : PySem.W.Frag} {H H' : Hp} {a : Addr} {xs : List V}
theorem Gw.at (g : Gw H H') {o : HO} (h : H a = some o) (n : ∀ ps, o ≠ .tbl ps := by intro _ z; cases z) : H' a = some o := by
  rcases g a o h with z | ⟨ps, _, e, _⟩
  · exact z
  · exact absurd e (n ps)
theorem Gw.sqT (g : Gw H H') (h : SqT K H a xs) : SqT K H' a xs := by
  rcases h with (h | ⟨o, h⟩) | h
  · exact .inl (.inl (g.at h))
  · exact .inl (.inr ⟨o, g.at h⟩)
  · exact .inr h
theorem Gw.sqL (g : Gw H H') (h : SqL K H a xs) : SqL K H' a xs := by
  rcases h with (h | ⟨o, h⟩) | h
  · exact .inl (.inl (g.at h))
  · exact .inl (.inr ⟨o, g.at h⟩)
  · exact .inr h
mutual
theorem Gw.dp (g : Gw H H') : ∀ {v : V} {d : PyData}, Dp K H v d → Dp K H' v d
  | _, _, .non => .non
  | _, _, .bl b => .bl b
  | _, _, .int i => .int i
  | _, _, .str x => .str x
  | _, _, .lst h t => .lst (g.sqL h) (Gw.dpA g t)
  | _, _, .tup h t => .tup (g.sqT h) (Gw.dpA g t)
theorem Gw.dpA (g : Gw H H') : ∀ {vs : List V} {ds : List PyData}, DpAll K H vs ds → DpAll K H' vs ds
  | _, _, .nil => .nil
  | _, _, .cons h t => .cons (Gw.dp g h) (Gw.dpA g t)
end
end

/-! ### parts -/
/-- v is the part q -/
def PAt (K : PySem.W.Frag) (H : Hp) (v : V) (q : Rat) : Prop := (∃ a, v = .ref a ∧ SqT K H a [.int q.num, .int (q.den : Int)]) ∧ Fit q
def partD (q : Rat) : PyData := .tuple [.int q.num, .int (q.den : Int)]
theorem PAt.gw {K : PySem.W.Frag} {H H' : Hp} {v : V} {q : Rat} (h : PAt K H v q) (g : Gw H H') : PAt K H' v q := by
  obtain ⟨⟨a, e, s⟩, f⟩ := h
  exact ⟨⟨a, e, g.sqT s⟩, f⟩
theorem PAt.dp {K : PySem.W.Frag} {H : Hp} {v : V} {q : Rat} (h : PAt K H v q) : Dp K H v (partD q) := by
  obtain ⟨⟨a, rfl, s⟩, _⟩ := h
  exact .tup s (.cons (.int _) (.cons (.int _) .nil))
theorem lim_lt : lim < 2 ^ 200 := by decide +kernel
theorem Fit.num_lt {q : Rat} (h : Fit q) : q.num.natAbs < 2 ^ 200 := Nat.lt_of_le_of_lt h.1 lim_lt
theorem Fit.den_lt {q : Rat} (h : Fit q) : (q.den : Int).natAbs < 2 ^ 200 := Nat.lt_of_le_of_lt (by rw [Int.natAbs_natCast]; exact h.2) lim_lt
theorem fit_zero : Fit 0 := ⟨by decide, by decide +kernel⟩
theorem fit_one : Fit 1 := ⟨by decide +kernel, by decide +kernel⟩
theorem fit_neg_one : Fit (-1) := ⟨by decide +kernel, by decide +kernel⟩
/-- a part of two whole numbers -/
theorem mk_eq {a d : Int} (hd : d ≠ 0) (g : Nat) (hg : g = Nat.gcd a.natAbs d.natAbs) :
    a.fdiv (if 0 < d then (g : Int) else -(g : Int)) = (Rat.divInt a d).num ∧ d.fdiv (if 0 < d then (g : Int) else -(g : Int)) = ((Rat.divInt a d).den : Int) := by
  have e1 := Rat.num_divInt a d
  have e2 := Rat.den_divInt a d
  have hg0 : 0 < g := by rw [hg]; exact Nat.gcd_pos_of_pos_right _ (by omega)
  have hga : (g : Int) ∣ a := by
    rw [hg]; exact Int.ofNat_dvd_left.mpr (Nat.gcd_dvd_left _ _)
  have hgd : (g : Int) ∣ d := by
    rw [hg]; exact Int.ofNat_dvd_left.mpr (Nat.gcd_dvd_right _ _)
  have ig : (Int.gcd d a : Nat) = g := by rw [hg]; exact Nat.gcd_comm _ _
  obtain ⟨x, hx⟩ := hga
  obtain ⟨y, hy⟩ := hgd
  have hgz : (g : Int) ≠ 0 := by omega
  rw [e1, e2, if_neg hd, ig]
  by_cases h : 0 < d
  · rw [if_pos h, Int.sign_eq_one_of_pos h, Int.one_mul]
    constructor
    · rw [hx, Int.mul_fdiv_cancel_left _ hgz, Int.mul_ediv_cancel_left _ hgz]
    · rw [hy, Int.mul_fdiv_cancel_left _ hgz, Int.natAbs_mul, Int.natAbs_natCast, Nat.mul_div_cancel_left _ hg0]
      have : 0 < y := by
        rw [hy] at h
        exact Int.pos_of_mul_pos_right h (by omega)
      omega
  · rw [if_neg h, Int.sign_eq_neg_one_of_neg (by omega)]
    have ea : a = (-(g : Int)) * (-x) := by rw [Int.neg_mul_neg]; exact hx
    have ed : d = (-(g : Int)) * (-y) := by rw [Int.neg_mul_neg]; exact hy
    have hgn : -(g : Int) ≠ 0 := by omega
    constructor
    · rw [ea, Int.mul_fdiv_cancel_left _ hgn]
      have : (-1 : Int) * (-(g : Int) * -x) = (g : Int) * (-x) := by rw [Int.neg_mul_neg, Int.mul_neg]; omega
      rw [this, Int.mul_ediv_cancel_left _ hgz]
    · rw [ed, Int.mul_fdiv_cancel_left _ hgn, Int.natAbs_mul, Int.natAbs_neg, Int.natAbs_natCast, Nat.mul_div_cancel_left _ hg0]
      have : y < 0 := by
        have hd' : d < 0 := by omega
        rw [hy] at hd'
        exact Int.neg_of_mul_neg_right hd' (by omega)
      omega

/-! ### floor division by any great number -/
def CDivX (_ j : Int) : Prop := j ≠ 0 ∧ j.natAbs.log2 < 9000
theorem op_fdivX {X : Cx} : OpR X (binaryOp .FloorDiv) (rI CDivX fun i j => .int (i.fdiv j)) := opI fun i j _ _ _ _ _ hc q =>
  PyProof.Rows.floordiv_int hc.1 q (.inl (PyProof.noPylong_of_log2 hc.2))

/-! ### what the top has written -/
structure Txt (K : PySem.W.Frag) (mg : Str → Option Value) : Prop where
  gcd : mg "gcd" = some (.builtin "math.gcd")
  most : ∃ t, mg "MOST" = some (.int (10 ^ 60) t)
  zero : ∃ a, mg "ZERO" = some (.ref a) ∧ ∀ H, SqT K H a [.int 0, .int 1]
  one : ∃ a, mg "ONE" = some (.ref a) ∧ ∀ H, SqT K H a [.int 1, .int 1]
  abs : mg "abs" = none
  isi : mg "isinstance" = none
  int : mg "int" = none
  bool : mg "bool" = none
  tuple : mg "tuple" = none
  list : mg "list" = none
  str : mg "str" = none
  len : mg "len" = none
  range : mg "range" = none
  zip : mg "zip" = none
  enum : mg "enumerate" = none
  all : mg "all" = none
  any : mg "any" = none
  sum : mg "sum" = none
  min : mg "min" = none
  rev : mg "reversed" = none
  mostRows : ∃ t, mg "MOST_ROWS" = some (.int 60 t)
  mostPlaces : ∃ t, mg "MOST_PLACES" = some (.int 30 t)
  mostNodes : ∃ t, mg "MOST_NODES" = some (.int 60 t)
  mostKids : ∃ t, mg "MOST_CHILDREN" = some (.int 5 t)
  mostMoment : ∃ t, mg "MOST_MOMENT" = some (.int 6 t)
  mostNames : ∃ t, mg "MOST_NAMES" = some (.int 3 t)
  mostTimes : ∃ t, mg "MOST_TIMES" = some (.int 7 t)
  letters : ∃ t, mg "LETTERS" = some (.str "abcdefghijklmnopqrstuvwxyz" t)
  max : mg "max" = none
/-- a def that keeps a promise, as its callers need it -/
structure Cal (P : Program) (w : World) (K : PySem.W.Frag) (mg : Str → Option Value) (base : Heap) (x : Str) (k : Nat) (ps : List Str) (sp : Sp) where
  f : Addr
  fd : FuncData
  ok : FnOk P w K mg base CX0 k f fd ps sp
  hm : mg x = some (.ref f)
  kp : PySem.W.keepIn K (.ref f) = true
  b : Binds K fd ps []

/-! ### promises -/
/-- an answer R, the heap grown -/
abbrev Ans (H : Hp) (R : V → Hp → Prop) (Q : VK) : Prop := ∀ v H', Gw H H' → R v H' → Q v H'
def spPart (K : PySem.W.Frag) : Sp := fun vs H Q _ => ∃ a d : Int, vs = [.int a, .int d] ∧ d ≠ 0 ∧ d.natAbs < 2 ^ 1000 ∧ Fit (Rat.divInt a d) ∧ Ans H (fun v H' => PAt K H' v (Rat.divInt a d)) Q
def sp2 (K : PySem.W.Frag) (f : Rat → Rat → Rat) : Sp := fun vs H Q _ => ∃ (x y : V) (a b : Rat), vs = [x, y] ∧ PAt K H x a ∧ PAt K H y b ∧ Fit (f a b) ∧ Ans H (fun v H' => PAt K H' v (f a b)) Q
/-- .. not over 0 -/
def sp2o (K : PySem.W.Frag) : Sp := fun vs H Q _ => ∃ (x y : V) (a b : Rat), vs = [x, y] ∧ PAt K H x a ∧ PAt K H y b ∧ b ≠ 0 ∧ Fit (a / b) ∧ Ans H (fun v H' => PAt K H' v (a / b)) Q
def spLess (K : PySem.W.Frag) : Sp := fun vs H Q _ => ∃ (x y : V) (a b : Rat), vs = [x, y] ∧ PAt K H x a ∧ PAt K H y b ∧ Q (.bl (decide (a < b))) H

abbrev sPart : Stmt := top 17
abbrev sPlus : Stmt := top 18
abbrev sMinus : Stmt := top 19
abbrev sTimes : Stmt := top 20
abbrev sOver : Stmt := top 21
abbrev sLess : Stmt := top 22
section
variable {P : Program} {w : World} {K : PySem.W.Frag} {mg : Str → Option Value} {base : Heap}
theorem scPart : FnScope ["one", "other", "shared", "found"] ["one", "other"] (defScope sPart) := ⟨rfl, rfl, rfl, by decide +kernel, rfl, by decide +kernel, by decide +kernel⟩
theorem ok_part {f : Addr} {fd : FuncData} (F : Fun K "part" "part" sPart f fd) (T : Txt K mg) : FnOk P w K mg base CX0 1 f fd ["one", "other"] (spPart K) := by
  refine F.ok scPart (fun vs H Q E h => ?_) (fun cdv A outer s H vs Q E hr h => ?_)
  · obtain ⟨a, d, rfl, _⟩ := h
    rfl
  · obtain ⟨a, d, rfl, hd, hdb, hfit, k⟩ := h
    obtain ⟨t, hM⟩ := T.most
    refine ⟨_, pss_cons (ps_if (pt_cmpR op_eq (pv 1) pe_int (nomark _)) (pss_one ps_never) pss_nil)
      (pss_cons (ps_set (i := 2) scPart.nd rfl (Or.inl rfl) (pe_ifExp (pt_cmpR op_gt (pv 1) pe_int (nomark _)) (pe_callBfun cr_gcd rfl T.gcd (pa_cons (pv 0) (pa_cons (pv 1) pa_nil))) (pe_un un_neg (pe_callBfun cr_gcd rfl T.gcd (pa_cons (pv 0) (pa_cons (pv 1) pa_nil))))))
      (pss_cons (ps_set (i := 3) scPart.nd rfl (Or.inl rfl) (pe_tup (pa_cons (pe_op op_fdivX (pv 0) (pv 2)) (pa_cons (pe_op op_fdivX (pv 1) (pv 2)) pa_nil))))
      (pss_cons (ps_if (PW.pt (pw_or (pt_cmpR op_gt (pe_callB call_abs (by rfl) T.abs (by decide +kernel) (pa_cons (pe_ix ix_tup (pv 3) pe_int (fun _ _ => rfl)) pa_nil)) (pe_glob (v := .int (10 ^ 60)) rfl hM ⟨t, rfl⟩) (nomark _))
          (pw_or1 (pt_cmpR op_gt (pe_ix ix_tup (pv 3) pe_int (fun _ _ => rfl)) (pe_glob (v := .int (10 ^ 60)) rfl hM ⟨t, rfl⟩) (nomark _))))) (pss_one ps_never) pss_nil)
      (pss_one (ps_ret (pv 3)))))), ?_⟩
    refine ⟨_, rfl, rfl, _, rfl, ?_⟩
    rw [show decide (V.int d = V.int 0) = false from decide_eq_false fun z => hd (V.int.inj z)]
    refine iteF ?_
    have hg0 : (Nat.gcd a.natAbs d.natAbs : Int) ≠ 0 := by
      have := Nat.gcd_pos_of_pos_right a.natAbs (show 0 < d.natAbs by omega)
      omega
    obtain ⟨m1, m2⟩ := mk_eq (a := a) hd _ rfl
    have hgl : Nat.gcd a.natAbs d.natAbs < 2 ^ 1000 := Nat.lt_of_le_of_lt (Nat.le_of_dvd (by omega) (Nat.gcd_dvd_right _ _)) hdb
    have hgl2 : (Nat.gcd a.natAbs d.natAbs).log2 < 9000 := Nat.lt_trans (PySem.Flt.log2_lt_of (by decide) hgl) (by decide)
    generalize hg : (Nat.gcd a.natAbs d.natAbs) = g at m1 m2 hg0 hgl2
    -- shared
    have two : ∀ sh : Int, sh = (if 0 < d then (g : Int) else -(g : Int)) → CDivX a sh ∧ CDivX d sh := fun sh e => by
      have : sh ≠ 0 ∧ sh.natAbs = g := by rw [e]; split <;> omega
      exact ⟨⟨this.1, by rw [this.2]; exact hgl2⟩, ⟨this.1, by rw [this.2]; exact hgl2⟩⟩
    refine ⟨_, rfl, _, _, rfl, rfl, _, rfl, ?_⟩
    refine ite2 (fun h => ?g1) (fun h => ?g2)
    case' g1 =>
      have hp : 0 < d := of_decide_eq_true h
      rw [if_pos hp] at m1 m2
      obtain ⟨c1, c2⟩ := two g (by rw [if_pos hp])
      refine ⟨_, rfl, _, rfl, _, _, rfl, ?_⟩
      rw [hg]
    case' g2 =>
      have hp : ¬ 0 < d := fun z => h (decide_eq_true z)
      rw [if_neg hp] at m1 m2
      obtain ⟨c1, c2⟩ := two (-(g : Int)) (by rw [if_neg hp])
      refine ⟨_, rfl, _, rfl, _, _, rfl, ?_⟩
      rw [hg]
      refine ⟨_, rfl, ?_⟩
    all_goals
      refine ⟨_, rfl, _, rfl, _, _, rfl, rfl, c1, _, rfl, _, rfl, _, _, rfl, rfl, c2, (show 2 ≤ sizeLine by decide), fun p hp => ?_⟩
      dsimp only
      rw [m1, m2]
      have hT : SqT K (upd H p (HO.tup [V.int (Rat.divInt a d).num, V.int ((Rat.divInt a d).den : Int)])) p [.int (Rat.divInt a d).num, .int ((Rat.divInt a d).den : Int)] := SqT.of upd_same
      have l1 : ¬ (10 ^ 60 : Int) < (if (Rat.divInt a d).num < 0 then - (Rat.divInt a d).num else (Rat.divInt a d).num) := by
        have := hfit.1
        unfold lim at this
        split <;> omega
      have l2 : ¬ (10 ^ 60 : Int) < ((Rat.divInt a d).den : Int) := by
        have := hfit.2
        unfold lim at this
        omega
      refine ⟨_, rfl, _, _, _, _, rfl, rfl, hT, atI_nat (j := 0) rfl, _, rfl, _, _, rfl, rfl, _, rfl, ?_⟩
      rw [decide_eq_false l1]
      refine iteF ?_
      refine ⟨_, rfl, _, _, _, _, rfl, rfl, hT, atI_nat (j := 1) rfl, _, _, rfl, rfl, _, rfl, ?_⟩
      rw [decide_eq_false l2]
      refine iteF ⟨_, rfl, ?_⟩
      exact k _ _ (Gw.new _ hp) ⟨⟨p, rfl, hT⟩, hfit⟩
end
end K44


set_option Elab.async false
set_option linter.all false
set_option maxRecDepth 100000
set_option maxHeartbeats 4000000
set_option exponentiation.threshold 3000
/-! The operations on parts. -/
namespace K44
open PySem L2
open LP (Fit lim)
theorem den_ne (a : Rat) : (a.den : Int) ≠ 0 := by have := a.den_nz; omega
theorem add_mk (a b : Rat) : Rat.divInt (a.num * b.den + b.num * a.den) (a.den * b.den) = a + b := by
  rw [← Rat.divInt_add_divInt _ _ (den_ne a) (den_ne b), Rat.num_divInt_den, Rat.num_divInt_den]
theorem sub_mk (a b : Rat) : Rat.divInt (a.num * b.den - b.num * a.den) (a.den * b.den) = a - b := by
  rw [← Rat.divInt_sub_divInt _ _ (den_ne a) (den_ne b), Rat.num_divInt_den, Rat.num_divInt_den]
theorem mul_mk (a b : Rat) : Rat.divInt (a.num * b.num) (a.den * b.den) = a * b := by
  rw [← Rat.divInt_mul_divInt, Rat.num_divInt_den, Rat.num_divInt_den]
theorem div_mk (a b : Rat) : Rat.divInt (a.num * b.den) (a.den * b.num) = a / b := by
  rw [← Rat.divInt_mul_divInt, Rat.num_divInt_den, ← Rat.inv_divInt, Rat.num_divInt_den, Rat.div_def]
theorem wide_nn {a b : Rat} (ha : Fit a) (hb : Fit b) : CMulW a.num b.num := wide_mul (Fit.num_lt ha) (Fit.num_lt hb) (by decide) (by decide) (by decide)
theorem wide_nd {a b : Rat} (ha : Fit a) (hb : Fit b) : CMulW a.num b.den := wide_mul (Fit.num_lt ha) (Fit.den_lt hb) (by decide) (by decide) (by decide)
theorem wide_dn {a b : Rat} (ha : Fit a) (hb : Fit b) : CMulW a.den b.num := wide_mul (Fit.den_lt ha) (Fit.num_lt hb) (by decide) (by decide) (by decide)
theorem wide_dd {a b : Rat} (ha : Fit a) (hb : Fit b) : CMulW a.den b.den := wide_mul (Fit.den_lt ha) (Fit.den_lt hb) (by decide) (by decide) (by decide)
theorem lt_1000 {i j : Int} (h : (i * j).natAbs < 2 ^ (200 + 200)) : (i * j).natAbs < 2 ^ 1000 := Nat.lt_trans h (Nat.pow_lt_pow_of_lt (by decide) (by decide))
section
variable {P : Program} {w : World} {K : PySem.W.Frag} {mg : Str → Option Value} {base : Heap}
theorem sc2p : FnScope ["one", "other"] ["one", "other"] (defScope sPlus) := ⟨rfl, rfl, rfl, by decide +kernel, rfl, by decide +kernel, by decide +kernel⟩
theorem sc2m : FnScope ["one", "other"] ["one", "other"] (defScope sMinus) := ⟨rfl, rfl, rfl, by decide +kernel, rfl, by decide +kernel, by decide +kernel⟩
theorem sc2t : FnScope ["one", "other"] ["one", "other"] (defScope sTimes) := ⟨rfl, rfl, rfl, by decide +kernel, rfl, by decide +kernel, by decide +kernel⟩
theorem sc2o : FnScope ["one", "other"] ["one", "other"] (defScope sOver) := ⟨rfl, rfl, rfl, by decide +kernel, rfl, by decide +kernel, by decide +kernel⟩
theorem sc2l : FnScope ["one", "other"] ["one", "other"] (defScope sLess) := ⟨rfl, rfl, rfl, by decide +kernel, rfl, by decide +kernel, by decide +kernel⟩
abbrev CPart (P : Program) (w : World) (K : PySem.W.Frag) (mg : Str → Option Value) (base : Heap) := Cal P w K mg base "part" 1 ["one", "other"] (spPart K)
theorem ok_plus {f : Addr} {fd : FuncData} (F : Fun K "plus" "plus" sPlus f fd) (C : CPart P w K mg base) : FnOk P w K mg base CX0 2 f fd ["one", "other"] (sp2 K (· + ·)) := by
  refine F.ok sc2p (fun vs H Q E h => ?_) (fun cdv A outer s H vs Q E hr h => ?_)
  · obtain ⟨x, y, a, b, rfl, _⟩ := h
    rfl
  · obtain ⟨x, y, a, b, rfl, ⟨⟨p, rfl, hp⟩, fa⟩, ⟨⟨q, rfl, hq⟩, fb⟩, hfit, k⟩ := h
    refine ⟨_, pss_one (ps_ret (pe_call C.ok hr rfl C.hm C.kp C.b .nil pass0 (pa_cons (pe_op op_add (pe_op op_mulW (pe_ix ix_tup (pv 0) pe_int (fun _ _ => rfl)) (pe_ix ix_tup (pv 1) pe_int (fun _ _ => rfl)))
      (pe_op op_mulW (pe_ix ix_tup (pv 1) pe_int (fun _ _ => rfl)) (pe_ix ix_tup (pv 0) pe_int (fun _ _ => rfl))))
      (pa_cons (pe_op op_mulW (pe_ix ix_tup (pv 0) pe_int (fun _ _ => rfl)) (pe_ix ix_tup (pv 1) pe_int (fun _ _ => rfl))) pa_nil)))), ?_⟩
    refine ⟨_, rfl, _, _, _, _, rfl, rfl, hp, atI_nat (j := 0) rfl, _, rfl, _, _, _, _, rfl, rfl, hq, atI_nat (j := 1) rfl, _, _, rfl, rfl, wide_nd fa fb,
      _, rfl, _, _, _, _, rfl, rfl, hq, atI_nat (j := 0) rfl, _, rfl, _, _, _, _, rfl, rfl, hp, atI_nat (j := 1) rfl, _, _, rfl, rfl, wide_nd fb fa, _, _, rfl, rfl,
      _, rfl, _, _, _, _, rfl, rfl, hp, atI_nat (j := 1) rfl, _, rfl, _, _, _, _, rfl, rfl, hq, atI_nat (j := 1) rfl, _, _, rfl, rfl, wide_dd fa fb,
      _, _, rfl, Int.mul_ne_zero (den_ne a) (den_ne b), lt_1000 (wide_lt (Fit.den_lt fa) (Fit.den_lt fb)), (by rw [add_mk]; exact hfit), fun v H' g r => k v H' g ?_⟩
    rw [add_mk] at r
    exact r
theorem ok_minus {f : Addr} {fd : FuncData} (F : Fun K "minus" "minus" sMinus f fd) (C : CPart P w K mg base) : FnOk P w K mg base CX0 2 f fd ["one", "other"] (sp2 K (· - ·)) := by
  refine F.ok sc2m (fun vs H Q E h => ?_) (fun cdv A outer s H vs Q E hr h => ?_)
  · obtain ⟨x, y, a, b, rfl, _⟩ := h
    rfl
  · obtain ⟨x, y, a, b, rfl, ⟨⟨p, rfl, hp⟩, fa⟩, ⟨⟨q, rfl, hq⟩, fb⟩, hfit, k⟩ := h
    refine ⟨_, pss_one (ps_ret (pe_call C.ok hr rfl C.hm C.kp C.b .nil pass0 (pa_cons (pe_op op_sub (pe_op op_mulW (pe_ix ix_tup (pv 0) pe_int (fun _ _ => rfl)) (pe_ix ix_tup (pv 1) pe_int (fun _ _ => rfl)))
      (pe_op op_mulW (pe_ix ix_tup (pv 1) pe_int (fun _ _ => rfl)) (pe_ix ix_tup (pv 0) pe_int (fun _ _ => rfl))))
      (pa_cons (pe_op op_mulW (pe_ix ix_tup (pv 0) pe_int (fun _ _ => rfl)) (pe_ix ix_tup (pv 1) pe_int (fun _ _ => rfl))) pa_nil)))), ?_⟩
    refine ⟨_, rfl, _, _, _, _, rfl, rfl, hp, atI_nat (j := 0) rfl, _, rfl, _, _, _, _, rfl, rfl, hq, atI_nat (j := 1) rfl, _, _, rfl, rfl, wide_nd fa fb,
      _, rfl, _, _, _, _, rfl, rfl, hq, atI_nat (j := 0) rfl, _, rfl, _, _, _, _, rfl, rfl, hp, atI_nat (j := 1) rfl, _, _, rfl, rfl, wide_nd fb fa, _, _, rfl, rfl,
      _, rfl, _, _, _, _, rfl, rfl, hp, atI_nat (j := 1) rfl, _, rfl, _, _, _, _, rfl, rfl, hq, atI_nat (j := 1) rfl, _, _, rfl, rfl, wide_dd fa fb,
      _, _, rfl, Int.mul_ne_zero (den_ne a) (den_ne b), lt_1000 (wide_lt (Fit.den_lt fa) (Fit.den_lt fb)), (by rw [sub_mk]; exact hfit), fun v H' g r => k v H' g ?_⟩
    rw [sub_mk] at r
    exact r
theorem ok_times {f : Addr} {fd : FuncData} (F : Fun K "times" "times" sTimes f fd) (C : CPart P w K mg base) : FnOk P w K mg base CX0 2 f fd ["one", "other"] (sp2 K (· * ·)) := by
  refine F.ok sc2t (fun vs H Q E h => ?_) (fun cdv A outer s H vs Q E hr h => ?_)
  · obtain ⟨x, y, a, b, rfl, _⟩ := h
    rfl
  · obtain ⟨x, y, a, b, rfl, ⟨⟨p, rfl, hp⟩, fa⟩, ⟨⟨q, rfl, hq⟩, fb⟩, hfit, k⟩ := h
    refine ⟨_, pss_one (ps_ret (pe_call C.ok hr rfl C.hm C.kp C.b .nil pass0 (pa_cons (pe_op op_mulW (pe_ix ix_tup (pv 0) pe_int (fun _ _ => rfl)) (pe_ix ix_tup (pv 1) pe_int (fun _ _ => rfl)))
      (pa_cons (pe_op op_mulW (pe_ix ix_tup (pv 0) pe_int (fun _ _ => rfl)) (pe_ix ix_tup (pv 1) pe_int (fun _ _ => rfl))) pa_nil)))), ?_⟩
    refine ⟨_, rfl, _, _, _, _, rfl, rfl, hp, atI_nat (j := 0) rfl, _, rfl, _, _, _, _, rfl, rfl, hq, atI_nat (j := 0) rfl, _, _, rfl, rfl, wide_nn fa fb,
      _, rfl, _, _, _, _, rfl, rfl, hp, atI_nat (j := 1) rfl, _, rfl, _, _, _, _, rfl, rfl, hq, atI_nat (j := 1) rfl, _, _, rfl, rfl, wide_dd fa fb,
      _, _, rfl, Int.mul_ne_zero (den_ne a) (den_ne b), lt_1000 (wide_lt (Fit.den_lt fa) (Fit.den_lt fb)), (by rw [mul_mk]; exact hfit), fun v H' g r => k v H' g ?_⟩
    rw [mul_mk] at r
    exact r
theorem num_ne {a : Rat} (h : a ≠ 0) : a.num ≠ 0 := fun z => h (Rat.num_eq_zero.mp z)
theorem ok_over {f : Addr} {fd : FuncData} (F : Fun K "over" "over" sOver f fd) (C : CPart P w K mg base) : FnOk P w K mg base CX0 2 f fd ["one", "other"] (sp2o K) := by
  refine F.ok sc2o (fun vs H Q E h => ?_) (fun cdv A outer s H vs Q E hr h => ?_)
  · obtain ⟨x, y, a, b, rfl, _⟩ := h
    rfl
  · obtain ⟨x, y, a, b, rfl, ⟨⟨p, rfl, hp⟩, fa⟩, ⟨⟨q, rfl, hq⟩, fb⟩, hb, hfit, k⟩ := h
    refine ⟨_, pss_one (ps_ret (pe_call C.ok hr rfl C.hm C.kp C.b .nil pass0 (pa_cons (pe_op op_mulW (pe_ix ix_tup (pv 0) pe_int (fun _ _ => rfl)) (pe_ix ix_tup (pv 1) pe_int (fun _ _ => rfl)))
      (pa_cons (pe_op op_mulW (pe_ix ix_tup (pv 0) pe_int (fun _ _ => rfl)) (pe_ix ix_tup (pv 1) pe_int (fun _ _ => rfl))) pa_nil)))), ?_⟩
    refine ⟨_, rfl, _, _, _, _, rfl, rfl, hp, atI_nat (j := 0) rfl, _, rfl, _, _, _, _, rfl, rfl, hq, atI_nat (j := 1) rfl, _, _, rfl, rfl, wide_nd fa fb,
      _, rfl, _, _, _, _, rfl, rfl, hp, atI_nat (j := 1) rfl, _, rfl, _, _, _, _, rfl, rfl, hq, atI_nat (j := 0) rfl, _, _, rfl, rfl, wide_dn fa fb,
      _, _, rfl, Int.mul_ne_zero (den_ne a) (num_ne hb), lt_1000 (wide_lt (Fit.den_lt fa) (Fit.num_lt fb)), (by rw [div_mk]; exact hfit), fun v H' g r => k v H' g ?_⟩
    rw [div_mk] at r
    exact r
theorem ok_less {f : Addr} {fd : FuncData} (F : Fun K "is_less" "is_less" sLess f fd) : FnOk P w K mg base CX0 1 f fd ["one", "other"] (spLess K) := by
  refine F.ok sc2l (fun vs H Q E h => ?_) (fun cdv A outer s H vs Q E hr h => ?_)
  · obtain ⟨x, y, a, b, rfl, _⟩ := h
    rfl
  · obtain ⟨x, y, a, b, rfl, ⟨⟨p, rfl, hp⟩, fa⟩, ⟨⟨q, rfl, hq⟩, fb⟩, k⟩ := h
    refine ⟨_, pss_one (ps_ret (pe_cmpR op_lt (pe_op op_mulW (pe_ix ix_tup (pv 0) pe_int (fun _ _ => rfl)) (pe_ix ix_tup (pv 1) pe_int (fun _ _ => rfl)))
      (pe_op op_mulW (pe_ix ix_tup (pv 1) pe_int (fun _ _ => rfl)) (pe_ix ix_tup (pv 0) pe_int (fun _ _ => rfl))) (nomark _))), ?_⟩
    refine ⟨_, rfl, _, _, _, _, rfl, rfl, hp, atI_nat (j := 0) rfl, _, rfl, _, _, _, _, rfl, rfl, hq, atI_nat (j := 1) rfl, _, _, rfl, rfl, wide_nd fa fb,
      _, rfl, _, _, _, _, rfl, rfl, hq, atI_nat (j := 0) rfl, _, rfl, _, _, _, _, rfl, rfl, hp, atI_nat (j := 1) rfl, _, _, rfl, rfl, wide_nd fb fa, _, _, rfl, rfl, ?_⟩
    dsimp only
    rw [show decide (a.num * (b.den : Int) < b.num * (a.den : Int)) = decide (a < b) from decide_eq_decide.mpr (Rat.lt_iff a b).symm]
    exact k
end
end K44


set_option Elab.async false
set_option linter.all false
set_option maxRecDepth 100000
set_option maxHeartbeats 4000000
set_option exponentiation.threshold 3000
/-! Rows of parts, lists that are being made; sums. -/
namespace K44
open PySem L2
open LP (Fit lim S)

/-! ### the heap without an object of one's own -/
def rm (H : Hp) (D : Addr) : Hp := fun b => if b = D then none else H b
theorem rm_ne {H : Hp} {D b : Addr} (h : b ≠ D) : rm H D b = H b := if_neg h
theorem rm_same {H : Hp} {D : Addr} : rm H D D = none := if_pos rfl
theorem rm_some {H : Hp} {D b : Addr} {o : HO} (h : rm H D b = some o) : b ≠ D ∧ H b = some o := by
  unfold rm at h
  by_cases e : b = D
  · rw [if_pos e] at h; cases h
  · rw [if_neg e] at h; exact ⟨e, h⟩
theorem rm_none {H : Hp} {D : Addr} (h : H D = none) : rm H D = H := by
  funext b; unfold rm; split
  · rename_i e; rw [e, h]
  · rfl
theorem rm_upd {H : Hp} {D : Addr} {o : HO} : rm (upd H D o) D = rm H D := by
  funext b; unfold rm upd; split <;> rfl
theorem Gw.rm_le {H : Hp} {D : Addr} : Gw (rm H D) H := fun b o e => .inl (rm_some e).2
theorem Gw.rm_up {H : Hp} {D : Addr} {o : HO} : Gw (rm H D) (L2.upd H D o) := fun b u e => by
  obtain ⟨h1, h2⟩ := rm_some e
  exact .inl (by rw [upd_ne h1]; exact h2)
theorem Gw.rm {H H' : Hp} {D : Addr} (g : Gw H H') : Gw (K44.rm H D) (K44.rm H' D) := fun b o e => by
  obtain ⟨h1, h2⟩ := rm_some e
  rcases g b o h2 with z | ⟨ps, ps', e1, e2, t⟩
  · exact .inl (by rw [rm_ne h1]; exact z)
  · exact .inr ⟨ps, ps', e1, by rw [rm_ne h1]; exact e2, t⟩
theorem Gw.rm_free {H H' : Hp} {D : Addr} (g : Gw H H') (h : H D = none) : Gw H (K44.rm H' D) := by
  have := g.rm (D := D)
  rw [rm_none h] at this
  exact this
theorem sqT_rm {K : PySem.W.Frag} {H : Hp} {D a : Addr} {xs ys : List V} (h : SqT K H a xs) (hD : H D = some (.lst ys)) : SqT K (rm H D) a xs := by
  have ne : ∀ o, H a = some o → (∀ l, o ≠ .lst l) → a ≠ D := fun o e n z => by
    rw [z, hD] at e
    exact n ys (Option.some.inj e).symm
  rcases h with (h | ⟨o, h⟩) | h
  · exact .inl (.inl (by rw [rm_ne (ne _ h fun l z => by cases z)]; exact h))
  · exact .inl (.inr ⟨o, by rw [rm_ne (ne _ h fun l z => by cases z)]; exact h⟩)
  · exact .inr h
theorem PAt.rm {K : PySem.W.Frag} {H : Hp} {D : Addr} {v : V} {q : Rat} {ys : List V} (h : PAt K H v q) (hD : H D = some (.lst ys)) : PAt K (K44.rm H D) v q := by
  obtain ⟨⟨a, e, s⟩, f⟩ := h
  exact ⟨⟨a, e, sqT_rm s hD⟩, f⟩

/-! ### rows of parts -/
/-- the items of vs are the parts f 0, f 1, .. -/
def Items (K : PySem.W.Frag) (H : Hp) (vs : List V) (n : Nat) (f : Nat → Rat) : Prop := vs.length = n ∧ ∀ i, i < n → ∃ x, vs[i]? = some x ∧ PAt K H x (f i)
/-- a list of parts, a tuple of parts -/
def VL (K : PySem.W.Frag) (H : Hp) (v : V) (n : Nat) (f : Nat → Rat) : Prop := ∃ a vs, v = .ref a ∧ SqL K H a vs ∧ Items K H vs n f
def VT (K : PySem.W.Frag) (H : Hp) (v : V) (n : Nat) (f : Nat → Rat) : Prop := ∃ a vs, v = .ref a ∧ SqT K H a vs ∧ Items K H vs n f
section
variable {K : PySem.W.Frag} {H H' : Hp} {v : V} {n : Nat} {f : Nat → Rat}
theorem Items.gw {vs : List V} (h : Items K H vs n f) (g : Gw H H') : Items K H' vs n f := ⟨h.1, fun i hi => let ⟨x, e, p⟩ := h.2 i hi; ⟨x, e, p.gw g⟩⟩
theorem VL.gw (h : VL K H v n f) (g : Gw H H') : VL K H' v n f := let ⟨a, vs, e, s, i⟩ := h; ⟨a, vs, e, g.sqL s, i.gw g⟩
theorem VT.gw (h : VT K H v n f) (g : Gw H H') : VT K H' v n f := let ⟨a, vs, e, s, i⟩ := h; ⟨a, vs, e, g.sqT s, i.gw g⟩
theorem Items.congr {vs : List V} {f' : Nat → Rat} (h : Items K H vs n f) (e : ∀ i, i < n → f i = f' i) : Items K H vs n f' := ⟨h.1, fun i hi => by rw [← e i hi]; exact h.2 i hi⟩
theorem VL.congr {f' : Nat → Rat} (h : VL K H v n f) (e : ∀ i, i < n → f i = f' i) : VL K H v n f' := let ⟨a, vs, e1, s, i⟩ := h; ⟨a, vs, e1, s, i.congr e⟩
theorem VT.congr {f' : Nat → Rat} (h : VT K H v n f) (e : ∀ i, i < n → f i = f' i) : VT K H v n f' := let ⟨a, vs, e1, s, i⟩ := h; ⟨a, vs, e1, s, i.congr e⟩
end

/-! ### lists that are made by a comprehension -/
/-- a comprehension without tests over n turns: what is made at turn i keeps R i -/
theorem lc_grow {J : It} {n : Nat} {G : Hp → Prop} {Y : Nat → Hp → V → Hp → Prop} (w : Walk J n G Y) {g : TG} {te : TE} {vs : List Nat} {σ : L2.St} {H1 : Hp} {D : Addr} {Qd : Hp → Prop} (nD : H1 D = none) (hn : n ≤ 100000)
    (R : Nat → V → Hp → Prop) (monoR : ∀ i v H H', Gw H H' → R i v H → R i v H') (hG : ∀ H, Gw H1 H → G H)
    (step : ∀ i x H H', i < n → Gw H1 (rm H D) → Gw H1 H → (∃ xs, H D = some (.lst xs)) → Y i H x H' → ∀ C : VK, (∀ y H4, Gw H H4 → R i y (rm H4 D) → C y H4) → g x (wipe σ vs) H' fun σ2 H2 => wipe σ2 vs = wipe σ vs ∧ te σ2 H2 C)
    (hd : ∀ H xs, Gw H1 H → Gw H1 (rm H D) → H D = some (.lst xs) → xs.length = n → (∀ i, i < n → ∃ y, xs[i]? = some y ∧ R i y (rm H D)) → Qd H) :
    ∃ W : Nat → Nat → Hp → Prop, (∃ m, W 0 m (upd H1 D (.lst []))) ∧ ∀ i m H, W i m H →
      (J.stop i H ∧ Qd H) ∨ (J.go i H ∧ ∃ Nx : Hp → Prop, (∀ H', Nx H' → ∃ m', m' < m ∧ W (i + 1) m' H') ∧ ∀ x H', J.yld i H x H' → g x (wipe σ vs) H' fun σ2 H2 => wipe σ2 vs = wipe σ vs ∧ tYes σ2 H2 fun b H3 =>
        if b = true then te σ2 H3 fun y H4 => ∃ acc, H4 D = some (.lst acc) ∧ acc.length < sizeLine ∧ Nx (upd H4 D (.lst (acc ++ [y]))) else Nx H3) := by
  refine lc_it w (fun i H => ∃ xs, H D = some (.lst xs) ∧ xs.length = i ∧ Gw H1 (rm H D) ∧ ∀ j, j < i → ∃ y, xs[j]? = some y ∧ R j y (rm H D))
    ⟨[], upd_same, rfl, by rw [rm_upd, rm_none nD]; exact Gw.refl _, fun j hj => absurd hj (Nat.not_lt_zero _)⟩ (fun i H _ ⟨xs, _, _, g1, _⟩ => hG H (g1.trans Gw.rm_le)) ?_ (fun H ⟨xs, h1, h2, h3, h4⟩ => hd H xs (h3.trans Gw.rm_le) h3 h1 h2 h4)
  rintro i x H H' hi ⟨xs, h1, h2, h3, h4⟩ y
  refine step i x H H' hi h3 (h3.trans Gw.rm_le) ⟨xs, h1⟩ y _ (fun z H4 g4 r4 => ⟨xs, g4.at h1, by rw [h2]; exact Nat.lt_of_lt_of_le hi (Nat.le_trans hn (by decide)), xs ++ [z], upd_same, by simp [h2], ?_, fun j hj => ?_⟩)
  · rw [rm_upd]; exact h3.trans g4.rm
  · rw [rm_upd]
    by_cases e : j < i
    · obtain ⟨u, e1, r⟩ := h4 j e
      exact ⟨u, by rw [List.getElem?_append_left (by omega)]; exact e1, monoR _ _ _ _ g4.rm r⟩
    · have : j = i := by omega
      subst this
      exact ⟨z, by rw [List.getElem?_append_right (by omega), h2, Nat.sub_self]; rfl, r4⟩
theorem walk_zipT {K : PySem.W.Frag} {a b : Addr} {xs ys : List V} {n : Nat} (hn : n = min xs.length ys.length) : Walk (RZ.ItzT K a b) n (fun H => SqT K H a xs ∧ SqT K H b ys) (YPair (fun i => xs[i]?) (fun i => ys[i]?)) := by
  subst hn
  refine ⟨fun i _ hi q => ?_, fun _ q => ⟨xs, ys, q.1, q.2, by omega⟩, fun i H v H' _ q y => ?_⟩
  · have h1 : i < xs.length := by omega
    have h2 : i < ys.length := by omega
    exact ⟨xs, ys, xs[i], ys[i], q.1, q.2, by simp [h1], by simp [h2]⟩
  · obtain ⟨T, x, z, h1, h2, h3, h4, h5⟩ := y
    exact ⟨T, x, z, h1, h2, h3, h4 xs q.1, h5 ys q.2⟩
end K44


set_option Elab.async false
set_option linter.all false
set_option maxRecDepth 100000
set_option maxHeartbeats 4000000
set_option exponentiation.threshold 3000
/-! sum_of, weighed. -/
namespace K44
open PySem L2
open LP (Fit lim S)
def spSumOf (K : PySem.W.Frag) : Sp := fun vs H Q _ => ∃ (x : V) (n : Nat) (f : Nat → Rat), vs = [x] ∧ VL K H x n f ∧ (∀ k, k ≤ n → Fit (S k f)) ∧ Ans H (fun v H' => PAt K H' v (S n f)) Q
/-- two lists, or two tuples -/
def Two (K : PySem.W.Frag) (H : Hp) (x y : V) (n : Nat) (f g : Nat → Rat) : Prop := (VL K H x n f ∧ VL K H y n g) ∨ (VT K H x n f ∧ VT K H y n g)
def spWeighed (K : PySem.W.Frag) : Sp := fun vs H Q _ => ∃ (x y : V) (n : Nat) (f g : Nat → Rat), vs = [x, y] ∧ n ≤ 1000 ∧ Two K H x y n f g ∧ (∀ i, i < n → Fit (f i * g i)) ∧ (∀ k, k ≤ n → Fit (S k fun i => f i * g i)) ∧
  Ans H (fun v H' => PAt K H' v (S n fun i => f i * g i)) Q
abbrev sSumOf : Stmt := top 25
abbrev sWeighed : Stmt := top 26
section
variable {P : Program} {w : World} {K : PySem.W.Frag} {mg : Str → Option Value} {base : Heap}
theorem scSumOf : FnScope ["rows", "found", "one"] ["rows"] (defScope sSumOf) := ⟨rfl, rfl, rfl, by decide +kernel, rfl, by decide +kernel, by decide +kernel⟩
theorem scWeighed : FnScope ["row", "other", "one", "two"] ["row", "other"] (defScope sWeighed) := ⟨rfl, rfl, rfl, by decide +kernel, rfl, by decide +kernel, by decide +kernel⟩
abbrev C2 (P : Program) (w : World) (K : PySem.W.Frag) (mg : Str → Option Value) (base : Heap) (x : Str) (f : Rat → Rat → Rat) := Cal P w K mg base x 2 ["one", "other"] (sp2 K f)
theorem ok_sumOf {f : Addr} {fd : FuncData} (F : Fun K "sum_of" "sum_of" sSumOf f fd) (T : Txt K mg) (C : C2 P w K mg base "plus" (· + ·)) : FnOk P w K mg base CX0 3 f fd ["rows"] (spSumOf K) := by
  refine F.ok scSumOf (fun vs H Q E h => ?_) (fun cdv A outer s H vs Q E hr h => ?_)
  · obtain ⟨x, n, f, rfl, _⟩ := h
    rfl
  · obtain ⟨x, n, f, rfl, ⟨a, vs, rfl, hs, hlen, hit⟩, hfit, k⟩ := h
    obtain ⟨az, hz, zt⟩ := T.zero
    refine ⟨_, pss_cons (ps_set (i := 1) scSumOf.nd rfl (Or.inl rfl) (pe_glob (v := .ref az) rfl hz rfl))
      (pss_cons (ps_for PassesOwn.never rfl (pi_list (pv 0)) (pg_name (i := 2) scSumOf.nd rfl (Or.inl rfl)) (pss_one (ps_set (i := 1) scSumOf.nd rfl (Or.inl rfl) (pe_call C.ok hr rfl C.hm C.kp C.b .nil pass0 (pa_cons (pv 1) (pa_cons (pv 2) pa_nil))))))
      (pss_one (ps_ret (pv 1)))), ?_⟩
    refine ⟨_, rfl, a, rfl, ⟨_, hs⟩, for_it (walk_list (xs := vs)) (fun i σ H' => ∃ (v : V) (o : Option V), σ = [some (.ref a), some v, o] ∧ Gw H H' ∧ PAt K H' v (S i f)) ⟨.ref az, none, rfl, Gw.refl _, ⟨⟨az, rfl, zt H⟩, fit_zero⟩⟩
      (fun i σ H' _ ⟨_, _, _, g, _⟩ => g.sqL hs) ?_ ?_⟩
    · rintro i x σ H1 H' hi ⟨v, o, rfl, g, hv⟩ ⟨rfl, hx⟩
      obtain ⟨x', hx', px⟩ := hit i (by omega)
      rw [hx] at hx'
      cases hx'
      refine ⟨_, rfl, _, rfl, _, _, S i f, f i, rfl, hv, px.gw g, hfit (i + 1) (by omega), fun v' H2 g2 r => ?_⟩
      exact ⟨v', _, rfl, g.trans g2, r⟩
    · rintro σ H' ⟨v, o, rfl, g, hv⟩
      rw [hlen] at hv
      exact ⟨_, rfl, k _ _ g hv⟩
theorem ok_weighed {f : Addr} {fd : FuncData} (F : Fun K "weighed" "weighed" sWeighed f fd) (T : Txt K mg) (C : C2 P w K mg base "times" (· * ·)) (D : Cal P w K mg base "sum_of" 3 ["rows"] (spSumOf K)) :
    FnOk P w K mg base CX0 4 f fd ["row", "other"] (spWeighed K) := by
  refine F.ok scWeighed (fun vs H Q E h => ?_) (fun cdv A outer s H vs Q E hr h => ?_)
  · obtain ⟨x, y, n, f, g, rfl, _⟩ := h
    rfl
  · obtain ⟨x, y, n, f, g, rfl, hn, h2, hf, hs, k⟩ := h
    refine ⟨_, pss_one (ps_ret (pe_call D.ok hr rfl D.hm D.kp D.b .nil pass0 (pa_cons
      (pe_lc (own := [("one", 2), ("two", 3)]) (g := gTup K 2 (gCons (gName 2) (gCons (gName 3) gNil))) (tt := tYes) rfl scWeighed.nd (RZ.pi_zipA rfl T.zip (pa_cons (pv 0) (pa_cons (pv 1) pa_nil))) (blkOk_by (N := ["row", "other", "one", "two"]) (sc := defScope sWeighed) (by decide +kernel))
        (fun _ _ _ _ _ => pg_tup rfl (pgs_cons (pg_name (i := 2) scWeighed.nd rfl (Or.inl rfl)) (pgs_cons (pg_name (i := 3) scWeighed.nd rfl (Or.inl rfl)) pgs_nil))) (fun _ _ _ _ _ => pts_nil)
        (fun _ _ _ _ _ => pe_call C.ok (hr.mono (by decide)) rfl C.hm C.kp C.b .nil pass0 (pa_cons (pv 2) (pa_cons (pv 3) pa_nil)))) pa_nil))), ?_⟩
    rcases h2 with ⟨⟨a, vs, rfl, ha, hx⟩, ⟨b, ys, rfl, hb, hy⟩⟩ | ⟨⟨a, vs, rfl, ha, hx⟩, ⟨b, ys, rfl, hb, hy⟩⟩
    · refine ⟨_, rfl, _, rfl, a, b, vs, ys, rfl, .inl ⟨ha, hb, fun L hL => lc_grow (walk_zip (K := K) (a := a) (b := b) (xs := vs) (ys := ys) (n := n) (by rw [hx.1, hy.1]; omega)) hL (by omega) (fun i v H => PAt K H v (f i * g i)) (fun _ _ _ _ g r => r.gw g)
        (fun H' gw => ⟨gw.sqL ha, gw.sqL hb⟩) (fun i x H1 H' hi _ g1 ⟨zs, hL1⟩ hY C hC => ?_) (fun H' zs g1 g2 hL1 hlen hz => ?_)⟩⟩
      · obtain ⟨p, u, v, rfl, hp, rfl, e1, e2⟩ := hY
        obtain ⟨u', e1', pu⟩ := hx.2 i hi
        obtain ⟨v', e2', pv⟩ := hy.2 i hi
        have e1 : vs[i]? = some u := e1
        have e2 : ys[i]? = some v := e2
        rw [e1] at e1'; cases e1'
        rw [e2] at e2'; cases e2'
        refine ⟨p, _, rfl, SqT.of upd_same, rfl, _, _, rfl, _, _, rfl, rfl, rfl, _, rfl, _, rfl, _, _, f i, g i, rfl, (pu.gw g1).gw (Gw.new _ hp), (pv.gw g1).gw (Gw.new _ hp), hf i hi, fun z H4 g4 r => ?_⟩
        have hg : Gw H1 H4 := (Gw.new _ hp).trans g4
        exact hC z H4 hg (r.rm (hg.at hL1))
      · exact ⟨_, n, fun i => f i * g i, rfl, ⟨L, zs, rfl, SqL.of hL1, hlen, fun i hi => let ⟨y, e, r⟩ := hz i hi; ⟨y, e, r.gw Gw.rm_le⟩⟩, hs, fun v H2 g3 r => k v H2 (g1.trans g3) r⟩
    · refine ⟨_, rfl, _, rfl, a, b, vs, ys, rfl, .inr ⟨ha, hb, fun L hL => lc_grow (walk_zipT (K := K) (a := a) (b := b) (xs := vs) (ys := ys) (n := n) (by rw [hx.1, hy.1]; omega)) hL (by omega) (fun i v H => PAt K H v (f i * g i)) (fun _ _ _ _ g r => r.gw g)
        (fun H' gw => ⟨gw.sqT ha, gw.sqT hb⟩) (fun i x H1 H' hi _ g1 ⟨zs, hL1⟩ hY C hC => ?_) (fun H' zs g1 g2 hL1 hlen hz => ?_)⟩⟩
      · obtain ⟨p, u, v, rfl, hp, rfl, e1, e2⟩ := hY
        obtain ⟨u', e1', pu⟩ := hx.2 i hi
        obtain ⟨v', e2', pv⟩ := hy.2 i hi
        have e1 : vs[i]? = some u := e1
        have e2 : ys[i]? = some v := e2
        rw [e1] at e1'; cases e1'
        rw [e2] at e2'; cases e2'
        refine ⟨p, _, rfl, SqT.of upd_same, rfl, _, _, rfl, _, _, rfl, rfl, rfl, _, rfl, _, rfl, _, _, f i, g i, rfl, (pu.gw g1).gw (Gw.new _ hp), (pv.gw g1).gw (Gw.new _ hp), hf i hi, fun z H4 g4 r => ?_⟩
        have hg : Gw H1 H4 := (Gw.new _ hp).trans g4
        exact hC z H4 hg (r.rm (hg.at hL1))
      · exact ⟨_, n, fun i => f i * g i, rfl, ⟨L, zs, rfl, SqL.of hL1, hlen, fun i hi => let ⟨y, e, r⟩ := hz i hi; ⟨y, e, r.gw Gw.rm_le⟩⟩, hs, fun v H2 g3 r => k v H2 (g1.trans g3) r⟩
end
end K44


set_option Elab.async false
set_option linter.all false
set_option maxRecDepth 100000
set_option maxHeartbeats 4000000
set_option exponentiation.threshold 3000
/-! is_number, is_part, is_places, is_system. -/
namespace K44
open PySem L2
open LP (Fit lim S)
/-- a def whose code object stands at c -/
structure FunC (K : PySem.W.Frag) (x qual : Str) (st : Stmt) (c f : Addr) (fd : FuncData) : Prop where
  ex : ∃ (oc : Value) (od : Option Addr) (kV doc pm : Value) (an : Option Addr) (ct : Value) (osl : Array (Option Value)),
    fd = PySem.W.fnOf x qual (defArgs st) (defBody st) (defScope st) .none kV doc pm an (.ref c) ct ∧ K.lookup f = some ⟨oc, od, .func fd, osl⟩ ∧ PySem.W.codeIn K (.ref c) qual = true
  kp : PySem.W.keepIn K (.ref f) = true
section
variable {P : Program} {w : World} {K : PySem.W.Frag} {mg : Str → Option Value} {base : Heap}
theorem FunC.ok {x qual : Str} {st : Stmt} {c f : Addr} {fd : FuncData} {N ps : List Str} {k : Nat} {sp : Sp} (F : FunC K x qual st c f fd) (S : FnScope N ps (defScope st)) (len : ∀ vs H Q E, sp vs H Q E → vs.length = ps.length)
    (hbody : ∀ (A : Around) (outer : List Env) (s : Shared) (H : Hp) (vs : List V) (Q : VK) (E : XK), Room k (A.deeper (PyProof.Rows.envOfC qual (defScope st) s.heap.objs.size f (.ref c))) → sp vs H Q E →
      ∃ t, PSs (cxOf CX0 P w K mg base N qual (defScope st) f (.ref c) A outer s H E).nox (defBody st) t ∧ t { nx := fun _ H' => Q .non H', rt := Q } (start N vs) H) : FnOk P w K mg base CX0 (k + 1) f fd ps sp := by
  obtain ⟨oc, od, kV, doc, pm, an, ct, osl, rfl, lk, hcd⟩ := F.ex
  refine fn_of lk hcd S len fun A outer s H vs Q E hr hsp => ?_
  obtain ⟨t, h, q⟩ := hbody A outer s H vs Q E hr hsp
  exact ⟨t, h.nox, q⟩
end

/-! ### walks of generator expressions -/
/-- n turns; those before k do not stop, the k-th (if k < n) stops -/
theorem plan_it {J : It} {n : Nat} {G : Hp → Prop} {Y : Nat → Hp → V → Hp → Prop} (w : Walk J n G Y) {stopB : Bool} {g : TG} {te : TE} {vs : List Nat} {σ : L2.St} {H0 : Hp} {Qe Qs : Hp → Prop} (tr : Nat → Bool)
    (hG : ∀ H, Gw H0 H → G H)
    (step : ∀ i x H H', i < n → Gw H0 H → Y i H x H' → ∀ C : VK, (∀ H4, Gw H H4 → C (.bl (tr i)) H4) → g x (wipe σ vs) H' fun σ2 H2 => wipe σ2 vs = wipe σ vs ∧ te σ2 H2 C)
    (hs : ∀ i H, i < n → (∀ j, j < i → tr j ≠ stopB) → tr i = stopB → Gw H0 H → Qs H) (he : ∀ H, (∀ i, i < n → tr i ≠ stopB) → Gw H0 H → Qe H) :
    ∃ W : Nat → Nat → Hp → Prop, (∃ m, W 0 m H0) ∧ GA.Plan J stopB g te vs σ Qe Qs W := by
  refine ⟨fun i m H => m = n - i ∧ i ≤ n ∧ Gw H0 H ∧ ∀ j, j < i → tr j ≠ stopB, ⟨n, by simp, Nat.zero_le _, Gw.refl _, fun j hj => absurd hj (Nat.not_lt_zero _)⟩, ?_⟩
  rintro i m H ⟨rfl, hi, g1, p⟩
  have q := hG H g1
  by_cases hlt : i < n
  · refine .inr ⟨w.goes i H hlt q, fun H' => Gw H0 H' ∧ ∀ j, j < i + 1 → tr j ≠ stopB, fun H' p' => ⟨n - (i + 1), by omega, rfl, hlt, p'.1, p'.2⟩, fun x H' y => ?_⟩
    refine step i x H H' hlt g1 (w.yields i H x H' hlt q y) _ fun H4 g4 => ⟨tr i, rfl, ?_⟩
    by_cases e : tr i = stopB
    · rw [if_pos e]; exact hs i H4 hlt p e (g1.trans g4)
    · rw [if_neg e]
      exact ⟨g1.trans g4, fun j hj => by
        by_cases h : j < i
        · exact p j h
        · have : j = i := by omega
          subst this; exact e⟩
  · have e : i = n := by omega
    subst e
    exact .inl ⟨w.stops H q, he H p g1⟩
theorem walk_tupY {K : PySem.W.Frag} {a : Addr} {xs : List V} {n : Nat} (hn : xs.length = n) : Walk (Itt K a) n (fun H => SqT K H a xs) (YAt xs) := by
  subst hn; exact walk_tup

abbrev sIsNumber : Stmt := top 10
abbrev sIsPart : Stmt := top 16
abbrev sIsSystem : Stmt := top 42
abbrev sIsPlaces : Stmt := top 43
def spIsNumber : Sp := fun vs H Q _ => ∃ a l u : Int, vs = [.int a, .int l, .int u] ∧ Q (.bl (decide (l ≤ a) && decide (a ≤ u))) H
def spIsPart (K : PySem.W.Frag) : Sp := fun vs H Q _ => ∃ (x : V) (q : Rat), vs = [x] ∧ PAt K H x q ∧ Q (.bl true) H
section
variable {P : Program} {w : World} {K : PySem.W.Frag} {mg : Str → Option Value} {base : Heap}
theorem scIsNumber : FnScope ["value", "least", "most"] ["value", "least", "most"] (defScope sIsNumber) := ⟨rfl, rfl, rfl, by decide +kernel, rfl, by decide +kernel, by decide +kernel⟩
theorem scIsPart : FnScope ["value"] ["value"] (defScope sIsPart) := ⟨rfl, rfl, rfl, by decide +kernel, rfl, by decide +kernel, by decide +kernel⟩
theorem ok_isNumber {f : Addr} {fd : FuncData} (F : Fun K "is_number" "is_number" sIsNumber f fd) (T : Txt K mg) : FnOk P w K mg base CX0 1 f fd ["value", "least", "most"] spIsNumber := by
  refine F.ok scIsNumber (fun vs H Q E h => ?_) (fun cdv A outer s H vs Q E hr h => ?_)
  · obtain ⟨a, l, u, rfl, _⟩ := h
    rfl
  · obtain ⟨a, l, u, rfl, k⟩ := h
    refine ⟨_, pss_one (ps_ret (pe_and (pe_callB call_isi (by rfl) T.isi (by decide +kernel) (pa_cons (pv 0) (pa_cons (pe_bltn (v := .ty "int") (by rfl) T.int (by decide +kernel) rfl) pa_nil)))
      (pe_and (pe_not (pe_callB call_isi (by rfl) T.isi (by decide +kernel) (pa_cons (pv 0) (pa_cons (pe_bltn (v := .ty "bool") (by rfl) T.bool (by decide +kernel) rfl) pa_nil))))
      (pe_one (pe_chain op_le op_le (pv 1) (pv 0) (pv 2)))))), ?_⟩
    refine ⟨_, rfl, _, _, _, _, _, rfl, .ty _, .base (.int _), kit_ty (r := true) (by decide +kernel), _, rfl, ?_⟩
    refine iteT ?_
    refine ⟨_, rfl, _, _, _, _, _, rfl, .ty _, .base (.int _), kit_ty (r := false) (by decide +kernel), _, rfl, _, rfl, ?_⟩
    refine iteT ?_
    refine ⟨_, rfl, _, rfl, _, _, rfl, rfl, _, rfl, ?_⟩
    by_cases h : l ≤ a
    · rw [decide_eq_true h] at k ⊢
      refine iteT ⟨_, rfl, _, _, rfl, rfl, ?_⟩
      exact k
    · rw [decide_eq_false h] at k ⊢
      exact iteF k
theorem tyx_tup {H : Hp} {a : Addr} {xs : List V} (h : SqT K H a xs) : TyX K H (.ref a) (.type "tuple") := by
  rcases h with (h | ⟨o, h⟩) | ⟨o, its, n, h1, h2, _⟩
  · exact .base (.tup h)
  · exact .fTuple h
  · exact .kTuple h1 h2
theorem tyx_lst {H : Hp} {a : Addr} {xs : List V} (h : SqL K H a xs) : TyX K H (.ref a) (.type "list") := by
  rcases h with (h | ⟨o, h⟩) | ⟨o, its, n, h1, h2, _⟩
  · exact .base (.lst h)
  · exact .base (.frz h)
  · exact .kList h1 h2
theorem ok_isPart {f : Addr} {fd : FuncData} (F : Fun K "is_part" "is_part" sIsPart f fd) (T : Txt K mg) (C : Cal P w K mg base "is_number" 1 ["value", "least", "most"] spIsNumber) : FnOk P w K mg base CX0 2 f fd ["value"] (spIsPart K) := by
  refine F.ok scIsPart (fun vs H Q E h => ?_) (fun cdv A outer s H vs Q E hr h => ?_)
  · obtain ⟨x, q, rfl, _⟩ := h
    rfl
  · obtain ⟨x, q, rfl, ⟨⟨a, rfl, hs⟩, fq⟩, k⟩ := h
    obtain ⟨t, hM⟩ := T.most
    refine ⟨_, pss_cons (ps_if (PW.pt (pw_or (pt_not (pt_val (pe_callB call_isi (by rfl) T.isi (by decide +kernel) (pa_cons (pv 0) (pa_cons (pe_bltn (v := .ty "tuple") (by rfl) T.tuple (by decide +kernel) rfl) pa_nil)))))
        (pw_or1 (pt_cmpR op_ne (pe_callB call_len_seq (by rfl) T.len PySem.boot_len (pa_cons (pv 0) pa_nil)) pe_int (nomark _))))) (pss_one ps_never) pss_nil)
      (pss_cons (ps_if (PW.pt (pw_or (pt_not (pt_val (pe_call C.ok hr rfl C.hm C.kp C.b .nil pass0 (pa_cons (pe_ix ix_tup (pv 0) pe_int (fun _ _ => rfl)) (pa_cons (pe_un un_neg (pe_glob (v := .int (10 ^ 60)) rfl hM ⟨t, rfl⟩)) (pa_cons (pe_glob (v := .int (10 ^ 60)) rfl hM ⟨t, rfl⟩) pa_nil))))))
          (pw_or1 (pt_not (pt_val (pe_call C.ok hr rfl C.hm C.kp C.b .nil pass0 (pa_cons (pe_ix ix_tup (pv 0) pe_int (fun _ _ => rfl)) (pa_cons pe_int (pa_cons (pe_glob (v := .int (10 ^ 60)) rfl hM ⟨t, rfl⟩) pa_nil))))))))) (pss_one ps_never) pss_nil)
      (pss_one (ps_ret (pe_cmpR op_eq (pe_callBfun cr_gcd rfl T.gcd (pa_cons (pe_ix ix_tup (pv 0) pe_int (fun _ _ => rfl)) (pa_cons (pe_ix ix_tup (pv 0) pe_int (fun _ _ => rfl)) pa_nil))) pe_int (nomark _))))), ?_⟩
    have hn := fq.1
    have hd := fq.2
    have hp := q.den_pos
    unfold lim at hn hd
    refine ⟨_, rfl, _, _, _, _, _, rfl, .ty _, tyx_tup hs, kit_ty (r := true) (by decide +kernel), _, rfl, ?_⟩
    refine iteF ?_
    refine ⟨_, rfl, a, _, rfl, .inr hs, rfl, _, rfl, ?_⟩
    refine iteF ?_
    refine ⟨_, rfl, _, _, _, _, rfl, rfl, hs, atI_nat (j := 0) rfl, _, rfl, _, _, _, rfl, _, rfl, ?_⟩
    rw [decide_eq_true (show (-(10 ^ 60) : Int) ≤ q.num by omega), decide_eq_true (show q.num ≤ (10 ^ 60 : Int) by omega)]
    refine iteF ?_
    refine ⟨_, rfl, _, _, _, _, rfl, rfl, hs, atI_nat (j := 1) rfl, _, _, _, rfl, _, rfl, ?_⟩
    rw [decide_eq_true (show (1 : Int) ≤ q.den by omega), decide_eq_true (show (q.den : Int) ≤ (10 ^ 60 : Int) by omega)]
    refine iteF ?_
    refine ⟨_, rfl, _, _, _, _, rfl, rfl, hs, atI_nat (j := 0) rfl, _, rfl, _, _, _, _, rfl, rfl, hs, atI_nat (j := 1) rfl, _, _, rfl, rfl, ?_⟩
    have hc : Nat.gcd q.num.natAbs (q.den : Int).natAbs = 1 := q.reduced
    rw [hc]
    exact k
end
end K44


set_option Elab.async false
set_option linter.all false
set_option maxRecDepth 100000
set_option maxHeartbeats 4000000
/-! The layer's rules with the written part K named. -/
namespace K44
open PySem L2
variable {X : Cx}
theorem ixL (K : PySem.W.Frag) (h : X.K = K := by rfl) : IxR X (rIxL K) := by subst h; exact ix_list
theorem ixT (K : PySem.W.Frag) (h : X.K = K := by rfl) : IxR X (rIxT K) := by subst h; exact ix_tup
def rLenK (K : PySem.W.Frag) : List V → Hp → VK → Prop := fun xs H Q => ∃ p ys, xs = [.ref p] ∧ (SqL K H p ys ∨ SqT K H p ys) ∧ Q (.int ys.length) H
theorem lenK (K : PySem.W.Frag) (h : X.K = K := by rfl) : CallR X (.builtin "len") (rLenK K) := by subst h; exact call_len_seq
theorem fldK (K : PySem.W.Frag) {e : Expr} {f : Str} {pos : Pos} {ta : TE} (he : PE X e ta) (h : X.K = K := by rfl) (hb : attributeBase e f X.env (eval e X.env) = eval e X.env := by rfl) : PE X (.Attribute e f pos) (tFld K ta f) := by
  subst h; exact pe_fld he hb
theorem eqK (K : PySem.W.Frag) (hu : X.A.units + 64 < cLine) (h : X.K = K := by rfl) : OpR X (compareOp .Eq) (rEqD K) := by subst h; exact op_eqD hu
theorem neK (K : PySem.W.Frag) (hu : X.A.units + 64 < cLine) (h : X.K = K := by rfl) : OpR X (compareOp .NotEq) (rNeD K) := by subst h; exact op_neD hu
theorem starK (K : PySem.W.Frag) {e : Expr} {es : List Expr} {te : TE} {t : TA} {p : Pos} (he : PE X e te) (hr : PA X es t) (h : X.K = K := by rfl) (hs : starEach (.Starred e p :: es) X.env = (true, eval e X.env) :: starEach es X.env := by rfl) : PA X (.Starred e p :: es) (StX.tStar K te t) := by
  subst h; exact StX.pa_star he hr hs
theorem slL (K : PySem.W.Frag) (h : X.K = K := by rfl) : SlR X (rSlL K) := by subst h; exact sl_list
theorem isiK (K : PySem.W.Frag) (h : X.K = K := by rfl) : CallR X (.builtin "isinstance") (rIsi K) := by subst h; exact call_isi
theorem zipK (K : PySem.W.Frag) {e e2 : Expr} {ta : TA} {p pos tpos : Pos} {elts : List Expr} {kk : Nat} (hg : Gl X "zip") (hm : X.mg "zip" = none) (ha : PA X [e, e2] ta) (h : X.K = K := by rfl)
    (hs : starEach [e, e2] X.env = (false, eval e X.env) :: starEach [e2] X.env := by rfl) (hpl : (backTo pos (starEach [e2] X.env)).any (·.1) = false := by rfl) :
    PI X (.Tuple elts kk tpos) (.Call (.Name "zip" p) [e, e2] [] pos) (RZ.iZipA K ta) := by subst h; exact RZ.pi_zipA hg hm ha hs hpl
theorem listK (K : PySem.W.Frag) {tg l : Expr} {tl : TE} (hl : PE X l tl) (h : X.K = K := by rfl) : PI X tg l (iList K tl) := by subst h; exact pi_list hl
theorem tupK (K : PySem.W.Frag) {tg l : Expr} {tl : TE} (hl : PE X l tl) (h : X.K = K := by rfl) : PI X tg l (iTup K tl) := by subst h; exact pi_tup hl
theorem enumK (K : PySem.W.Frag) {e : Expr} {ta : TA} {p pos tpos : Pos} {elts : List Expr} {kk : Nat} (hg : Gl X "enumerate") (hm : X.mg "enumerate" = none) (ha : PA X [e] ta) (h : X.K = K := by rfl) (hs : starEach [e] X.env = [(false, eval e X.env)] := by rfl) :
    PI X (.Tuple elts kk tpos) (.Call (.Name "enumerate" p) [e] [] pos) (iEnum K ta) := by subst h; exact pi_enum hg hm ha hs
end K44


set_option Elab.async false
set_option linter.all false
set_option maxRecDepth 100000
set_option maxHeartbeats 4000000
set_option exponentiation.threshold 3000
/-! is_places, is_system. -/
namespace K44
open PySem L2
open LP (Fit lim S)
/-- the tables of the defs that make generator expressions -/
structure Tabs where
  places : Addr
  system : Addr
  word : Addr
  names : Addr
  prices : Addr
  offer : Addr
  behind : Addr
structure TabsOk (t : Tabs) (H : Hp) : Prop where
  places : GxR.TabG H t.places
  system : GxR.TabG H t.system
  word : GxR.TabG H t.word
  names : GxR.TabG H t.names
  prices : GxR.TabG H t.prices
  offer : GxR.TabG H t.offer
  behind : GxR.TabG H t.behind
theorem TabsOk.gw {t : Tabs} {H H' : Hp} (h : TabsOk t H) (g : Gw H H') : TabsOk t H' := ⟨g.tabG h.places, g.tabG h.system, g.tabG h.word, g.tabG h.names, g.tabG h.prices, g.tabG h.offer, g.tabG h.behind⟩
def spIsPlaces (K : PySem.W.Frag) (t : Tabs) : Sp := fun vs H Q _ => ∃ (x : V) (n : Nat) (f : Nat → Rat), vs = [x, .int n] ∧ VT K H x n f ∧ TabsOk t H ∧ Ans H (fun v _ => v = .bl true) Q
section
variable {P : Program} {w : World} {K : PySem.W.Frag} {mg : Str → Option Value} {base : Heap}
theorem scIsPlaces : FnScope ["value", "many", "one"] ["value", "many"] (defScope sIsPlaces) := ⟨rfl, rfl, rfl, by decide +kernel, rfl, by decide +kernel, by decide +kernel⟩
theorem ok_isPlaces {t : Tabs} {c f : Addr} {fd : FuncData} (F : FunC K "is_places" "is_places" sIsPlaces c f fd) (T : Txt K mg) (TB : GxR.TabB base mg c t.places) (C : Cal P w K mg base "is_part" 2 ["value"] (spIsPart K)) :
    FnOk P w K mg base CX0 4 f fd ["value", "many"] (spIsPlaces K t) := by
  refine F.ok scIsPlaces (fun vs H Q E h => ?_) (fun A outer s H vs Q E hr h => ?_)
  · obtain ⟨x, n, f, rfl, _⟩ := h
    rfl
  · obtain ⟨x, n, f, rfl, ⟨a, vs, rfl, hs, hl, hit⟩, ht, k⟩ := h
    refine ⟨_, pss_one (ps_ret (pe_and (pe_callB call_isi (by rfl) T.isi (by decide +kernel) (pa_cons (pv 0) (pa_cons (pe_bltn (v := .ty "tuple") (by rfl) T.tuple (by decide +kernel) rfl) pa_nil)))
      (pe_and (pe_cmpR op_eq (pe_callB (lenK K) (by rfl) T.len PySem.boot_len (pa_cons (pv 0) pa_nil)) (pv 1) (nomark _))
      (pe_one (GA.pe_allG (own := [("one", 2)]) (g := gName 2) hr rfl scIsPlaces.nd rfl T.all TB rfl (pi_tup (pv 0)) (blkOk_by (N := ["value", "many", "one"]) (sc := defScope sIsPlaces) (by decide +kernel)) ⟨rfl, by decide +kernel, rfl⟩
        (fun _ _ _ _ _ _ => pg_name (i := 2) scIsPlaces.nd rfl (Or.inl rfl)) (fun _ _ _ _ _ _ hr' => pe_call C.ok hr' rfl C.hm C.kp C.b .nil pass0 (pa_cons (pv 2) pa_nil))))))), ?_⟩
    refine ⟨_, rfl, _, _, _, _, _, rfl, .ty _, tyx_tup hs, kit_ty (r := true) (by decide +kernel), _, rfl, ?_⟩
    refine iteT ?_
    refine ⟨_, rfl, a, _, rfl, .inr hs, _, rfl, rfl, _, rfl, ?_⟩
    rw [decide_eq_true (show V.int (vs.length : Nat) = V.int (n : Nat) by rw [hl])]
    refine iteT ?_
    refine ⟨_, rfl, a, rfl, ⟨_, hs⟩, ht.places, fun H2 tb => ?_⟩
    refine plan_it (walk_tupY hl) (H0 := H2) (fun _ => true) (fun H' g => ((Gw.tab ht.places tb).trans g).sqT hs) (fun i x H1 H' hi g y C hC => ?_) (fun _ _ _ _ z => by cases z) (fun H' _ g => k _ _ ((Gw.tab ht.places tb).trans g) rfl)
    obtain ⟨rfl, hx⟩ := y
    obtain ⟨x', e, px⟩ := hit i hi
    rw [hx] at e; cases e
    exact ⟨rfl, _, rfl, _, f i, rfl, px.gw ((Gw.tab ht.places tb).trans g), hC _ (Gw.refl _)⟩
end
/-- a tuple of tuples of parts -/
def VTT (K : PySem.W.Frag) (H : Hp) (v : V) (m n : Nat) (col : Nat → Nat → Rat) : Prop := ∃ a vs, v = .ref a ∧ SqT K H a vs ∧ vs.length = m ∧ ∀ j, j < m → ∃ x, vs[j]? = some x ∧ VT K H x n (col j)
theorem VTT.gw {K : PySem.W.Frag} {H H' : Hp} {v : V} {m n : Nat} {col : Nat → Nat → Rat} (h : VTT K H v m n col) (g : Gw H H') : VTT K H' v m n col :=
  let ⟨a, vs, e, s, l, i⟩ := h; ⟨a, vs, e, g.sqT s, l, fun j hj => let ⟨x, e, p⟩ := i j hj; ⟨x, e, p.gw g⟩⟩
def spIsSystem (K : PySem.W.Frag) (t : Tabs) : Sp := fun vs H Q _ => ∃ (R r g : V) (m n : Nat) (col : Nat → Nat → Rat) (c want : Nat → Rat), vs = [R, r, g] ∧ VTT K H R m n col ∧ VT K H r m c ∧ VT K H g n want ∧ 0 < n ∧ m ≤ 1000 ∧ n ≤ 1000 ∧ TabsOk t H ∧ Ans H (fun v _ => v = .bl true) Q
section
variable {P : Program} {w : World} {K : PySem.W.Frag} {mg : Str → Option Value} {base : Heap}
theorem scIsSystem : FnScope ["rows", "right", "goal", "one", "row"] ["rows", "right", "goal"] (defScope sIsSystem) := ⟨rfl, rfl, rfl, by decide +kernel, rfl, by decide +kernel, by decide +kernel⟩
theorem ok_isSystem {t : Tabs} {c f : Addr} {fd : FuncData} (F : FunC K "is_system" "is_system" sIsSystem c f fd) (T : Txt K mg) (TB : GxR.TabB base mg c t.system) (C : Cal P w K mg base "is_part" 2 ["value"] (spIsPart K))
    (D : Cal P w K mg base "is_places" 4 ["value", "many"] (spIsPlaces K t)) : FnOk P w K mg base CX0 6 f fd ["rows", "right", "goal"] (spIsSystem K t) := by
  refine F.ok scIsSystem (fun vs H Q E h => ?_) (fun A outer s H vs Q E hr h => ?_)
  · obtain ⟨R, r, g, m, n, col, c, want, rfl, _⟩ := h
    rfl
  · obtain ⟨R, r, g, m, n, col, c, want, rfl, ⟨aR, vR, rfl, hR, lR, iR⟩, ⟨ar, vr, rfl, hr', lr, ir⟩, ⟨ag, vg, rfl, hg, lg, ig⟩, hn, hm1, hn1, ht, k⟩ := h
    refine ⟨_, pss_cons (ps_if (PW.pt (pw_or (pt_not (pt_val (pe_callB call_isi (by rfl) T.isi (by decide +kernel) (pa_cons (pv 0) (pa_cons (pe_bltn (v := .ty "tuple") (by rfl) T.tuple (by decide +kernel) rfl) pa_nil)))))
        (pw_or (pt_not (pt_val (pe_callB call_isi (by rfl) T.isi (by decide +kernel) (pa_cons (pv 1) (pa_cons (pe_bltn (v := .ty "tuple") (by rfl) T.tuple (by decide +kernel) rfl) pa_nil)))))
        (pw_or1 (pt_not (pt_val (pe_callB call_isi (by rfl) T.isi (by decide +kernel) (pa_cons (pv 2) (pa_cons (pe_bltn (v := .ty "tuple") (by rfl) T.tuple (by decide +kernel) rfl) pa_nil)))))))) ) (pss_one ps_never) pss_nil)
      (pss_cons (ps_if (PW.pt (pw_or (pt_not (pt_val (GA.pe_allG (k := 2) (own := [("one", 3)]) (g := gName 3) (hr.mono (by decide)) rfl scIsSystem.nd rfl T.all TB rfl (pi_tup (pe_tup (starK K (pv 1) (starK K (pv 2) pa_nil))))
            (blkOk_by (N := ["rows", "right", "goal", "one", "row"]) (sc := defScope sIsSystem) (by decide +kernel)) ⟨rfl, by decide +kernel, rfl⟩
            (fun _ _ _ _ _ _ => pg_name (i := 3) scIsSystem.nd rfl (Or.inl rfl)) (fun _ _ _ _ _ _ hr' => pe_call C.ok hr' rfl C.hm C.kp C.b .nil pass0 (pa_cons (pv 3) pa_nil)))))
          (pw_or (pt_cmpR op_ne (pe_callB (lenK K) (by rfl) T.len PySem.boot_len (pa_cons (pv 0) pa_nil)) (pe_callB (lenK K) (by rfl) T.len PySem.boot_len (pa_cons (pv 1) pa_nil)) (nomark _))
          (pw_or1 (pt_cmpR op_eq (pe_callB (lenK K) (by rfl) T.len PySem.boot_len (pa_cons (pv 2) pa_nil)) pe_int (nomark _)))))) (pss_one ps_never) pss_nil)
      (pss_one (ps_ret (GA.pe_allG (k := 4) (own := [("row", 4)]) (g := gName 4) hr rfl scIsSystem.nd rfl T.all TB rfl (pi_tup (pv 0))
            (blkOk_by (N := ["rows", "right", "goal", "one", "row"]) (sc := defScope sIsSystem) (by decide +kernel)) ⟨rfl, by decide +kernel, rfl⟩
            (fun _ _ _ _ _ _ => pg_name (i := 4) scIsSystem.nd rfl (Or.inl rfl))
            (fun _ _ _ _ _ _ hr' => pe_call D.ok hr' rfl D.hm D.kp D.b .nil pass0 (pa_cons (pv 4) (pa_cons (pe_callB (lenK K) (by rfl) T.len PySem.boot_len (pa_cons (pv 2) pa_nil)) pa_nil))))))), ?_⟩
    have isT : ∀ {a : Addr} {xs : List V} {H : Hp}, SqT K H a xs → TyX K H (.ref a) (.type "tuple") := tyx_tup
    refine ⟨_, rfl, _, _, _, _, _, rfl, .ty _, isT hR, kit_ty (r := true) (by decide +kernel), _, rfl, iteF ?_⟩
    refine ⟨_, rfl, _, _, _, _, _, rfl, .ty _, isT hr', kit_ty (r := true) (by decide +kernel), _, rfl, iteF ?_⟩
    refine ⟨_, rfl, _, _, _, _, _, rfl, .ty _, isT hg, kit_ty (r := true) (by decide +kernel), _, rfl, iteF ?_⟩
    -- all the parts of right and goal
    refine ⟨_, rfl, ar, vr, rfl, .inl hr', _, rfl, ag, vg, rfl, .inl hg, ?_⟩
    refine ⟨?_, fun p hp => ?_⟩
    · show (vr ++ (vg ++ [])).length ≤ sizeLine
      rw [List.length_append, List.append_nil, lr, lg]
      exact Nat.le_trans (Nat.add_le_add hm1 hn1) (by decide)
    have g1 : Gw H (upd H p (.tup (vr ++ (vg ++ [])))) := Gw.new _ hp
    have t1 := (ht.gw g1).system
    refine ⟨p, rfl, ⟨_, SqT.of upd_same⟩, t1, fun H2 tb => ?_⟩
    have g2 : Gw H H2 := g1.trans (Gw.tab t1 tb)
    have hp2 : H2 p = some (.tup (vr ++ (vg ++ []))) := (Gw.tab t1 tb).at upd_same
    refine plan_it (walk_tupY (xs := vr ++ (vg ++ [])) (n := m + n) (by rw [List.length_append, List.append_nil, lr, lg])) (H0 := H2) (fun _ => true) (fun H' g => SqT.of (g.at hp2)) (fun i x H1 H' hi g y C hC => ?_) (fun _ _ _ _ z => by cases z) (fun H3 _ g3 => ?_)
    · obtain ⟨rfl, hx⟩ := y
      have px : ∃ q, PAt K H x q := by
        by_cases h : i < m
        · obtain ⟨x', e, px⟩ := ir i h
          rw [List.getElem?_append_left (by omega), e] at hx
          cases hx
          exact ⟨_, px⟩
        · obtain ⟨x', e, px⟩ := ig (i - m) (by omega)
          rw [List.getElem?_append_right (by omega), List.append_nil, lr, e] at hx
          cases hx
          exact ⟨_, px⟩
      obtain ⟨q, px⟩ := px
      exact ⟨rfl, _, rfl, _, q, rfl, px.gw (g2.trans g), hC _ (Gw.refl _)⟩
    have g4 := g2.trans g3
    refine ⟨_, rfl, iteF ?_⟩
    refine ⟨_, rfl, aR, _, rfl, .inr (g4.sqT hR), _, rfl, ar, _, rfl, .inr (g4.sqT hr'), rfl, _, rfl, ?_⟩
    rw [decide_eq_true (show V.int (vR.length : Nat) = V.int (vr.length : Nat) by rw [lR, lr])]
    refine iteF ?_
    refine ⟨_, rfl, ag, _, rfl, .inr (g4.sqT hg), rfl, _, rfl, ?_⟩
    rw [decide_eq_false (show ¬ V.int (vg.length : Nat) = V.int 0 from fun z => by
      have := V.int.inj z
      omega)]
    refine iteF ?_
    have t3 := (ht.gw g4).system
    refine ⟨_, rfl, aR, rfl, ⟨_, g4.sqT hR⟩, t3, fun H5 tb5 => ?_⟩
    have g5 : Gw H H5 := g4.trans (Gw.tab t3 tb5)
    refine plan_it (walk_tupY lR) (H0 := H5) (fun _ => true) (fun H' g => (g5.trans g).sqT hR) (fun i x H1 H' hi g y C hC => ?_) (fun _ _ _ _ z => by cases z) (fun H' _ g => k _ _ (g5.trans g) rfl)
    obtain ⟨rfl, hx⟩ := y
    obtain ⟨x', e, px⟩ := iR i hi
    rw [hx] at e; cases e
    refine ⟨rfl, _, rfl, _, rfl, ag, _, rfl, .inr ((g5.trans g).sqT hg), ?_⟩
    exact ⟨_, n, col i, by rw [lg]; rfl, px.gw (g5.trans g), ht.gw (g5.trans g), fun v H4 g4 e => by rw [e]; exact hC _ g4⟩
end
end K44


set_option Elab.async false
set_option linter.all false
set_option maxRecDepth 100000
set_option maxHeartbeats 4000000
set_option exponentiation.threshold 3000
/-! Equality of parts and rows of parts; meets, are_weights, mixed. -/
namespace K44
open PySem L2
open LP (Fit lim S)
/-! ### equality -/
def rowD (f : Nat → Rat) : Nat → Nat → List PyData
  | _, 0 => []
  | i, n + 1 => partD (f i) :: rowD f (i + 1) n
theorem rowD_lay (f : Nat → Rat) : ∀ n i, PyData.canLayAll0 (rowD f i n) = true
  | 0, _ => rfl
  | n + 1, i => by
    show (PyData.canLay0 (partD (f i)) && PyData.canLayAll0 (rowD f (i + 1) n)) = true
    rw [rowD_lay f n (i + 1)]; rfl
theorem rowD_depth (f : Nat → Rat) : ∀ n i, PyData.depthAll (rowD f i n) ≤ 1
  | 0, _ => Nat.zero_le _
  | n + 1, i => by
    show max (PyData.depth (partD (f i))) (PyData.depthAll (rowD f (i + 1) n)) ≤ 1
    have := rowD_depth f n (i + 1)
    have : PyData.depth (partD (f i)) = 1 := rfl
    omega
theorem row_shaped (f : Nat → Rat) (n : Nat) : SeqAt.shaped (.tuple (rowD f 0 n)) = true := by
  unfold SeqAt.shaped
  rw [show PyData.canLay0 (.tuple (rowD f 0 n)) = true from rowD_lay f n 0, Bool.true_and]
  refine decide_eq_true ?_
  show PyData.depthAll (rowD f 0 n) + 1 ≤ 64
  have := rowD_depth f n 0
  omega
theorem part_shaped (q : Rat) : SeqAt.shaped (partD q) = true := rfl
theorem part_eqv (a b : Rat) : PyData.eqv (partD a) (partD b) = decide (a = b) := by
  show ((a.num == b.num) && (((a.den : Int) == (b.den : Int)) && true)) = decide (a = b)
  by_cases h : a = b
  · subst h; simp
  · rw [decide_eq_false h]
    rw [Bool.and_true, Bool.and_eq_false_iff]
    by_cases h1 : a.num = b.num
    · right
      refine beq_eq_false_iff_ne.mpr fun z => h (Rat.ext h1 (by omega))
    · left
      exact beq_eq_false_iff_ne.mpr h1
theorem row_eqv {f g : Nat → Rat} : ∀ n i, (∀ j, i ≤ j → j < i + n → f j = g j) → PyData.eqvAll (rowD f i n) (rowD g i n) = true
  | 0, _, _ => rfl
  | n + 1, i, h => by
    show (PyData.eqv (partD (f i)) (partD (g i)) && PyData.eqvAll (rowD f (i + 1) n) (rowD g (i + 1) n)) = true
    rw [part_eqv, decide_eq_true (h i (Nat.le_refl _) (by omega)), row_eqv n (i + 1) fun j h1 h2 => h j (by omega) (by omega)]
    rfl
theorem items_dp {K : PySem.W.Frag} {H : Hp} {f : Nat → Rat} : ∀ (n i : Nat) (vs : List V), vs.length = n → (∀ j, j < n → ∃ x, vs[j]? = some x ∧ PAt K H x (f (i + j))) → DpAll K H vs (rowD f i n)
  | 0, _, [], _, _ => .nil
  | 0, _, _ :: _, h, _ => by simp at h
  | n + 1, _, [], h, _ => by simp at h
  | n + 1, i, v :: vs, h, hit => by
    obtain ⟨x, e, p⟩ := hit 0 (by omega)
    cases e
    refine .cons p.dp (items_dp n (i + 1) vs (by simpa using h) fun j hj => ?_)
    obtain ⟨x, e, p⟩ := hit (j + 1) (by omega)
    exact ⟨x, by simpa using e, by rw [show i + 1 + j = i + (j + 1) by omega]; exact p⟩
theorem VT.dp {K : PySem.W.Frag} {H : Hp} {v : V} {n : Nat} {f : Nat → Rat} (h : VT K H v n f) : Dp K H v (.tuple (rowD f 0 n)) := by
  obtain ⟨a, vs, rfl, s, l, i⟩ := h
  exact .tup s (items_dp n 0 vs l fun j hj => by rw [Nat.zero_add]; exact i j hj)

/-! ### meets -/
/-- products and their sums are parts -/
def FitsW (n : Nat) (f g : Nat → Rat) : Prop := (∀ i, i < n → Fit (f i * g i)) ∧ ∀ k, k ≤ n → Fit (S k fun i => f i * g i)
abbrev CLess (P : Program) (w : World) (K : PySem.W.Frag) (mg : Str → Option Value) (base : Heap) := Cal P w K mg base "is_less" 1 ["one", "other"] (spLess K)
abbrev CWeighed (P : Program) (w : World) (K : PySem.W.Frag) (mg : Str → Option Value) (base : Heap) := Cal P w K mg base "weighed" 4 ["row", "other"] (spWeighed K)
abbrev CSumOf (P : Program) (w : World) (K : PySem.W.Frag) (mg : Str → Option Value) (base : Heap) := Cal P w K mg base "sum_of" 3 ["rows"] (spSumOf K)
section
variable {P : Program} {w : World} {K : PySem.W.Frag} {mg : Str → Option Value} {base : Heap}
end
end K44


set_option Elab.async false
set_option linter.all false
set_option maxRecDepth 100000
set_option maxHeartbeats 4000000
/-! a tuple once: itself. -/
namespace K44
open PySem PySem.Spec PyProof.Rows L2
theorem tuple_mul1 (l : Addr) (items : Array Value) (n : Nat) (dd : Option Addr) (sl : Array (Option Value)) (u : Tok) (c1 : (items.isEmpty || (1 : Int) == 1) = true) :
    Meets (Builtin.«tuple.__mul__» ⟨[.ref l, .int 1 u], []⟩) (fun _ R s => s.heap.get? l = some { cls := .type "tuple", dict := dd, data := .seq items n, slots := sl } ∧
      R (.ok (.ret (Value.ref l))) s) :=
  .of_wp fun prog w A R s h => by
    obtain ⟨hp, g, d, tk, os⟩ := s
    obtain ⟨hl, h⟩ := h
    have f1 := AutoSeq1.idx_int
    have c0 : (decide ((1 : Int) < -(2 ^ 63)) || decide ((1 : Int) ≥ 2 ^ 63)) = false := by decide
    wp_walk using wpAny_loadPart' hl
    exact ⟨_, rfl, h⟩
def rRep1 (K : PySem.W.Frag) : R2 := fun x y H Q => ∃ l k xs, x = .ref l ∧ y = .int k ∧ SqT K H l xs ∧ xs ≠ [] ∧ 1 ≤ k ∧ k ≤ 1000 ∧ xs.length ≤ 1000 ∧ (k = 1 → Q (.ref l) H) ∧ ∀ p, H p = none → Q (.ref p) (upd H p (.tup (List.replicate k.toNat xs).flatten))
theorem op_rep1 {X : Cx} (K : PySem.W.Frag) (hK : X.K = K := by rfl) : OpR X (binaryOp .Mult) (rRep1 K) := by
  subst hK
  intro pins s σ H x y v u Q I rx ry h
  obtain ⟨l, k, xs, rfl, rfl, hT, hne, h1, h2, hz, q1, q2⟩ := h
  by_cases hk : 2 ≤ k
  · exact op_repT pins s σ H _ _ v u Q I rx ry ⟨l, k, xs, rfl, rfl, hT, hne, hk, h2, hz, q2⟩
  · have e : k = 1 := by omega
    subst e
    cases rx
    obtain ⟨t, rfl⟩ := ry
    obtain ⟨its, r, ⟨⟨cls, dd, data, sl⟩, ho, hc, n, hd⟩, hs⟩ := I.tuple hT
    simp only at hc hd
    subst hc hd
    refine wpAny_binaryOp_repeat_ref (T := "tuple") (U := "int") (by decide) ⟨_, ho, rfl⟩ (fun s' => typeIs_int s' 1 t) noFill_tuple_mul F.fills_int_mul F.slot_int_rmul repeat_tuple F.slot_int_index.lookup
      (call_meets F.slot_int_rmul (typeIs_int s 1 t) F.entry_int_rmul (F.args_int_rmul_2 _ _) (int_rmul_tuple 1 t l its.toArray n dd sl)
        ⟨ho, rfl, ⟨_, ho, rfl⟩, call_meets F.slot_tuple_mul ⟨_, ho, rfl⟩ F.entry_tuple_mul (F.args_tuple_mul_2 _ _) (tuple_mul1 l its.toArray n dd sl t (by simp)) ⟨ho, ?_⟩⟩)
    exact ⟨.ref l, H, I, rfl, q1 rfl⟩
end K44


set_option Elab.async false
set_option linter.all false
set_option maxRecDepth 100000
set_option maxHeartbeats 4000000
set_option exponentiation.threshold 3000
/-! The papers' judges. -/
namespace K44
open PySem L2
open LP (Fit lim S)
/-- a system: rows, right sides, goal -/
structure SysAt (K : PySem.W.Frag) (H : Hp) (R r g : V) (m n : Nat) (col : Nat → Nat → Rat) (c want : Nat → Rat) : Prop where
  rows : VTT K H R m n col
  right : VT K H r m c
  goal : VT K H g n want
  pos : 0 < n
  m1 : m ≤ 1000
  n1 : n ≤ 1000
theorem SysAt.gw {K : PySem.W.Frag} {H H' : Hp} {R r g : V} {m n : Nat} {col : Nat → Nat → Rat} {c want : Nat → Rat} (h : SysAt K H R r g m n col c want) (gw : Gw H H') : SysAt K H' R r g m n col c want :=
  ⟨h.rows.gw gw, h.right.gw gw, h.goal.gw gw, h.pos, h.m1, h.n1⟩
section
variable {P : Program} {w : World} {K : PySem.W.Frag} {mg : Str → Option Value} {base : Heap}
abbrev CIsSystem (P : Program) (w : World) (K : PySem.W.Frag) (mg : Str → Option Value) (base : Heap) (t : Tabs) := Cal P w K mg base "is_system" 6 ["rows", "right", "goal"] (spIsSystem K t)
abbrev CIsPlaces (P : Program) (w : World) (K : PySem.W.Frag) (mg : Str → Option Value) (base : Heap) (t : Tabs) := Cal P w K mg base "is_places" 4 ["value", "many"] (spIsPlaces K t)
theorem flat1 {α : Type} (a : α) : ∀ n : Nat, (List.replicate n [a]).flatten = List.replicate n a
  | 0 => rfl
  | n + 1 => by rw [List.replicate_succ, List.flatten_cons, flat1 a n]; rfl
theorem zeros_vt {H : Hp} {az l : Addr} {n : Nat} (zt : SqT K H az [.int 0, .int 1]) (hl : H l = some (.tup (List.replicate n (V.ref az)))) : VT K H (.ref l) n fun _ => 0 :=
  ⟨l, _, rfl, SqT.of hl, List.length_replicate .., fun i hi => ⟨.ref az, by rw [List.getElem?_replicate, if_pos hi], ⟨⟨az, rfl, zt⟩, fit_zero⟩⟩⟩
end
end K44


set_option Elab.async false
set_option linter.all false
set_option maxRecDepth 100000
set_option maxHeartbeats 4000000
/-! enumerate of a tuple. -/
namespace K44
open PySem PySem.Spec PyProof.Rows L2
theorem enumT_new (l : Addr) (items : Array Value) :
    Meets (Builtin.«enumerate.__new__» ⟨[.type "enumerate", .ref l], []⟩) (fun _ R s => s.heap.IsTuple l items ∧
      R (.ok (.ret (.ref (s.heap.push { cls := .type "tuple_iterator", data := .fields #[.ref l, .int 0 0] }).objs.size)))
        { s with heap := (s.heap.push { cls := .type "tuple_iterator", data := .fields #[.ref l, .int 0 0] }).push { cls := .type "enumerate", data := .fields #[.none, .bool false, .ref s.heap.objs.size, rawInt 0, .none, .none] } }) :=
  .of_wp fun prog w A R s h => by
    obtain ⟨hp, g, d, tk, os⟩ := s; obtain ⟨hl, h⟩ := h
    have hsub := sub_enumerate
    have hL : Heap.IsTuple (Shared.heap ⟨hp, g, d, tk, os⟩) l items := hl
    wp_walk using wpAny_pyIter_tuple hL
    refine wpAny_stack_any fun st => wpAny_pure ?_
    split
    · rename_i c _ _ _ _ _
      cases (c == Value.type "enumerate")
      · wp_walk using wpAny_pyIter_tuple hL
        exact ⟨_, rfl, h⟩
      · wp_walk using wpAny_pyIter_tuple hL
        exact ⟨_, rfl, h⟩
    · wp_walk using wpAny_pyIter_tuple hL
      exact ⟨_, rfl, h⟩
theorem call_enumT {prog : Program} {w : World} {A : Around} {E : Value → Shared → Prop} {s : Shared} {l : Addr} {items : Array Value} {Q : Value → Shared → Prop} (hL : s.heap.IsTuple l items)
    (h : ∀ h', IsEnum h' (s.heap.objs.size + 1) s.heap.objs.size 0 .none → h'.IsTupleIter s.heap.objs.size l 0 → h'.objs.size = s.heap.objs.size + 2 →
      (∀ b o, s.heap.get? b = some o → h'.get? b = some o) → Q (.ref (s.heap.objs.size + 1)) { s with heap := h' }) :
    wpAny (model prog w) A (call (.type "enumerate") [.ref l]) Q E s := by
  refine callType_new F.called_enumerate (by decide) (F.typeCall_enumerate_1 _) (F.newCall_enumerate_1 _) (fun obj => F.args_object_init_2 obj _) F.entry_enumerate_new
    (enumT_new l items) ⟨hL, ?_⟩
  have hz : (s.heap.push { cls := .type "tuple_iterator", data := .fields #[.ref l, .int 0 0] }).objs.size = s.heap.objs.size + 1 := Heap.size_push ..
  show _ ∧ _
  rw [hz]
  have he : IsEnum ((s.heap.push { cls := .type "tuple_iterator", data := .fields #[.ref l, .int 0 0] }).push
      { cls := .type "enumerate", data := .fields #[.none, .bool false, .ref s.heap.objs.size, rawInt 0, .none, .none] }) (s.heap.objs.size + 1) s.heap.objs.size 0 .none := by
    have := Heap.get?_push_size (s.heap.push { cls := .type "tuple_iterator", data := .fields #[.ref l, .int 0 0] })
      (o := { cls := .type "enumerate", data := .fields #[.none, .bool false, .ref s.heap.objs.size, rawInt 0, .none, .none] }) rfl
    rw [hz] at this; exact this
  refine ⟨⟨_, he, rfl⟩, h _ he ⟨_, Heap.get?_push_of_some _ (Heap.get?_push_size _ rfl), rfl, rfl⟩ (by rw [Heap.size_push, hz]) fun b o x => Heap.get?_push_of_some _ (Heap.get?_push_of_some _ x)⟩
/-- the tuple at a as it stands at each turn, each item in a new pair -/
def IteT (K : PySem.W.Frag) (a : Addr) : It :=
  ⟨fun i H => ∃ (xs : List V) (x : V), SqT K H a xs ∧ xs[i]? = some x, fun i H v H' => ∃ T x, v = .ref T ∧ H T = none ∧ H' = upd H T (.tup [.int (i : Nat), x]) ∧ ∀ xs, SqT K H a xs → xs[i]? = some x, fun i H => ∃ xs : List V, SqT K H a xs ∧ xs.length ≤ i⟩
theorem turn_enumT {P : Program} {w : World} {K : PySem.W.Frag} {elts : List Expr} {kk : Nat} {tpos : Pos} (a e it : Addr) (hne : e ≠ it) (hea : e ≠ a) (hia : a ≠ it) :
    Turn P w K (.Tuple elts kk tpos) (IteT K a) [e, it] e (fun i h => (∃ old, IsEnum h e it ((i : Nat) : Int) old) ∧ h.IsTupleIter it a i) where
  mem := by simp
  obj := fun i h st b hb => by
    obtain ⟨⟨old, he⟩, ⟨o, ho, hc, hd⟩⟩ := st
    have e' : b = e ∨ b = it := by simpa using hb
    rcases e' with z | z
    · rw [z]; exact ⟨_, he, fun v q => nomatch q⟩
    · rw [z]; exact ⟨o, ho, fun v q => by rw [hd] at q; cases q⟩
  keep := fun i h h' st k => let ⟨⟨old, he⟩, hi⟩ := st; ⟨⟨old, k e (by simp) _ he⟩, hi.at fun o q => k it (by simp) o q⟩
  item := by
    intro X hP hw hK hc i pins s σ H E I hf st hg
    subst hP hw hK
    obtain ⟨⟨old, he⟩, hit⟩ := st
    obtain ⟨xs, x, hq, hx⟩ := hg
    obtain ⟨its, rv, p, hz⟩ := I.tuple hq
    obtain ⟨u, hu, ru⟩ := rv.get hx
    have hel : e < s.heap.objs.size := Heap.lt_size he
    have hil : it < s.heap.objs.size := by obtain ⟨_, q, _⟩ := hit; exact Heap.lt_size q
    have D : Draws X.prog X.w X.A.in1 it [it, a] its.toArray.size (fun i v => its.toArray[i]? = some v) (fun i h => h.IsTupleIter it a i ∧ h.IsTuple a its.toArray) := Draws.tuple (show X.A.in1.handled = none from I.ok.hd hc) it a hia its.toArray
    have hlt : i < its.toArray.size := by
      have := (List.getElem?_eq_some_iff.mp hu).1
      simpa using this
    refine wpAny_pyNext_enum_itemD D he ⟨hit, p⟩ hlt hne (by simp [hne, hea]) fun x' h' tk hP ho hs' hT hsz hk => ?_
    have ex : x' = u := by
      have : its[i]? = some x' := by simpa using hP
      rw [hu] at this; exact (Option.some.inj this).symm
    subst ex
    refine ⟨_, rfl, wpAny_letOwnedTupleGo_enum (s := { s with heap := h', toks := tk + 1 }) ho fun h'' he' sb => ?_⟩
    have hT2 : h''.get? s.heap.objs.size = some { cls := .type "tuple", data := .seq #[.int i tk, x'] } := (sb.2 _ (Nat.ne_of_gt hel)).trans hT
    have new : ObjOk X.prog X.w (upd H s.heap.objs.size (.tup [.int (i : Nat), x])) h'' s.heap.objs.size (.tup [.int (i : Nat), x]) :=
      ⟨by show 2 ≤ sizeLine; decide, [.int i tk, x'], .cons ⟨_, rfl⟩ (.cons ru .nil), ⟨_, hT2, rfl, _, rfl⟩⟩
    have I1 : Inv X pins σ (upd H s.heap.objs.size (.tup [.int (i : Nat), x])) { s with heap := h'', toks := tk + 1 } :=
      I.turnedNew (ch := [e, it]) (fun b ob hb q => (sb.2 b (fun z => hb (by simp [z]))).trans (hk b ob (fun z => hb (by simp [z])) (fun z => hb (by simp [z])) q)) hf (Nat.le_refl _) new
    refine ⟨.ref s.heap.objs.size, _, I1, rfl, ⟨_, x, rfl, I.hok.fresh (Nat.le_refl _), rfl, fun ys hy => by rw [I.tuple_inj hy hq]; exact hx⟩, ⟨⟨x', ?_⟩, hs'.1.at fun o q => (sb.2 it (Ne.symm hne)).trans q⟩, fun b hb => ?_⟩
    · have e1 : ((i + 1 : Nat) : Int) = (i : Int) + 1 := by omega
      rw [e1]; exact he'
    · have hb' : b < s.heap.objs.size := by
        have e' : b = e ∨ b = it := by simpa using hb
        rcases e' with z | z
        · rw [z]; exact hel
        · rw [z]; exact hil
      rw [upd_ne (Nat.ne_of_lt hb')]
      exact (hf b hb).1
  done := by
    intro X hP hw hK hc i pins s σ H E I hf st hg
    subst hP hw hK
    obtain ⟨⟨old, he⟩, hit⟩ := st
    obtain ⟨xs, hq, hx⟩ := hg
    obtain ⟨its, rv, p, hz⟩ := I.tuple hq
    have hl := rv.length
    have hT : s.TypeIs (.ref e) "enumerate" := ⟨_, he, rfl⟩
    unfold pyNext
    refine wpAny_bind (wpAny_attempt (wpAny_callSpecial?_slot (name := Str.ofString "__next__") hT F.slot_enumerate_next
      (wpAny_call_entry F.slot_enumerate_next hT F.entry_enumerate_next ?_ (F.args_enumerate_next_1 _))))
    show wpAny _ _ (field (.ref e) 2 >>= _) _ _ _
    refine wpAny_bind (wpAny_field he rfl (x := .ref it) rfl ?_)
    refine wpAny_bind (RZ.nextOf_tuple_end (I.ok.hd hc) hit (show s.heap.IsTuple a its.toArray from p) (by simp; omega) fun h' x he' hx' => ?_)
    obtain ⟨o, ho, hc'⟩ := hx'
    refine wpAny_bind (wpAny_isInstance (T := "StopIteration") (b := true) ⟨o, ho, hc'⟩ isSubtype_stop ?_)
    exact wpAny_pure ⟨rfl, I.turnedL (t' := s.toks) (ch := [e, it]) (fun b o hb q => he' b o (fun q' => hb (by simp [q'])) q) hf⟩
  self := fun A i s Q E st h => let ⟨⟨_, he⟩, _⟩ := st; wpAny_pyIter_enum he h
def iEnumT (K : PySem.W.Frag) (ta : TA) : TI := fun σ H R => ta σ H fun vs H1 => ∃ a xs, vs = [.ref a] ∧ SqT K H1 a xs ∧ R (IteT K a) H1
theorem pi_enumT {X : Cx} {e : Expr} {ta : TA} {p pos tpos : Pos} {elts : List Expr} {kk : Nat} (hg : Gl X "enumerate") (hm : X.mg "enumerate" = none) (ha : PA X [e] ta) (hs : starEach [e] X.env = [(false, eval e X.env)] := by rfl) :
    PI X (.Tuple elts kk tpos) (.Call (.Name "enumerate" p) [e] [] pos) (iEnumT X.K ta) := by
  refine ⟨fun pins s σ H R I h => ?_⟩
  refine Call_ (ld_blt I hg hm boot_enumerate (PyProof.Rows.callWith_type1 (thn (ha.run pos pins s σ H _ I h) fun us s1 ⟨vs, H1, I1, r1, q1⟩ => ?_) hs rfl))
  obtain ⟨a, xs, ex, hq, q⟩ := q1
  subst ex
  cases r1 with
  | cons r rr =>
    cases rr
    cases r
    obtain ⟨its, rv, p', hz⟩ := I1.tuple hq
    refine call_enumT (show s1.heap.IsTuple a its.toArray from p') fun h' he hit hsz hk => wpAny_pyIter_enum he ?_
    have I2 : Inv X pins σ H1 { s1 with heap := h' } := I1.kept (t' := s1.toks) hk
    have hla : a < s1.heap.objs.size := by obtain ⟨o, ho, _⟩ := id p'; exact Heap.lt_size ho
    refine ⟨s1.heap.objs.size + 1, [s1.heap.objs.size + 1, s1.heap.objs.size], _, _, H1, rfl, I2, turn_enumT a (s1.heap.objs.size + 1) s1.heap.objs.size (Nat.succ_ne_self _) (Nat.ne_of_gt (Nat.lt_succ_of_lt hla)) (Nat.ne_of_lt hla), ⟨⟨.none, he⟩, hit⟩, fun b hb => ?_, q⟩
    have e' : b = s1.heap.objs.size + 1 ∨ b = s1.heap.objs.size := by simpa using hb
    have hle : s1.heap.objs.size ≤ b := by
      rcases e' with z | z
      · rw [z]; exact Nat.le_add_right _ _
      · rw [z]; exact Nat.le_refl _
    exact I1.fpOk hle (I1.hok.fresh hle)
theorem enumTK (K : PySem.W.Frag) {X : Cx} {e : Expr} {ta : TA} {p pos tpos : Pos} {elts : List Expr} {kk : Nat} (hg : Gl X "enumerate") (hm : X.mg "enumerate" = none) (ha : PA X [e] ta) (h : X.K = K := by rfl) (hs : starEach [e] X.env = [(false, eval e X.env)] := by rfl) :
    PI X (.Tuple elts kk tpos) (.Call (.Name "enumerate" p) [e] [] pos) (iEnumT K ta) := by subst h; exact pi_enumT hg hm ha hs
/-- pairs of the turn's number and an item -/
def YEnum (xs : List V) : Nat → Hp → V → Hp → Prop := fun i H v H' => ∃ T x, v = .ref T ∧ H T = none ∧ H' = upd H T (.tup [.int (i : Nat), x]) ∧ xs[i]? = some x
theorem walk_enumT {K : PySem.W.Frag} {a : Addr} {xs : List V} {n : Nat} (hn : xs.length = n) : Walk (IteT K a) n (fun H => SqT K H a xs) (YEnum xs) := by
  subst hn
  refine ⟨fun i _ hi q => ?_, fun _ q => ⟨xs, q, Nat.le_refl _⟩, fun i H v H' _ q y => ?_⟩
  · exact ⟨xs, xs[i], q, by simp [hi]⟩
  · obtain ⟨T, x, h1, h2, h3, h4⟩ := y
    exact ⟨T, x, h1, h2, h3, h4 xs q⟩
theorem walk_enumL {K : PySem.W.Frag} {a : Addr} {xs : List V} {n : Nat} (hn : xs.length = n) : Walk (Ite K a) n (fun H => SqL K H a xs) (YEnum xs) := by
  subst hn
  refine ⟨fun i _ hi q => ?_, fun _ q => ⟨xs, q, Nat.le_refl _⟩, fun i H v H' _ q y => ?_⟩
  · exact ⟨xs, xs[i], q, by simp [hi]⟩
  · obtain ⟨T, x, h1, h2, h3, h4⟩ := y
    exact ⟨T, x, h1, h2, h3, h4 xs q⟩
end K44


set_option Elab.async false
set_option linter.all false
set_option maxRecDepth 100000
set_option maxHeartbeats 4000000
set_option exponentiation.threshold 3000
/-! The table as an object. -/
namespace K44
open PySem L2
open LP (Fit lim S Tab)
/-- the heap without the two lists that change -/
abbrev R2 (H : Hp) (aR aB : Addr) : Hp := rm (rm H aR) aB
theorem Gw.r2 {H H' : Hp} (g : Gw H H') (aR aB : Addr) : Gw (R2 H aR aB) (R2 H' aR aB) := (g.rm).rm
theorem Gw.r2_le {H : Hp} {aR aB : Addr} : Gw (R2 H aR aB) H := Gw.rm_le.trans Gw.rm_le
theorem VL.rm {K : PySem.W.Frag} {H : Hp} {D a : Addr} {n : Nat} {f : Nat → Rat} {ys : List V} (h : VL K H (.ref a) n f) (ne : a ≠ D) (hD : H D = some (.lst ys)) : VL K (K44.rm H D) (.ref a) n f := by
  obtain ⟨b, vs, e, s, l, i⟩ := h
  cases e
  refine ⟨a, vs, rfl, ?_, l, fun j hj => let ⟨x, e, p⟩ := i j hj; ⟨x, e, p.rm hD⟩⟩
  rcases s with (h | ⟨o, h⟩) | h
  · exact .inl (.inl (by rw [rm_ne ne]; exact h))
  · exact .inl (.inr ⟨o, by rw [rm_ne ne]; exact h⟩)
  · exact .inr h

/-! ### the fields -/
def flds (cv : V) (aS aR aB : Addr) : List (Str × V) := putF "basis" (.ref aB) (putF "rows" (.ref aR) (putF "signs" (.ref aS) (putF "columns" cv [])))
section
variable {cv : V} {aS aR aB : Addr}
theorem flds_b : (flds cv aS aR aB).lookup ("basis" : Str) = some (.ref aB) := by
  unfold flds; rw [lookup_putF, if_pos rfl]
theorem flds_r : (flds cv aS aR aB).lookup ("rows" : Str) = some (.ref aR) := by
  unfold flds; rw [lookup_putF, if_neg (by decide +kernel), lookup_putF, if_pos rfl]
theorem flds_s : (flds cv aS aR aB).lookup ("signs" : Str) = some (.ref aS) := by
  unfold flds; rw [lookup_putF, if_neg (by decide +kernel), lookup_putF, if_neg (by decide +kernel), lookup_putF, if_pos rfl]
theorem flds_c : (flds cv aS aR aB).lookup ("columns" : Str) = some cv := by
  unfold flds; rw [lookup_putF, if_neg (by decide +kernel), lookup_putF, if_neg (by decide +kernel), lookup_putF, if_neg (by decide +kernel), lookup_putF, if_pos rfl]
theorem flds_no {m : Str} (h1 : ¬ m = "basis") (h2 : ¬ m = "rows") (h3 : ¬ m = "signs") (h4 : ¬ m = "columns") : (flds cv aS aR aB).lookup m = none := by
  unfold flds
  rw [lookup_putF, if_neg h1, lookup_putF, if_neg h2, lookup_putF, if_neg h3, lookup_putF, if_neg h4]
  rfl
end
/-- what is asked of the class -/
structure CTxt (K : PySem.W.Frag) (mg : Str → Option Value) (C : Addr) : Prop where
  cl : Cls K C
  nC : NoAttr K C "columns"
  nS : NoAttr K C "signs"
  nR : NoAttr K C "rows"
  nB : NoAttr K C "basis"
  mgC : mg "Table" = some (.ref C)
/-- a method that keeps a promise -/
structure MCal (P : Program) (w : World) (K : PySem.W.Frag) (mg : Str → Option Value) (base : Heap) (C : Addr) (x : Str) (k : Nat) (ps : List Str) (sp : Sp) where
  f : Addr
  fd : FuncData
  ok : FnOk P w K mg base CX0 k f fd ps sp
  hm : Meth K C x f
  b : Binds K fd ps []
def sgz (want : Nat → Rat) (k : Nat) : Int := if want k < 0 then -1 else 1
/-- a list or a tuple, a list of tuples of parts -/
def VXT (K : PySem.W.Frag) (H : Hp) (v : V) (m n : Nat) (col : Nat → Nat → Rat) : Prop := ∃ a vs, v = .ref a ∧ (SqL K H a vs ∨ SqT K H a vs) ∧ vs.length = m ∧ ∀ j, j < m → ∃ x, vs[j]? = some x ∧ VT K H x n (col j)
theorem VXT.gw {K : PySem.W.Frag} {H H' : Hp} {v : V} {m n : Nat} {col : Nat → Nat → Rat} (h : VXT K H v m n col) (g : Gw H H') : VXT K H' v m n col :=
  let ⟨a, vs, e, s, l, i⟩ := h; ⟨a, vs, e, s.elim (fun z => .inl (g.sqL z)) (fun z => .inr (g.sqT z)), l, fun j hj => let ⟨x, e, p⟩ := i j hj; ⟨x, e, p.gw g⟩⟩
def VLT (K : PySem.W.Frag) (H : Hp) (v : V) (m n : Nat) (col : Nat → Nat → Rat) : Prop := ∃ a vs, v = .ref a ∧ SqL K H a vs ∧ vs.length = m ∧ ∀ j, j < m → ∃ x, vs[j]? = some x ∧ VT K H x n (col j)
theorem VLT.gw {K : PySem.W.Frag} {H H' : Hp} {v : V} {m n : Nat} {col : Nat → Nat → Rat} (h : VLT K H v m n col) (g : Gw H H') : VLT K H' v m n col :=
  let ⟨a, vs, e, s, l, i⟩ := h; ⟨a, vs, e, g.sqL s, l, fun j hj => let ⟨x, e, p⟩ := i j hj; ⟨x, e, p.gw g⟩⟩
/-- a table of the system stands at p -/
structure TabAt (K : PySem.W.Frag) (C : Addr) (H : Hp) (p aR aB : Addr) (n m : Nat) (col : Nat → Nat → Rat) (want : Nat → Rat) (s : Tab) : Prop where
  ob : ∃ cv aS dx sgs, R2 H aR aB p = some (.ins C dx (flds cv aS aR aB)) ∧ VXT K (R2 H aR aB) cv m n col ∧ SqL K (R2 H aR aB) aS sgs ∧ sgs.length = n ∧ ∀ k, k < n → sgs[k]? = some (.int (sgz want k))
  rows : ∃ rws, H aR = some (.lst rws) ∧ rws.length = n ∧ ∀ i, i < n → ∃ x, rws[i]? = some x ∧ VL K (R2 H aR aB) x (m + n + 1) (s.T i)
  bas : ∃ bs, H aB = some (.lst bs) ∧ bs.length = n ∧ ∀ i, i < n → bs[i]? = some (.int (s.b i : Nat))
  ne : aR ≠ aB
section
variable {K : PySem.W.Frag} {C : Addr} {H H' : Hp} {p aR aB : Addr} {n m : Nat} {col : Nat → Nat → Rat} {want : Nat → Rat} {s : Tab}
theorem TabAt.gw (h : TabAt K C H p aR aB n m col want s) (g : Gw H H') : TabAt K C H' p aR aB n m col want s where
  ob := let ⟨cv, aS, dx, sgs, h1, h2, h3, h4, h5⟩ := h.ob; ⟨cv, aS, dx, sgs, (g.r2 aR aB).at h1, h2.gw (g.r2 aR aB), (g.r2 aR aB).sqL h3, h4, h5⟩
  rows := let ⟨rws, h1, h2, h3⟩ := h.rows; ⟨rws, g.at h1, h2, fun i hi => let ⟨x, e, v⟩ := h3 i hi; ⟨x, e, v.gw (g.r2 aR aB)⟩⟩
  bas := let ⟨bs, h1, h2, h3⟩ := h.bas; ⟨bs, g.at h1, h2, h3⟩
  ne := h.ne
theorem TabAt.congr {s' : Tab} (h : TabAt K C H p aR aB n m col want s) (e1 : ∀ i j, i < n → j ≤ m + n → s.T i j = s'.T i j) (e2 : ∀ i, i < n → s.b i = s'.b i) : TabAt K C H p aR aB n m col want s' where
  ob := h.ob
  rows := let ⟨rws, h1, h2, h3⟩ := h.rows; ⟨rws, h1, h2, fun i hi => let ⟨x, e, v⟩ := h3 i hi; ⟨x, e, v.congr fun j hj => e1 i j hi (by omega)⟩⟩
  bas := let ⟨bs, h1, h2, h3⟩ := h.bas; ⟨bs, h1, h2, fun i hi => by rw [← e2 i hi]; exact h3 i hi⟩
  ne := h.ne
end

/-! ### a for that makes a list -/
theorem for_grow {J : It} {n : Nat} {G : Hp → Prop} {Y : Nat → Hp → V → Hp → Prop} (w : Walk J n G Y) {g : TG} {tb : TS} {D : Ends} {σ : L2.St} {H0 H1 : Hp} {L : Addr} (hn : n ≤ 100000) (Sl : L2.St → Prop)
    (R : Nat → V → Hp → Prop) (monoR : ∀ i v H H', Gw H H' → R i v H → R i v H') (hG : ∀ H, Gw H0 H → G H) (s0 : Sl σ) (hL : H1 L = some (.lst [])) (g0 : Gw H0 (rm H1 L))
    (step : ∀ i x σ H H', i < n → Sl σ → Gw H0 (rm H L) → Gw H0 H → (∃ xs, H L = some (.lst xs)) → Y i H x H' → ∀ N : L2.St → Hp → Prop,
      (∀ σ2 H2 y, Sl σ2 → Gw H H2 → R i y (rm H2 L) → ∃ xs, H2 L = some (.lst xs) ∧ xs.length < sizeLine ∧ N σ2 (upd H2 L (.lst (xs ++ [y])))) → g x σ H' fun σ2 H2 => tb { D with nx := N, ct := N, bk := D.nx } σ2 H2)
    (hd : ∀ σ H xs, Sl σ → Gw H0 H → Gw H0 (rm H L) → H L = some (.lst xs) → xs.length = n → (∀ i, i < n → ∃ y, xs[i]? = some y ∧ R i y (rm H L)) → D.nx σ H) :
    ∃ W : Nat → Nat → L2.St → Hp → Prop, (∃ m, W 0 m σ H1) ∧ ∀ i m σ H, W i m σ H →
      (J.stop i H ∧ D.nx σ H) ∨ (J.go i H ∧ ∃ N : L2.St → Hp → Prop, (∀ σ' H', N σ' H' → ∃ m', m' < m ∧ W (i + 1) m' σ' H') ∧ ∀ x H', J.yld i H x H' → g x σ H' fun σ2 H2 => tb { D with nx := N, ct := N, bk := D.nx } σ2 H2) := by
  refine for_it w (fun i σ H => Sl σ ∧ ∃ xs, H L = some (.lst xs) ∧ xs.length = i ∧ Gw H0 (rm H L) ∧ ∀ j, j < i → ∃ y, xs[j]? = some y ∧ R j y (rm H L))
    ⟨s0, [], hL, rfl, g0, fun j hj => absurd hj (Nat.not_lt_zero _)⟩ (fun i σ H _ ⟨_, xs, _, _, g1, _⟩ => hG H (g1.trans Gw.rm_le)) ?_ (fun σ H ⟨h0, xs, h1, h2, h3, h4⟩ => hd σ H xs h0 (h3.trans Gw.rm_le) h3 h1 h2 h4)
  rintro i x σ H H' hi ⟨hs, xs, h1, h2, h3, h4⟩ y
  refine step i x σ H H' hi hs h3 (h3.trans Gw.rm_le) ⟨xs, h1⟩ y _ fun σ2 H2 z hs2 g2 r2 => ⟨xs, g2.at h1, by rw [h2]; exact Nat.lt_of_lt_of_le hi (Nat.le_trans hn (by decide)), hs2, xs ++ [z], upd_same, by simp [h2], ?_, fun j hj => ?_⟩
  · rw [rm_upd]; exact h3.trans g2.rm
  · rw [rm_upd]
    by_cases e : j < i
    · obtain ⟨u, e1, r⟩ := h4 j e
      exact ⟨u, by rw [List.getElem?_append_left (by omega)]; exact e1, monoR _ _ _ _ g2.rm r⟩
    · have : j = i := by omega
      subst this
      exact ⟨z, by rw [List.getElem?_append_right (by omega), h2, Nat.sub_self]; rfl, r2⟩
theorem walk_rangeN {n N : Nat} (h : n = N) : Walk (Itr 0 n) N (fun _ => True) (YFn fun i => .int (i : Nat)) := by
  subst h
  refine ⟨fun _ _ hi _ => hi, fun _ _ => Nat.le_refl _, fun i H x H' _ _ y => ⟨y.1, y.2.trans ?_⟩⟩
  show V.int (0 + (i : Nat)) = V.int (i : Nat)
  rw [Int.zero_add]
theorem at_last {xs : List V} {N : Nat} {v : V} (hl : xs.length = N + 1) (h : xs[N]? = some v) : atI xs (-1) = some v := by
  unfold atI ixN
  rw [if_neg (by decide), if_pos (by omega), hl]
  show xs[(-1 + ((N + 1 : Nat) : Int)).toNat]? = some v
  rw [show (-1 + ((N + 1 : Nat) : Int)).toNat = N by omega]
  exact h
theorem walk_listY {K : PySem.W.Frag} {a : Addr} {xs : List V} {n : Nat} (hn : xs.length = n) : Walk (Itl K a) n (fun H => SqL K H a xs) (YAt xs) := by
  subst hn; exact walk_list

abbrev sT (i : Nat) : Stmt := inClass (top 44) i
/-! ### reduced -/
/-- what reduced gives: the reduced worths, then the whole worth -/
def redv (n m : Nat) (c : Nat → Rat) (s : Tab) (j : Nat) : Rat := if j < m + n then LP.red n c s j else LP.used n c s j
def FitR (n m : Nat) (c : Nat → Rat) (s : Tab) : Prop := (∀ j, j ≤ m + n → FitsW n (fun i => c (s.b i)) (fun i => s.T i j)) ∧ ∀ j, j < m + n → Fit (LP.red n c s j)
def spReduced (K : PySem.W.Frag) (C : Addr) : Sp := fun vs H Q _ => ∃ (p aR aB : Addr) (wv : V) (n m : Nat) (col : Nat → Nat → Rat) (want c : Nat → Rat) (s : Tab), vs = [.ref p, wv] ∧ TabAt K C H p aR aB n m col want s ∧ VL K H wv (m + n) c ∧ n ≤ 1000 ∧ m ≤ 1000 ∧
  (∀ i, i < n → s.b i < m + n) ∧ FitR n m c s ∧ Ans H (fun v H' => VL K H' v (m + n + 1) (redv n m c s)) Q
section
variable {P : Program} {w : World} {K : PySem.W.Frag} {mg : Str → Option Value} {base : Heap}
theorem scReduced : FnScope ["self", "worths", "found", "place", "used", "total", "one", "row"] ["self", "worths"] (defScope (sT 1)) := ⟨rfl, rfl, rfl, by decide +kernel, rfl, by decide +kernel, by decide +kernel⟩
theorem ok_reduced {C : Addr} {f : Addr} {fd : FuncData} (F : Fun K "reduced" "Table.reduced" (sT 1) f fd) (T : Txt K mg) (U : CTxt K mg C) (D : CWeighed P w K mg base) (E2 : C2 P w K mg base "minus" (· - ·)) :
    FnOk P w K mg base CX0 5 f fd ["self", "worths"] (spReduced K C) := by
  refine F.ok scReduced (fun vs H Q E h => ?_) (fun cdv A outer s H vs Q E hr h => ?_)
  · obtain ⟨p, aR, aB, wv, n, m, col, want, c, s, rfl, _⟩ := h
    rfl
  · obtain ⟨p, aR, aB, wv, n, m, col, want, c, s, rfl, tab, hw, hn, hm, hb, ft, k⟩ := h
    refine ⟨_, pss_cons (ps_set (i := 2) scReduced.nd rfl (Or.inl rfl) (pe_lst pa_nil))
      (pss_cons (ps_for PassesOwn.never rfl (pi_range1 rfl T.range (pa_cons (pe_callB (lenK K) (by rfl) T.len PySem.boot_len (pa_cons (pv 1) pa_nil)) pa_nil)) (pg_name (i := 3) scReduced.nd rfl (Or.inr rfl))
        (pss_cons (ps_set (i := 4) scReduced.nd rfl (Or.inl rfl) (pe_call D.ok (hr.mono (by decide)) rfl D.hm D.kp D.b .nil pass0 (pa_cons
            (pe_lc (own := [("one", 6)]) (g := gName 6) (tt := tYes) rfl scReduced.nd (listK K (fldK K (pv 0))) (blkOk_by (N := ["self", "worths", "found", "place", "used", "total", "one", "row"]) (by kernel_rfl))
              (fun _ _ _ _ _ => pg_name (i := 6) scReduced.nd rfl (Or.inl rfl)) (fun _ _ _ _ _ => pts_nil) (fun _ _ _ _ _ => pe_ix (ixL K) (pv 1) (pv 6) (fun _ _ => rfl))) (pa_cons
            (pe_lc (own := [("row", 7)]) (g := gName 7) (tt := tYes) rfl scReduced.nd (listK K (fldK K (pv 0))) (blkOk_by (N := ["self", "worths", "found", "place", "used", "total", "one", "row"]) (by kernel_rfl))
              (fun _ _ _ _ _ => pg_name (i := 7) scReduced.nd rfl (Or.inl rfl)) (fun _ _ _ _ _ => pts_nil) (fun _ _ _ _ _ => pe_ix (ixL K) (pv 7) (pv 3) (fun _ _ => rfl))) pa_nil))))
        (pss_one (ps_expr (pe_bm PySem.F.plainAttrs_list PySem.F.slot_list_append PySem.F.type_list_append mt_append (pv 2) (pa_cons (pe_call E2.ok (hr.mono (by decide)) rfl E2.hm E2.kp E2.b .nil pass0 (pa_cons (pe_ix (ixL K) (pv 1) (pv 3) (fun _ _ => rfl)) (pa_cons (pv 4) pa_nil))) pa_nil))))))
      (pss_cons (ps_set (i := 5) scReduced.nd rfl (Or.inl rfl) (pe_call D.ok (hr.mono (by decide)) rfl D.hm D.kp D.b .nil pass0 (pa_cons
            (pe_lc (own := [("one", 6)]) (g := gName 6) (tt := tYes) rfl scReduced.nd (listK K (fldK K (pv 0))) (blkOk_by (N := ["self", "worths", "found", "place", "used", "total", "one", "row"]) (by kernel_rfl))
              (fun _ _ _ _ _ => pg_name (i := 6) scReduced.nd rfl (Or.inl rfl)) (fun _ _ _ _ _ => pts_nil) (fun _ _ _ _ _ => pe_ix (ixL K) (pv 1) (pv 6) (fun _ _ => rfl))) (pa_cons
            (pe_lc (own := [("row", 7)]) (g := gName 7) (tt := tYes) rfl scReduced.nd (listK K (fldK K (pv 0))) (blkOk_by (N := ["self", "worths", "found", "place", "used", "total", "one", "row"]) (by kernel_rfl))
              (fun _ _ _ _ _ => pg_name (i := 7) scReduced.nd rfl (Or.inl rfl)) (fun _ _ _ _ _ => pts_nil) (fun _ _ _ _ _ => pe_ix (ixL K) (pv 7) (pe_un un_neg pe_int) (fun _ _ => rfl))) pa_nil))))
      (pss_one (ps_ret (pe_lst (starK K (pv 2) (pa_cons (pv 5) pa_nil))))))), ?_⟩
    obtain ⟨aw, vw, rfl, hsw, lw, iw⟩ := id hw
    obtain ⟨cv, aS, dx, sgs, hp, _⟩ := id tab.ob
    obtain ⟨rws, hR, lR, iR⟩ := id tab.rows
    obtain ⟨bs, hB, lB, iB⟩ := id tab.bas
    have hp : H p = some (.ins C dx (flds cv aS aR aB)) := Gw.r2_le.at hp
    have hn' : n ≤ 100000 := by omega
    -- [worths[one] for one in self.basis]
    have two : ∀ (H2 : Hp) (L : Addr) (u3 u4 u5 : Option V), Gw H H2 → ∀ Q1 : VK, (∀ v H3, Gw H2 H3 → VL K H3 v n (fun i => c (s.b i)) → Q1 v H3) →
        tLc (iList K (tFld K (tVar 0) "basis")) (gName 6) tYes (tOp (rIxL K) (tVar 1) (tVar 6)) [6] [some (.ref p), some (.ref aw), some (.ref L), u3, u4, u5, none, none] H2 Q1 := fun H2 L u3 u4 u5 g2 Q1 k1 => by
      refine ⟨_, rfl, p, C, dx, _, _, rfl, g2.at hp, U.cl, U.nB, flds_b, aB, rfl, ⟨bs, SqL.of (g2.at hB)⟩, fun D1 hD1 => lc_grow (walk_listY lB) hD1 hn' (fun i v H => PAt K H v (c (s.b i))) (fun _ _ _ _ g r => r.gw g)
        (fun H3 g3 => SqL.of ((g2.trans g3).at hB)) (fun i x H1 H' hi _ g1 ⟨zs, hz⟩ hY C1 hC1 => ?_) (fun H3 ys g3 g4 hy hlen hit => k1 _ _ g3 ⟨D1, ys, rfl, SqL.of hy, hlen, fun j hj => let ⟨y, e, r⟩ := hit j hj; ⟨y, e, r.gw Gw.rm_le⟩⟩)⟩
      obtain ⟨rfl, hx⟩ := hY
      rw [iB i hi] at hx; cases hx
      obtain ⟨y, ey, py⟩ := iw (s.b i) (hb i hi)
      exact ⟨rfl, _, rfl, _, rfl, _, _, _, _, rfl, rfl, (g2.trans g1).sqL hsw, at_of (by have := hb i hi; omega) ey, hC1 _ _ (Gw.refl _) ((py.gw (g2.trans g1)).rm hz)⟩
    -- [row[place] for row in self.rows]
    have three : ∀ (j : Nat) (H2 : Hp) (L : Addr) (u4 u5 : Option V), j < m + n → Gw H H2 → ∀ Q1 : VK, (∀ v H3, Gw H2 H3 → VL K H3 v n (fun i => s.T i j) → Q1 v H3) →
        tLc (iList K (tFld K (tVar 0) "rows")) (gName 7) tYes (tOp (rIxL K) (tVar 7) (tVar 3)) [7] [some (.ref p), some (.ref aw), some (.ref L), some (.int (j : Nat)), u4, u5, none, none] H2 Q1 := fun j H2 L u4 u5 hj g2 Q1 k1 => by
      refine ⟨_, rfl, p, C, dx, _, _, rfl, g2.at hp, U.cl, U.nR, flds_r, aR, rfl, ⟨rws, SqL.of (g2.at hR)⟩, fun D1 hD1 => lc_grow (walk_listY lR) hD1 hn' (fun i v H => PAt K H v (s.T i j)) (fun _ _ _ _ g r => r.gw g)
        (fun H3 g3 => SqL.of ((g2.trans g3).at hR)) (fun i x H1 H' hi _ g1 ⟨zs, hz⟩ hY C1 hC1 => ?_) (fun H3 ys g3 g4 hy hlen hit => k1 _ _ g3 ⟨D1, ys, rfl, SqL.of hy, hlen, fun j hj => let ⟨y, e, r⟩ := hit j hj; ⟨y, e, r.gw Gw.rm_le⟩⟩)⟩
      obtain ⟨rfl, hx⟩ := hY
      obtain ⟨x', e, ⟨ar, vr, rfl, hsr, lr, ir⟩⟩ := iR i hi
      rw [hx] at e; cases e
      obtain ⟨y, ey, py⟩ := ir j (by omega)
      exact ⟨rfl, _, rfl, _, rfl, _, _, _, _, rfl, rfl, (Gw.r2_le.trans (g2.trans g1)).sqL hsr, at_of (by omega) ey, hC1 _ _ (Gw.refl _) ((py.gw (Gw.r2_le.trans (g2.trans g1))).rm hz)⟩
    have four : ∀ (H2 : Hp) (L : Addr) (u3 u4 u5 : Option V), Gw H H2 → ∀ Q1 : VK, (∀ v H3, Gw H2 H3 → VL K H3 v n (fun i => s.T i (m + n)) → Q1 v H3) →
        tLc (iList K (tFld K (tVar 0) "rows")) (gName 7) tYes (tOp (rIxL K) (tVar 7) (tUn (rU fun i => V.int (-i)) (tC (V.int 1)))) [7] [some (.ref p), some (.ref aw), some (.ref L), u3, u4, u5, none, none] H2 Q1 := fun H2 L u3 u4 u5 g2 Q1 k1 => by
      refine ⟨_, rfl, p, C, dx, _, _, rfl, g2.at hp, U.cl, U.nR, flds_r, aR, rfl, ⟨rws, SqL.of (g2.at hR)⟩, fun D1 hD1 => lc_grow (walk_listY lR) hD1 hn' (fun i v H => PAt K H v (s.T i (m + n))) (fun _ _ _ _ g r => r.gw g)
        (fun H3 g3 => SqL.of ((g2.trans g3).at hR)) (fun i x H1 H' hi _ g1 ⟨zs, hz⟩ hY C1 hC1 => ?_) (fun H3 ys g3 g4 hy hlen hit => k1 _ _ g3 ⟨D1, ys, rfl, SqL.of hy, hlen, fun j hj => let ⟨y, e, r⟩ := hit j hj; ⟨y, e, r.gw Gw.rm_le⟩⟩)⟩
      obtain ⟨rfl, hx⟩ := hY
      obtain ⟨x', e, ⟨ar, vr, rfl, hsr, lr, ir⟩⟩ := iR i hi
      rw [hx] at e; cases e
      obtain ⟨y, ey, py⟩ := ir (m + n) (by omega)
      exact ⟨rfl, _, rfl, 1, rfl, _, _, _, _, rfl, rfl, (Gw.r2_le.trans (g2.trans g1)).sqL hsr, at_last lr ey, hC1 _ _ (Gw.refl _) ((py.gw (Gw.r2_le.trans (g2.trans g1))).rm hz)⟩
    refine ⟨(show 0 ≤ sizeLine by decide), fun L hL => ?_⟩
    have g0 : Gw H (upd H L (.lst [])) := Gw.new _ hL
    refine ⟨_, rfl, aw, vw, rfl, .inl (g0.sqL hsw), _, rfl, by omega, by omega, ?_⟩
    refine for_grow (walk_rangeN (N := m + n) (by omega)) (L := L) (H0 := H) (by omega) (fun σ => ∃ u3 u4, σ = [some (.ref p), some (.ref aw), some (.ref L), u3, u4, none, none, none]) (fun j v H => PAt K H v (LP.red n c s j)) (fun _ _ _ _ g r => r.gw g) (fun _ _ => True.intro)
      ⟨none, none, rfl⟩ upd_same (by rw [rm_upd, rm_none hL]; exact Gw.refl _) ?_ ?_
    · rintro j x σ H1 H' hj ⟨u3, u4, rfl⟩ _ g1 ⟨zs, hz⟩ ⟨rfl, rfl⟩ N hN
      dsimp only [gName, tSeq, tAsg, tCall, tCons]
      refine two _ L _ _ _ g1 _ fun v2 H2 g2 r2 => ?_
      refine three j _ L _ _ hj (g1.trans g2) _ fun v3 H3 g3 r3 => ?_
      refine ⟨_, _, n, _, _, rfl, hn, .inl ⟨r2.gw g3, r3⟩, (ft.1 j (by omega)).1, (ft.1 j (by omega)).2, fun v4 H4 g4 r4 => ?_⟩
      have g5 := ((g1.trans g2).trans g3).trans g4
      have g6 := (g2.trans g3).trans g4
      obtain ⟨y, ey, py⟩ := iw j hj
      refine ⟨_, rfl, ?_, _, rfl, _, rfl, _, _, _, _, rfl, rfl, (g1.trans g6).sqL hsw, at_of rfl ey, _, rfl, _, _, c j, _, rfl, py.gw (g1.trans g6), r4, ft.2 j hj, fun v5 H5 g7 r5 => ?_⟩
      · exact .inl ⟨rfl, _, SqL.of (g6.at hz)⟩
      · have g8 := g6.trans g7
        obtain ⟨xs, h1, h2, h3⟩ := hN _ H5 v5 ⟨_, _, rfl⟩ g8 (r5.rm (g8.at hz))
        exact ⟨L, xs, v5, rfl, rfl, h1, h2, h3⟩
    · rintro σ H1 xs ⟨u3, u4, rfl⟩ g1 gr hx hlen hit
      dsimp only [gName, tSeq, tAsg, tCall, tCons]
      refine two _ L _ _ _ g1 _ fun v2 H2 g2 r2 => ?_
      refine four _ L _ _ _ (g1.trans g2) _ fun v3 H3 g3 r3 => ?_
      refine ⟨_, _, n, _, _, rfl, hn, .inl ⟨r2.gw g3, r3⟩, (ft.1 (m + n) (by omega)).1, (ft.1 (m + n) (by omega)).2, fun v4 H4 g4 r4 => ?_⟩
      have g5 := (g2.trans g3).trans g4
      refine ⟨_, rfl, L, xs, rfl, .inr (SqL.of (g5.at hx)), _, rfl, ?_, fun r hr => ?_⟩
      · rw [List.length_append, hlen]
        exact Nat.le_trans (Nat.add_le_add (Nat.add_le_add hm hn) (Nat.le_refl 1)) (by decide)
      · have g6 := g5.trans (Gw.new (.lst (xs ++ [v4])) hr)
        refine k _ _ (g1.trans g6) ⟨r, _, rfl, SqL.of upd_same, by rw [List.length_append, hlen]; rfl, fun i hi => ?_⟩
        unfold redv
        by_cases h : i < m + n
        · obtain ⟨y, e, r⟩ := hit i h
          rw [if_pos h]
          exact ⟨y, by rw [List.getElem?_append_left (by omega)]; exact e, (r.gw Gw.rm_le).gw g6⟩
        · have : i = m + n := by omega
          subst this
          rw [if_neg h]
          exact ⟨v4, by rw [List.getElem?_append_right (by omega), hlen, Nat.sub_self]; rfl, r4.gw (Gw.new _ hr)⟩
end
end K44


set_option Elab.async false
set_option linter.all false
set_option maxRecDepth 100000
set_option maxHeartbeats 4000000
set_option exponentiation.threshold 3000
/-! entering, leaving. -/
namespace K44
open PySem L2
open LP (Fit lim S Tab)
def spEntering (K : PySem.W.Frag) : Sp := fun vs H Q _ => ∃ (x av : V) (N m : Nat) (f : Nat → Rat), vs = [x, av, .int (m : Nat)] ∧ VL K H av N f ∧ m ≤ N ∧ m ≤ 1000 ∧
  (∀ e, e < m → 0 < f e → (∀ j, j < e → f j ≤ 0) → Q (.int (e : Nat)) H) ∧ ((∀ j, j < m → f j ≤ 0) → Q .non H)
def spLeaving (K : PySem.W.Frag) (C : Addr) : Sp := fun vs H Q _ => ∃ (p aR aB : Addr) (e n m : Nat) (col : Nat → Nat → Rat) (want : Nat → Rat) (s : Tab), vs = [.ref p, .int (e : Nat)] ∧ TabAt K C H p aR aB n m col want s ∧ n ≤ 1000 ∧ m ≤ 1000 ∧ e < m + n ∧
  (∀ i, i < n → 0 < s.T i e → Fit (s.T i (m + n) / s.T i e)) ∧ Ans H (fun v _ => (∃ r : Nat, v = .int (r : Nat) ∧ LP.Leave n m s e r) ∨ (v = .non ∧ ∀ i, i < n → s.T i e ≤ 0)) Q
section
variable {P : Program} {w : World} {K : PySem.W.Frag} {mg : Str → Option Value} {base : Heap}
theorem scEntering : FnScope ["self", "added", "many", "place"] ["self", "added", "many"] (defScope (sT 2)) := ⟨rfl, rfl, rfl, by decide +kernel, rfl, by decide +kernel, by decide +kernel⟩
theorem ok_entering {f : Addr} {fd : FuncData} (F : Fun K "entering" "Table.entering" (sT 2) f fd) (T : Txt K mg) (C1 : CLess P w K mg base) :
    FnOk P w K mg base CX0 2 f fd ["self", "added", "many"] (spEntering K) := by
  refine F.ok scEntering (fun vs H Q E h => ?_) (fun cdv A outer s H vs Q E hr h => ?_)
  · obtain ⟨x, av, N, m, f, rfl, _⟩ := h
    rfl
  · obtain ⟨x, av, N, m, f, rfl, ⟨aa, va, rfl, hs, hl, hi⟩, hmN, hm, k1, k2⟩ := h
    obtain ⟨az, hz, zt⟩ := T.zero
    refine ⟨_, pss_cons (ps_for PassesOwn.never rfl (pi_range1 rfl T.range (pa_cons (pv 2) pa_nil)) (pg_name (i := 3) scEntering.nd rfl (Or.inl rfl))
        (pss_one (ps_if (pt_val (pe_call C1.ok hr rfl C1.hm C1.kp C1.b .nil pass0 (pa_cons (pe_glob (v := .ref az) rfl hz rfl) (pa_cons (pe_ix (ixL K) (pv 1) (pv 3) (fun _ _ => rfl)) pa_nil)))) (pss_one (ps_ret (pv 3))) pss_nil)))
      (pss_one (ps_ret pe_non)), ?_⟩
    refine ⟨_, rfl, (m : Int), rfl, by omega, by omega, ?_⟩
    refine for_it (walk_rangeN (N := m) (by omega)) (fun i σ H' => H' = H ∧ (∃ u, σ = [some x, some (.ref aa), some (.int (m : Nat)), u]) ∧ ∀ j, j < i → f j ≤ 0) ⟨rfl, ⟨none, rfl⟩, fun j hj => absurd hj (Nat.not_lt_zero _)⟩ (fun _ _ _ _ _ => True.intro) ?_ ?_
    · rintro i y σ H1 H' hi' ⟨rfl, ⟨u, rfl⟩, hj⟩ ⟨rfl, rfl⟩
      obtain ⟨y, ey, py⟩ := hi i (by omega)
      refine ⟨_, rfl, _, rfl, _, _, _, _, rfl, rfl, hs, at_of rfl ey, _, _, 0, f i, rfl, ⟨⟨az, rfl, zt _⟩, fit_zero⟩, py, ?_⟩
      by_cases h : 0 < f i
      · rw [decide_eq_true h]
        refine ⟨_, rfl, iteT ⟨_, rfl, k1 i hi' h hj⟩⟩
      · rw [decide_eq_false h]
        refine ⟨_, rfl, iteF ⟨rfl, ⟨_, rfl⟩, fun j hj' => ?_⟩⟩
        by_cases q : j < i
        · exact hj j q
        · have : j = i := by omega
          subst this; exact Rat.not_lt.mp h
    · rintro σ H1 ⟨rfl, _, hj⟩
      exact k2 hj
theorem scLeaving : FnScope ["self", "place", "best", "found", "number", "row", "here"] ["self", "place"] (defScope (sT 3)) := ⟨rfl, rfl, rfl, by decide +kernel, rfl, by decide +kernel, by decide +kernel⟩
theorem ok_leaving {C : Addr} {f : Addr} {fd : FuncData} (F : Fun K "leaving" "Table.leaving" (sT 3) f fd) (T : Txt K mg) (U : CTxt K mg C) (C1 : CLess P w K mg base) (C3 : Cal P w K mg base "over" 2 ["one", "other"] (sp2o K)) :
    FnOk P w K mg base CX0 3 f fd ["self", "place"] (spLeaving K C) := by
  refine F.ok scLeaving (fun vs H Q E h => ?_) (fun cdv A outer s H vs Q E hr h => ?_)
  · obtain ⟨p, aR, aB, e, n, m, col, want, s, rfl, _⟩ := h
    rfl
  · obtain ⟨p, aR, aB, e, n, m, col, want, s, rfl, tab, hn, hm, he, ft, k⟩ := h
    obtain ⟨az, hz, zt⟩ := T.zero
    refine ⟨_, pss_cons (ps_asg (pe_tup (pa_cons pe_non (pa_cons pe_non pa_nil))) (pg_tup rfl (pgs_cons (pg_name (i := 2) scLeaving.nd rfl (Or.inl rfl)) (pgs_cons (pg_name (i := 3) scLeaving.nd rfl (Or.inl rfl)) pgs_nil))))
      (pss_cons (ps_for PassesOwn.never rfl (enumK K rfl T.enum (pa_cons (fldK K (pv 0)) pa_nil)) (pg_tup rfl (pgs_cons (pg_name (i := 4) scLeaving.nd rfl (Or.inl rfl)) (pgs_cons (pg_name (i := 5) scLeaving.nd rfl (Or.inl rfl)) pgs_nil)))
        (pss_one (ps_if (pt_val (pe_call C1.ok (hr.mono (by decide)) rfl C1.hm C1.kp C1.b .nil pass0 (pa_cons (pe_glob (v := .ref az) rfl hz rfl) (pa_cons (pe_ix (ixL K) (pv 5) (pv 1) (fun _ _ => rfl)) pa_nil))))
          (pss_cons (ps_set (i := 6) scLeaving.nd rfl (Or.inl rfl) (pe_call C3.ok hr rfl C3.hm C3.kp C3.b .nil pass0 (pa_cons (pe_ix (ixL K) (pv 5) (pe_un un_neg pe_int) (fun _ _ => rfl)) (pa_cons (pe_ix (ixL K) (pv 5) (pv 1) (fun _ _ => rfl)) pa_nil))))
          (pss_one (ps_if (PW.pt (pw_or (pt_cmp (pc_isN (pv 2))) (pw_or (pt_val (pe_call C1.ok (hr.mono (by decide)) rfl C1.hm C1.kp C1.b .nil pass0 (pa_cons (pv 6) (pa_cons (pv 2) pa_nil))))
              (pw_or1 (PW.pt (pw_and (pt_cmpR (eqK K hr.units) (pv 6) (pv 2) (nomark _)) (pw_and1 (pt_cmpR op_lt (pe_ix (ixL K) (fldK K (pv 0)) (pv 4) (fun _ _ => rfl)) (pe_ix (ixL K) (fldK K (pv 0)) (pv 3) (fun _ _ => rfl)) (nomark _)))))))))
            (pss_one (ps_par (i := 2) (j := 3) rfl scLeaving.nd rfl rfl (by decide) rfl rfl (pa_cons (pv 6) (pa_cons (pv 4) pa_nil)) rfl)) pss_nil))) pss_nil)))
      (pss_one (ps_ret (pv 3)))), ?_⟩
    obtain ⟨cv, aS, dx, sgs, hp, _⟩ := id tab.ob
    obtain ⟨rws, hR, lR, iR⟩ := id tab.rows
    obtain ⟨bs, hB, lB, iB⟩ := id tab.bas
    have hp : H p = some (.ins C dx (flds cv aS aR aB)) := Gw.r2_le.at hp
    refine ⟨(show 2 ≤ sizeLine by decide), fun q0 hq0 => ?_⟩
    have g0 : Gw H (upd H q0 (.tup [.non, .non])) := Gw.new _ hq0
    refine ⟨q0, _, rfl, SqT.of upd_same, rfl, _, _, rfl, _, _, rfl, rfl, ?_⟩
    refine ⟨_, rfl, p, C, dx, _, _, rfl, g0.at hp, U.cl, U.nR, flds_r, aR, rws, rfl, SqL.of (g0.at hR), ?_⟩
    let qn : Nat → Rat := fun i => s.T i (m + n) / s.T i e
    refine for_it (walk_enumL (K := K) (a := aR) lR) (fun i σ H' => Gw H H' ∧ ∃ b fo u4 u5 u6, σ = [some (.ref p), some (.int (e : Nat)), some b, some fo, u4, u5, u6] ∧
        ((b = .non ∧ fo = .non ∧ ∀ k, k < i → s.T k e ≤ 0) ∨ ∃ r : Nat, r < i ∧ fo = .int (r : Nat) ∧ PAt K H' b (qn r) ∧ 0 < s.T r e ∧ ∀ k, k < i → 0 < s.T k e → qn r < qn k ∨ (qn r = qn k ∧ s.b r ≤ s.b k)))
      ⟨g0, .non, .non, none, none, none, rfl, .inl ⟨rfl, rfl, fun k hk => absurd hk (Nat.not_lt_zero _)⟩⟩ (fun i σ H' _ h => SqL.of (h.1.at hR)) ?_ ?_
    · rintro i y σ H1 H' hi ⟨g1, b, fo, u4, u5, u6, rfl, inv⟩ ⟨q, x, rfl, hq, rfl, hx⟩
      have gq : Gw H1 (upd H1 q (.tup [.int (i : Nat), x])) := Gw.new _ hq
      have g2 := g1.trans gq
      obtain ⟨x', ex, ⟨ar, vr, rfl, hsr, lr, ir⟩⟩ := iR i hi
      rw [hx] at ex; cases ex
      obtain ⟨ye, eye, pye⟩ := ir e (by omega)
      obtain ⟨yl, eyl, pyl⟩ := ir (m + n) (by omega)
      have hsr := Gw.r2_le.sqL hsr
      have pye := pye.gw Gw.r2_le
      have pyl := pyl.gw Gw.r2_le
      refine ⟨q, _, rfl, SqT.of upd_same, rfl, _, _, rfl, _, _, rfl, rfl, ?_⟩
      refine ⟨_, rfl, _, rfl, _, _, _, _, rfl, rfl, g2.sqL hsr, at_of rfl eye, _, _, 0, s.T i e, rfl, ⟨⟨az, rfl, zt _⟩, fit_zero⟩, pye.gw g2, ?_⟩
      by_cases hpos : 0 < s.T i e
      · rw [decide_eq_true hpos]
        refine ⟨_, rfl, iteT ?_⟩
        refine ⟨_, rfl, 1, rfl, _, _, _, _, rfl, rfl, g2.sqL hsr, at_last lr eyl, ?_⟩
        refine ⟨_, rfl, _, rfl, _, _, _, _, rfl, rfl, g2.sqL hsr, at_of rfl eye, ?_⟩
        refine ⟨_, _, _, _, rfl, pyl.gw g2, pye.gw g2, by grind, ft i hi hpos, fun v5 H5 g5 r5 => ?_⟩
        have g6 := g2.trans g5
        have g7 := gq.trans g5
        refine ⟨_, rfl, ?_⟩
        rcases inv with ⟨rfl, rfl, hall⟩ | ⟨r, hr', rfl, pb, hrp, hall⟩
        · refine ⟨_, rfl, iteT (iteT ?_)⟩
          refine ⟨_, rfl, _, rfl, _, _, rfl, ?_⟩
          refine ⟨g6, v5, _, _, _, _, rfl, .inr ⟨i, by omega, rfl, r5, hpos, fun k hk hkp => ?_⟩⟩
          by_cases h : k < i
          · exact absurd (hall k h) (Rat.not_le.mpr hkp)
          · have : k = i := by omega
            subst this; exact .inr ⟨rfl, Nat.le_refl _⟩
        · obtain ⟨ab, eb, hsb⟩ := pb.1
          have pb5 := pb.gw g7
          have keep : ∀ v, PAt K H5 v (qn r) → ¬ (qn i < qn r) → ¬ (qn i = qn r ∧ s.b i < s.b r) → (∃ b fo u4 u5 u6, [some (V.ref p), some (.int (e : Nat)), some v, some (.int (r : Nat)), some (.int (i : Nat)), some (.ref ar), some v5] = [some (.ref p), some (.int (e : Nat)), some b, some fo, u4, u5, u6] ∧
              ((b = .non ∧ fo = .non ∧ ∀ k, k < i + 1 → s.T k e ≤ 0) ∨ ∃ r : Nat, r < i + 1 ∧ fo = .int (r : Nat) ∧ PAt K H5 b (qn r) ∧ 0 < s.T r e ∧ ∀ k, k < i + 1 → 0 < s.T k e → qn r < qn k ∨ (qn r = qn k ∧ s.b r ≤ s.b k))) := fun v pv' h1 h2 =>
            ⟨v, _, _, _, _, rfl, .inr ⟨r, by omega, rfl, pv', hrp, fun k hk hkp => by
              by_cases h : k < i
              · exact hall k h hkp
              · have : k = i := by omega
                subst this
                by_cases z : qn r < qn k
                · exact .inl z
                · have z : qn r = qn k := by grind
                  exact .inr ⟨z, Nat.le_of_not_lt fun y => h2 ⟨z.symm, y⟩⟩⟩⟩
          have turn : (qn i < qn r ∨ (qn i = qn r ∧ s.b i < s.b r)) → (∃ b fo u4 u5 u6, [some (V.ref p), some (.int (e : Nat)), some v5, some (.int (i : Nat)), some (.int (i : Nat)), some (.ref ar), some v5] = [some (.ref p), some (.int (e : Nat)), some b, some fo, u4, u5, u6] ∧
              ((b = .non ∧ fo = .non ∧ ∀ k, k < i + 1 → s.T k e ≤ 0) ∨ ∃ r : Nat, r < i + 1 ∧ fo = .int (r : Nat) ∧ PAt K H5 b (qn r) ∧ 0 < s.T r e ∧ ∀ k, k < i + 1 → 0 < s.T k e → qn r < qn k ∨ (qn r = qn k ∧ s.b r ≤ s.b k))) := fun h =>
            ⟨v5, _, _, _, _, rfl, .inr ⟨i, by omega, rfl, r5, hpos, fun k hk hkp => by
              by_cases hk' : k < i
              · rcases hall k hk' hkp with z | z
                · rcases h with y | y
                  · exact .inl (Std.lt_trans y z)
                  · exact .inl (by rw [y.1]; exact z)
                · rcases h with y | y
                  · exact .inl (by rw [← z.1]; exact y)
                  · exact .inr ⟨by rw [← z.1]; exact y.1, by omega⟩
              · have : k = i := by omega
                subst this; exact .inr ⟨rfl, Nat.le_refl _⟩⟩⟩
          subst eb
          refine ⟨_, rfl, iteF ?_⟩
          refine ⟨_, rfl, _, rfl, _, _, qn i, qn r, rfl, r5, pb5, ?_⟩
          by_cases h1 : qn i < qn r
          · rw [decide_eq_true h1]
            refine ⟨_, rfl, iteT (iteT ?_)⟩
            exact ⟨_, rfl, _, rfl, _, _, rfl, g6, turn (.inl h1)⟩
          · rw [decide_eq_false h1]
            refine ⟨_, rfl, iteF ?_⟩
            refine ⟨_, rfl, _, rfl, _, _, r5.dp, pb5.dp, part_shaped _, part_shaped _, _, rfl, ?_⟩
            rw [part_eqv]
            by_cases h2 : qn i = qn r
            · rw [decide_eq_true h2]
              refine iteT ?_
              refine ⟨_, rfl, p, C, dx, _, _, rfl, g6.at hp, U.cl, U.nB, flds_b, _, rfl, _, _, _, _, rfl, rfl, SqL.of (g6.at hB), at_of rfl (iB i hi), ?_⟩
              refine ⟨_, rfl, p, C, dx, _, _, rfl, g6.at hp, U.cl, U.nB, flds_b, _, rfl, _, _, _, _, rfl, rfl, SqL.of (g6.at hB), at_of rfl (iB r (by omega)), _, _, rfl, rfl, _, rfl, ?_⟩
              by_cases h3 : s.b i < s.b r
              · rw [decide_eq_true (show ((s.b i : Nat) : Int) < ((s.b r : Nat) : Int) by omega)]
                refine iteT ?_
                exact ⟨_, rfl, _, rfl, _, _, rfl, g6, turn (.inr ⟨h2, h3⟩)⟩
              · rw [decide_eq_false (show ¬ ((s.b i : Nat) : Int) < ((s.b r : Nat) : Int) by omega)]
                refine iteF ?_
                exact ⟨g6, keep _ pb5 h1 fun z => h3 z.2⟩
            · rw [decide_eq_false h2]
              refine iteF (iteF ?_)
              exact ⟨g6, keep _ pb5 h1 fun z => h2 z.1⟩
      · rw [decide_eq_false hpos]
        refine ⟨_, rfl, iteF ⟨g2, b, fo, _, _, _, rfl, ?_⟩⟩
        rcases inv with ⟨rfl, rfl, hall⟩ | ⟨r, hr', rfl, pb, hrp, hall⟩
        · refine .inl ⟨rfl, rfl, fun k hk => ?_⟩
          by_cases h : k < i
          · exact hall k h
          · have : k = i := by omega
            subst this; exact Rat.not_lt.mp hpos
        · refine .inr ⟨r, by omega, rfl, pb.gw gq, hrp, fun k hk hkp => ?_⟩
          by_cases h : k < i
          · exact hall k h hkp
          · have : k = i := by omega
            subst this; exact absurd hkp hpos
    · rintro σ H1 ⟨g1, b, fo, u4, u5, u6, rfl, inv⟩
      refine ⟨_, rfl, k _ _ g1 ?_⟩
      rcases inv with ⟨rfl, rfl, hall⟩ | ⟨r, hr', rfl, pb, hrp, hall⟩
      · exact .inr ⟨rfl, hall⟩
      · exact .inl ⟨r, rfl, hr', hrp, hall⟩
end
end K44


set_option Elab.async false
set_option linter.all false
set_option maxRecDepth 100000
set_option maxHeartbeats 4000000
set_option exponentiation.threshold 3000
/-! turn. -/
namespace K44
open PySem L2
open LP (Fit lim S Tab)
theorem ixNat {n j : Nat} (hj : j < n) : ixN n (j : Int) = some j := by
  unfold ixN
  rw [if_pos (by omega), if_pos (by omega)]
  simp
theorem r2_updR {H : Hp} {aR aB : Addr} {o : HO} : R2 (upd H aR o) aR aB = R2 H aR aB := by
  show rm (rm (upd H aR o) aR) aB = rm (rm H aR) aB
  rw [rm_upd]
theorem r2_updB {H : Hp} {aR aB : Addr} {o : HO} (ne : aR ≠ aB) : R2 (upd H aB o) aR aB = R2 H aR aB := by
  funext b
  show (if b = aB then none else if b = aR then none else if b = aB then some o else H b) = (if b = aB then none else if b = aR then none else H b)
  by_cases h : b = aB
  · rw [if_pos h, if_pos h]
  · rw [if_neg h, if_neg h, if_neg h]
theorem VL.r2 {K : PySem.W.Frag} {H : Hp} {D aR aB : Addr} {n : Nat} {f : Nat → Rat} {xs ys : List V} (h : VL K H (.ref D) n f) (n1 : D ≠ aR) (n2 : D ≠ aB) (hR : H aR = some (.lst xs)) (hB : H aB = some (.lst ys)) (ne : aR ≠ aB) : VL K (R2 H aR aB) (.ref D) n f :=
  (h.rm n1 hR).rm n2 (by rw [rm_ne ne.symm]; exact hB)
section
variable {K : PySem.W.Frag} {C : Addr} {H H' : Hp} {p aR aB : Addr} {n m : Nat} {col : Nat → Nat → Rat} {want : Nat → Rat} {s : Tab}
/-- a row is put in -/
theorem TabAt.setRow (h : TabAt K C H p aR aB n m col want s) {rws : List V} (hR : H aR = some (.lst rws)) {i : Nat} {v : V} {f : Nat → Rat} (hv : VL K (R2 H aR aB) v (m + n + 1) f) :
    TabAt K C (upd H aR (.lst (rws.set i v))) p aR aB n m col want { T := fun k j => if k = i then f j else s.T k j, b := s.b } where
  ob := by rw [r2_updR]; exact h.ob
  rows := by
    obtain ⟨rws', h1, h2, h3⟩ := h.rows
    rw [hR] at h1; cases h1
    refine ⟨_, upd_same, by rw [List.length_set]; exact h2, fun k hk => ?_⟩
    rw [r2_updR]
    by_cases e : k = i
    · subst e
      refine ⟨v, by rw [List.getElem?_set_self (by omega)], ?_⟩
      exact hv.congr fun j _ => (if_pos rfl).symm
    · obtain ⟨x, e1, e2⟩ := h3 k hk
      refine ⟨x, by rw [List.getElem?_set_ne (Ne.symm e)]; exact e1, ?_⟩
      exact e2.congr fun j _ => (if_neg e).symm
  bas := by
    obtain ⟨bs, h1, h2⟩ := h.bas
    exact ⟨bs, by rw [upd_ne h.ne.symm]; exact h1, h2⟩
  ne := h.ne
theorem TabAt.setBas (h : TabAt K C H p aR aB n m col want s) {bs : List V} (hB : H aB = some (.lst bs)) {i e : Nat} :
    TabAt K C (upd H aB (.lst (bs.set i (.int (e : Nat))))) p aR aB n m col want { T := s.T, b := fun k => if k = i then e else s.b k } where
  ob := by rw [r2_updB h.ne]; exact h.ob
  rows := by
    obtain ⟨rws, h1, h2, h3⟩ := h.rows
    refine ⟨rws, by rw [upd_ne h.ne]; exact h1, h2, fun k hk => ?_⟩
    rw [r2_updB h.ne]
    exact h3 k hk
  bas := by
    obtain ⟨bs', h1, h2, h3⟩ := h.bas
    rw [hB] at h1; cases h1
    refine ⟨_, upd_same, by rw [List.length_set]; exact h2, fun k hk => ?_⟩
    by_cases q : k = i
    · subst q
      rw [List.getElem?_set_self (by omega)]
      show some (V.int ((e : Nat) : Int)) = some (V.int ((if k = k then e else s.b k : Nat) : Int))
      rw [if_pos rfl]
    · rw [List.getElem?_set_ne (Ne.symm q)]
      show _ = some (V.int ((if k = i then e else s.b k : Nat) : Int))
      rw [if_neg q]
      exact h3 k hk
  ne := h.ne
end
def FitP (n m : Nat) (s : Tab) (r e : Nat) : Prop := (∀ j, j ≤ m + n → Fit (s.T r j / s.T r e)) ∧ ∀ i j, i < n → j ≤ m + n → Fit (s.T i e * (s.T r j / s.T r e)) ∧ Fit (s.T i j - s.T i e * (s.T r j / s.T r e))
/-- an answer, the table changed -/
abbrev Ans2 (H : Hp) (aR aB : Addr) (R : V → Hp → Prop) (Q : VK) : Prop := ∀ v H', Gw (R2 H aR aB) (R2 H' aR aB) → R v H' → Q v H'
def spTurn (K : PySem.W.Frag) (C : Addr) : Sp := fun vs H Q _ => ∃ (p aR aB : Addr) (r e n m : Nat) (col : Nat → Nat → Rat) (want : Nat → Rat) (s : Tab), vs = [.ref p, .int (r : Nat), .int (e : Nat)] ∧ TabAt K C H p aR aB n m col want s ∧ n ≤ 1000 ∧ m ≤ 1000 ∧ r < n ∧ e < m + n ∧ s.T r e ≠ 0 ∧
  FitP n m s r e ∧ Ans2 H aR aB (fun v H' => v = .non ∧ TabAt K C H' p aR aB n m col want (LP.piv s r e)) Q
/-- the table on the way -/
def mid (s : Tab) (r e i : Nat) : Tab := { T := fun k j => if k = r then s.T r j / s.T r e else if k < i then s.T k j - s.T k e * (s.T r j / s.T r e) else s.T k j, b := s.b }
section
variable {P : Program} {w : World} {K : PySem.W.Frag} {mg : Str → Option Value} {base : Heap}
theorem scTurn : FnScope ["self", "number", "place", "head", "other", "row", "factor", "one", "two"] ["self", "number", "place"] (defScope (sT 4)) := ⟨rfl, rfl, rfl, by decide +kernel, rfl, by decide +kernel, by decide +kernel⟩
theorem ok_turn {C : Addr} {f : Addr} {fd : FuncData} (F : Fun K "turn" "Table.turn" (sT 4) f fd) (T : Txt K mg) (U : CTxt K mg C) (C1 : C2 P w K mg base "minus" (· - ·)) (C2' : C2 P w K mg base "times" (· * ·)) (C3 : Cal P w K mg base "over" 2 ["one", "other"] (sp2o K)) :
    FnOk P w K mg base CX0 3 f fd ["self", "number", "place"] (spTurn K C) := by
  refine F.ok scTurn (fun vs H Q E h => ?_) (fun cdv A outer s H vs Q E hr h => ?_)
  · obtain ⟨p, aR, aB, r, e, n, m, col, want, s, rfl, _⟩ := h
    rfl
  · obtain ⟨p, aR, aB, r, e, n, m, col, want, s, rfl, tab, hn, hm, hrn, he, hne0, ft, k⟩ := h
    obtain ⟨az, hz, zt⟩ := T.zero
    refine ⟨_, pss_cons (ps_set (i := 3) scTurn.nd rfl (Or.inr rfl) (pe_ix (ixL K) (pe_ix (ixL K) (fldK K (pv 0)) (pv 1) (fun _ _ => rfl)) (pv 2) (fun _ _ => rfl)))
      (pss_cons (ps_asg (pe_lc (own := [("one", 7)]) (g := gName 7) (tt := tYes) rfl scTurn.nd (listK K (pe_ix (ixL K) (fldK K (pv 0)) (pv 1) (fun _ _ => rfl))) (blkOk_by (N := ["self", "number", "place", "head", "other", "row", "factor", "one", "two"]) (by kernel_rfl))
          (fun _ _ _ _ _ => pg_name (i := 7) scTurn.nd rfl (Or.inl rfl)) (fun _ _ _ _ _ => pts_nil)
          (fun _ _ _ _ _ => pe_call C3.ok hr rfl C3.hm C3.kp C3.b .nil pass0 (pa_cons (pv 7) (pa_cons (pv 3) pa_nil)))) (pg_sub (fldK K (pv 0)) (pv 1) set_list))
      (pss_cons (ps_for PassesOwn.never rfl (pi_range1 rfl T.range (pa_cons (pe_callB (lenK K) (by rfl) T.len PySem.boot_len (pa_cons (fldK K (pv 0)) pa_nil)) pa_nil)) (pg_name (i := 4) scTurn.nd rfl (Or.inl rfl))
        (pss_cons (ps_set (i := 5) scTurn.nd rfl (Or.inl rfl) (pe_ix (ixL K) (fldK K (pv 0)) (pv 4) (fun _ _ => rfl)))
        (pss_one (ps_if (PW.pt (pw_and (pt_cmpR op_ne (pv 4) (pv 1) (nomark _)) (pw_and1 (pt_cmpR (neK K hr.units) (pe_ix (ixL K) (pv 5) (pv 2) (fun _ _ => rfl)) (pe_glob (v := .ref az) rfl hz rfl) (nomark _)))))
          (pss_cons (ps_set (i := 6) scTurn.nd rfl (Or.inr rfl) (pe_ix (ixL K) (pv 5) (pv 2) (fun _ _ => rfl)))
          (pss_one (ps_asg (pe_lc (own := [("one", 7), ("two", 8)]) (g := gTup K 2 (gCons (gName 7) (gCons (gName 8) gNil))) (tt := tYes) rfl scTurn.nd (zipK K rfl T.zip (pa_cons (pv 5) (pa_cons (pe_ix (ixL K) (fldK K (pv 0)) (pv 1) (fun _ _ => rfl)) pa_nil)))
            (blkOk_by (N := ["self", "number", "place", "head", "other", "row", "factor", "one", "two"]) (by kernel_rfl))
            (fun _ _ _ _ _ => pg_tup rfl (pgs_cons (pg_name (i := 7) scTurn.nd rfl (Or.inl rfl)) (pgs_cons (pg_name (i := 8) scTurn.nd rfl (Or.inl rfl)) pgs_nil))) (fun _ _ _ _ _ => pts_nil)
            (fun _ _ _ _ _ => pe_call C1.ok hr rfl C1.hm C1.kp C1.b .nil pass0 (pa_cons (pv 7) (pa_cons (pe_call C2'.ok hr rfl C2'.hm C2'.kp C2'.b .nil pass0 (pa_cons (pv 6) (pa_cons (pv 8) pa_nil))) pa_nil)))) (pg_sub (fldK K (pv 0)) (pv 4) set_list)))) pss_nil))))
      (pss_one (ps_asg (pv 2) (pg_sub (fldK K (pv 0)) (pv 1) set_list))))), ?_⟩
    obtain ⟨cv, aS, dx, sgs, hp', _⟩ := id tab.ob
    obtain ⟨rws, hR, lR, iR⟩ := id tab.rows
    obtain ⟨bs, hB, lB, iB⟩ := id tab.bas
    have hp : H p = some (.ins C dx (flds cv aS aR aB)) := Gw.r2_le.at hp'
    obtain ⟨xr, exr, ⟨ar, vr, rfl, hsr, lr, ir⟩⟩ := iR r hrn
    have hsrR := hsr
    have hsr := Gw.r2_le.sqL hsr
    obtain ⟨yh, eyh, pyh⟩ := ir e (by omega)
    have pyhR := pyh
    have pyh := pyh.gw Gw.r2_le
    refine ⟨_, rfl, p, C, dx, _, _, rfl, hp, U.cl, U.nR, flds_r, _, rfl, _, _, _, _, rfl, rfl, SqL.of hR, at_of rfl exr, _, rfl, _, _, _, _, rfl, rfl, hsr, at_of rfl eyh, ?_⟩
    refine ⟨_, rfl, p, C, dx, _, _, rfl, hp, U.cl, U.nR, flds_r, _, rfl, _, _, _, _, rfl, rfl, SqL.of hR, at_of rfl exr, ar, rfl, ⟨vr, hsr⟩, fun D1 hD1 => lc_grow (walk_listY lr) hD1 (by omega) (fun j v H => PAt K H v (s.T r j / s.T r e)) (fun _ _ _ _ g r => r.gw g)
      (fun H3 g3 => g3.sqL hsr) (fun j x H1 H' hj _ g1 ⟨zs, hz⟩ hY C1 hC1 => ?_) (fun H1 zs g1 g2 hz hlen hit => ?_)⟩
    · obtain ⟨rfl, hx⟩ := hY
      obtain ⟨y, ey, py⟩ := ir j hj
      rw [hx] at ey; cases ey
      exact ⟨rfl, _, rfl, _, rfl, _, _, s.T r j, s.T r e, rfl, (py.gw Gw.r2_le).gw g1, pyh.gw g1, hne0, ft.1 j (by omega), fun v H4 g4 r4 => hC1 v H4 g4 (r4.rm (g4.at hz))⟩
    have nDR : D1 ≠ aR := fun z => by rw [z, hR] at hD1; cases hD1
    have nDB : D1 ≠ aB := fun z => by rw [z, hB] at hD1; cases hD1
    have hv1 : VL K (R2 H1 aR aB) (.ref D1) (m + n + 1) (fun j => s.T r j / s.T r e) := VL.r2 ⟨D1, zs, rfl, SqL.of hz, hlen, fun j hj => let ⟨y, e, r⟩ := hit j hj; ⟨y, e, r.gw Gw.rm_le⟩⟩ nDR nDB (g1.at hR) (g1.at hB) tab.ne
    have tab1 := (tab.gw g1).setRow (g1.at hR) (i := r) hv1
    have gg1 : Gw (R2 H aR aB) (R2 (upd H1 aR (.lst (rws.set r (.ref D1)))) aR aB) := by rw [r2_updR]; exact g1.r2 aR aB
    refine ⟨_, rfl, p, C, dx, _, _, rfl, g1.at hp, U.cl, U.nR, flds_r, _, rfl, aR, rws, _, r, rfl, rfl, g1.at hR, ?_, ?_⟩
    · unfold ixN
      rw [if_pos (by omega), if_pos (by omega)]; simp
    generalize upd H1 aR (.lst (rws.set r (.ref D1))) = H2 at tab1 gg1 ⊢
    have tab2 : TabAt K C H2 p aR aB n m col want (mid s r e 0) := tab1.congr (fun i j _ _ => by
      show (if i = r then _ else _) = (if i = r then _ else if i < 0 then _ else _)
      rw [if_neg (Nat.not_lt_zero i)]) (fun _ _ => rfl)
    obtain ⟨rws2, hR2, lR2, iR2⟩ := id tab2.rows
    have obj : ∀ {H' : Hp}, Gw (R2 H aR aB) (R2 H' aR aB) → H' p = some (.ins C dx (flds cv aS aR aB)) := fun g => Gw.r2_le.at (g.at hp')
    refine ⟨_, rfl, p, C, dx, _, _, rfl, obj gg1, U.cl, U.nR, flds_r, aR, rws2, rfl, .inl (SqL.of hR2), _, rfl, by omega, by omega, ?_⟩
    refine for_it (walk_rangeN (N := n) (by omega)) (fun i σ H' => Gw (R2 H aR aB) (R2 H' aR aB) ∧ TabAt K C H' p aR aB n m col want (mid s r e i) ∧ ∃ u4 u5 u6, σ = [some (.ref p), some (.int (r : Nat)), some (.int (e : Nat)), some yh, u4, u5, u6, none, none])
      ⟨gg1, tab2, none, none, none, rfl⟩ (fun _ _ _ _ _ => True.intro) ?_ ?_
    · rintro i y σ H1 H' hi ⟨gg, tb, u4, u5, u6, rfl⟩ ⟨rfl, rfl⟩
      obtain ⟨rws, hR, lR, iR⟩ := id tb.rows
      obtain ⟨bs, hB, lB, iB⟩ := id tb.bas
      have hp := obj gg
      obtain ⟨xi, exi, ⟨ai, vi, rfl, hsi, li, ii⟩⟩ := iR i hi
      have hsi := Gw.r2_le.sqL hsi
      refine ⟨_, rfl, p, C, dx, _, _, rfl, hp, U.cl, U.nR, flds_r, _, rfl, _, _, _, _, rfl, rfl, SqL.of hR, at_of rfl exi, ?_⟩
      refine ⟨_, rfl, _, rfl, rfl, _, rfl, ?_⟩
      by_cases hir : i = r
      · subst hir
        rw [decide_eq_true rfl]
        refine iteF (iteF ⟨gg, tb.congr (fun k j hk hj => ?_) (fun _ _ => rfl), _, _, _, rfl⟩)
        show (if k = i then _ else if k < i then _ else _) = (if k = i then _ else if k < i + 1 then _ else _)
        by_cases h : k = i
        · rw [if_pos h, if_pos h]
        · rw [if_neg h, if_neg h]
          by_cases h2 : k < i
          · rw [if_pos h2, if_pos (by omega)]
          · rw [if_neg h2, if_neg (by omega)]
      · rw [decide_eq_false (show ¬ V.int ((i : Nat) : Int) = V.int ((r : Nat) : Int) from fun z => by have := V.int.inj z; omega)]
        refine iteT ?_
        obtain ⟨ye, eye, pye⟩ := ii e (by omega)
        have pye := pye.gw Gw.r2_le
        have eT : ∀ j, (mid s r e i).T i j = s.T i j := fun j => by
          show (if i = r then _ else if i < i then _ else _) = _
          rw [if_neg hir, if_neg (Nat.lt_irrefl i)]
        rw [eT] at pye
        refine ⟨_, rfl, _, rfl, _, _, _, _, rfl, rfl, hsi, at_of rfl eye, _, _, pye.dp, (show PAt K H' (.ref az) 0 from ⟨⟨az, rfl, zt _⟩, fit_zero⟩).dp, part_shaped _, part_shaped _, _, rfl, ?_⟩
        rw [part_eqv]
        by_cases hze : s.T i e = 0
        · rw [decide_eq_true hze]
          refine iteF ⟨gg, tb.congr (fun k j hk hj => ?_) (fun _ _ => rfl), _, _, _, rfl⟩
          show (if k = r then _ else if k < i then _ else _) = (if k = r then _ else if k < i + 1 then _ else _)
          by_cases h : k = r
          · rw [if_pos h, if_pos h]
          · rw [if_neg h, if_neg h]
            by_cases h2 : k < i
            · rw [if_pos h2, if_pos (by omega)]
            · rw [if_neg h2]
              by_cases h3 : k = i
              · subst h3
                rw [if_pos (by omega), hze]; grind
              · rw [if_neg (by omega)]
        · rw [decide_eq_false hze]
          refine iteT ?_
          obtain ⟨xr, exr, ⟨ar2, vr2, rfl, hsr2, lr2, ir2⟩⟩ := iR r hrn
          have hsr2 := Gw.r2_le.sqL hsr2
          have eR : ∀ j, (mid s r e i).T r j = s.T r j / s.T r e := fun j => if_pos rfl
          refine ⟨_, rfl, _, rfl, _, _, _, _, rfl, rfl, hsi, at_of rfl eye, ?_⟩
          refine ⟨_, rfl, _, rfl, p, C, dx, _, _, rfl, hp, U.cl, U.nR, flds_r, _, rfl, _, _, _, _, rfl, rfl, SqL.of hR, at_of rfl exr, ai, ar2, vi, vr2, rfl, .inl ⟨hsi, hsr2, fun D2 hD2 =>
            lc_grow (walk_zip (K := K) (a := ai) (b := ar2) (xs := vi) (ys := vr2) (n := m + n + 1) (by omega)) hD2 (by omega) (fun j v H => PAt K H v (s.T i j - s.T i e * (s.T r j / s.T r e))) (fun _ _ _ _ g r => r.gw g)
            (fun H3 g3 => ⟨g3.sqL hsi, g3.sqL hsr2⟩) (fun j x H3 H4 hj _ g3 ⟨zs, hz⟩ hY C4 hC4 => ?_) (fun H3 zs g3 g4 hz hlen hit => ?_)⟩⟩
          · obtain ⟨q, a1, a2, rfl, hq, rfl, e1, e2⟩ := hY
            obtain ⟨a1', e1', p1⟩ := ii j hj
            obtain ⟨a2', e2', p2⟩ := ir2 j hj
            have e1 : vi[j]? = some a1 := e1
            have e2 : vr2[j]? = some a2 := e2
            rw [e1] at e1'; cases e1'
            rw [e2] at e2'; cases e2'
            rw [eT] at p1
            rw [eR] at p2
            have g5 : Gw H' (upd H3 q (.tup [a1, a2])) := g3.trans (Gw.new _ hq)
            refine ⟨q, _, rfl, SqT.of upd_same, rfl, _, _, rfl, _, _, rfl, rfl, rfl, _, rfl, _, rfl, _, rfl, ?_⟩
            refine ⟨_, _, s.T i e, s.T r j / s.T r e, rfl, pye.gw g5, (p2.gw Gw.r2_le).gw g5, (ft.2 i j hi (by omega)).1, fun v6 H6 g6 r6 => ?_⟩
            refine ⟨_, _, s.T i j, s.T i e * (s.T r j / s.T r e), rfl, ((p1.gw Gw.r2_le).gw g5).gw g6, r6, (ft.2 i j hi (by omega)).2, fun v7 H7 g7 r7 => ?_⟩
            have g8 := ((Gw.new _ hq).trans g6).trans g7
            exact hC4 v7 H7 g8 (r7.rm (g8.at hz))
          · have nDR : D2 ≠ aR := fun z => by rw [z, hR] at hD2; cases hD2
            have nDB : D2 ≠ aB := fun z => by rw [z, hB] at hD2; cases hD2
            have hv1 : VL K (R2 H3 aR aB) (.ref D2) (m + n + 1) (fun j => s.T i j - s.T i e * (s.T r j / s.T r e)) := VL.r2 ⟨D2, zs, rfl, SqL.of hz, hlen, fun j hj => let ⟨y, e, r⟩ := hit j hj; ⟨y, e, r.gw Gw.rm_le⟩⟩ nDR nDB (g3.at hR) (g3.at hB) tab.ne
            have tab1 := (tb.gw g3).setRow (g3.at hR) (i := i) hv1
            have gg1 : Gw (R2 H aR aB) (R2 (upd H3 aR (.lst (rws.set i (.ref D2)))) aR aB) := by rw [r2_updR]; exact gg.trans (g3.r2 aR aB)
            refine ⟨_, rfl, p, C, dx, _, _, rfl, g3.at hp, U.cl, U.nR, flds_r, _, rfl, aR, rws, _, i, rfl, rfl, g3.at hR, ?_, ?_⟩
            · rw [lR]; exact ixNat hi
            refine ⟨gg1, tab1.congr (fun k j hk hj => ?_) (fun _ _ => rfl), _, _, _, rfl⟩
            show (if k = i then _ else if k = r then _ else if k < i then _ else _) = (if k = r then _ else if k < i + 1 then _ else _)
            by_cases h3 : k = i
            · subst h3
              rw [if_pos rfl, if_neg hir, if_pos (by omega)]
            · rw [if_neg h3]
              by_cases h : k = r
              · rw [if_pos h, if_pos h]
              · rw [if_neg h, if_neg h]
                by_cases h2 : k < i
                · rw [if_pos h2, if_pos (by omega)]
                · rw [if_neg h2, if_neg (by omega)]
    · rintro σ H1 ⟨gg, tb, u4, u5, u6, rfl⟩
      obtain ⟨bs, hB, lB, iB⟩ := id tb.bas
      refine ⟨_, rfl, _, rfl, p, C, dx, _, _, rfl, obj gg, U.cl, U.nB, flds_b, _, rfl, aB, bs, _, r, rfl, rfl, hB, ?_, ?_⟩
      · rw [lB]; exact ixNat hrn
      refine k _ _ (by rw [r2_updB tab.ne]; exact gg) ⟨rfl, (tb.setBas hB).congr (fun k j hk hj => ?_) (fun k hk => rfl)⟩
      show (if k = r then _ else if k < n then _ else _) = (if k = r then _ else _)
      rw [if_pos hk]
end
end K44


set_option Elab.async false
set_option linter.all false
set_option maxRecDepth 100000
set_option maxHeartbeats 4000000
set_option exponentiation.threshold 3000
/-! weights, way, sides. -/
namespace K44
open PySem L2
open LP (Fit lim S Tab)
theorem flat_one {v : V} : ∀ n : Nat, (List.replicate n [v]).flatten = List.replicate n v
  | 0 => rfl
  | n + 1 => by
    show [v] ++ (List.replicate n [v]).flatten = v :: List.replicate n v
    rw [flat_one n]; rfl
theorem S_none {n : Nat} {b : Nat → Nat} {f : Nat → Rat} {j : Nat} (h : ∀ k, k < n → b k ≠ j) : S n (fun k => if b k = j then f k else 0) = 0 := LP.S_zero fun k hk => if_neg (h k hk)
/-- a place of the list that is made is written -/
theorem set_items {K : PySem.W.Frag} {H : Hp} {xs : List V} {m : Nat} {f g : Nat → Rat} {i : Nat} {y : V} (hl : xs.length = m) (hx : ∀ j, j < m → ∃ y, xs[j]? = some y ∧ PAt K H y (f j)) (hi : i < m) (hy : PAt K H y (g i)) (e : ∀ j, j < m → j ≠ i → f j = g j) :
    (xs.set i y).length = m ∧ ∀ j, j < m → ∃ z, (xs.set i y)[j]? = some z ∧ PAt K H z (g j) := by
  refine ⟨by rw [List.length_set]; exact hl, fun j hj => ?_⟩
  by_cases h : j = i
  · subst h
    exact ⟨y, by rw [List.getElem?_set_self (by omega)], hy⟩
  · obtain ⟨z, e1, e2⟩ := hx j hj
    exact ⟨z, by rw [List.getElem?_set_ne (Ne.symm h)]; exact e1, by rw [← e j hj h]; exact e2⟩
def spWeights (K : PySem.W.Frag) (C : Addr) : Sp := fun vs H Q _ => ∃ (p aR aB : Addr) (n m : Nat) (col : Nat → Nat → Rat) (want : Nat → Rat) (s : Tab), vs = [.ref p, .int (m : Nat)] ∧ TabAt K C H p aR aB n m col want s ∧ n ≤ 1000 ∧ m ≤ 1000 ∧ (∀ i k, i < n → k < n → s.b i = s.b k → i = k) ∧
  Ans H (fun v H' => VT K H' v m (LP.wt n m s)) Q
def spWay (K : PySem.W.Frag) (C : Addr) : Sp := fun vs H Q _ => ∃ (p aR aB : Addr) (e n m : Nat) (col : Nat → Nat → Rat) (want : Nat → Rat) (s : Tab), vs = [.ref p, .int (e : Nat), .int (m : Nat)] ∧ TabAt K C H p aR aB n m col want s ∧ n ≤ 1000 ∧ m ≤ 1000 ∧ (∀ i k, i < n → k < n → s.b i = s.b k → i = k) ∧
  e < m ∧ (∀ i, i < n → s.b i ≠ e) ∧ (∀ i, i < n → Fit (0 - s.T i e)) ∧ Ans H (fun v H' => VT K H' v m (LP.dir n s e)) Q
def FitS (n m : Nat) (want c : Nat → Rat) (s : Tab) : Prop := ∀ k, k < n → Fit (c (m + k) - LP.red n c s (m + k)) ∧ Fit (LP.side n m want c s k)
def spSides (K : PySem.W.Frag) (C : Addr) : Sp := fun vs H Q _ => ∃ (p aR aB : Addr) (wv : V) (n m : Nat) (col : Nat → Nat → Rat) (want c : Nat → Rat) (s : Tab), vs = [.ref p, wv] ∧ TabAt K C H p aR aB n m col want s ∧ VL K H wv (m + n) c ∧ n ≤ 1000 ∧ m ≤ 1000 ∧
  (∀ i, i < n → s.b i < m + n) ∧ FitR n m c s ∧ FitS n m want c s ∧ Ans H (fun v H' => VT K H' v n (LP.side n m want c s)) Q
section
variable {P : Program} {w : World} {K : PySem.W.Frag} {mg : Str → Option Value} {base : Heap}
theorem scWeights : FnScope ["self", "many", "found", "number", "place"] ["self", "many"] (defScope (sT 6)) := ⟨rfl, rfl, rfl, by decide +kernel, rfl, by decide +kernel, by decide +kernel⟩
theorem ok_weights {C : Addr} {f : Addr} {fd : FuncData} (F : Fun K "weights" "Table.weights" (sT 6) f fd) (T : Txt K mg) (U : CTxt K mg C) :
    FnOk P w K mg base CX0 1 f fd ["self", "many"] (spWeights K C) := by
  refine F.ok scWeights (fun vs H Q E h => ?_) (fun cdv A outer s H vs Q E hr h => ?_)
  · obtain ⟨p, aR, aB, n, m, col, want, s, rfl, _⟩ := h
    rfl
  · obtain ⟨p, aR, aB, n, m, col, want, s, rfl, tab, hn, hm, inj, k⟩ := h
    obtain ⟨az, hz, zt⟩ := T.zero
    refine ⟨_, pss_cons (ps_set (i := 2) scWeights.nd rfl (Or.inl rfl) (pe_op op_rep (pe_lst (pa_cons (pe_glob (v := .ref az) rfl hz rfl) pa_nil)) (pv 1)))
      (pss_cons (ps_for PassesOwn.never rfl (enumK K rfl T.enum (pa_cons (fldK K (pv 0)) pa_nil)) (pg_tup rfl (pgs_cons (pg_name (i := 3) scWeights.nd rfl (Or.inl rfl)) (pgs_cons (pg_name (i := 4) scWeights.nd rfl (Or.inl rfl)) pgs_nil)))
        (pss_one (ps_if (pt_cmpR op_lt (pv 4) (pv 1) (nomark _))
          (pss_one (ps_asg (pe_ix (ixL K) (pe_ix (ixL K) (fldK K (pv 0)) (pv 3) (fun _ _ => rfl)) (pe_un un_neg pe_int) (fun _ _ => rfl)) (pg_sub (pv 2) (pv 4) set_list))) pss_nil)))
      (pss_one (ps_ret (pe_callTy call_tuple_of (by rfl) T.tuple (by decide +kernel) (pa_cons (pv 2) pa_nil))))), ?_⟩
    obtain ⟨cv, aS, dx, sgs, hp', _⟩ := id tab.ob
    obtain ⟨rws, hR, lR, iR⟩ := id tab.rows
    obtain ⟨bs, hB, lB, iB⟩ := id tab.bas
    have hp : H p = some (.ins C dx (flds cv aS aR aB)) := Gw.r2_le.at hp'
    refine ⟨(show 1 ≤ sizeLine by decide), fun L0 hL0 => ⟨_, rfl, L0, m, _, rfl, rfl, upd_same, by omega, by omega, ?_, fun L hL => ?_⟩⟩
    · show 1 * ((m : Int)).toNat ≤ sizeLine
      exact Nat.le_trans (show 1 * ((m : Int)).toNat ≤ 1000 by omega) (by decide)
    rw [flat_one]
    have g00 : Gw H (upd H L0 (.lst [.ref az])) := Gw.new _ hL0
    have g0 : Gw H (rm (upd (upd H L0 (.lst [.ref az])) L (.lst (List.replicate ((m : Int)).toNat (.ref az)))) L) := by
      rw [rm_upd, rm_none hL]; exact g00
    have g01 : Gw H (upd (upd H L0 (.lst [.ref az])) L (.lst (List.replicate ((m : Int)).toNat (.ref az)))) := g00.trans (Gw.new _ hL)
    refine ⟨_, rfl, p, C, dx, _, _, rfl, g01.at hp, U.cl, U.nB, flds_b, aB, bs, rfl, SqL.of (g01.at hB), ?_⟩
    refine for_it (walk_enumL (K := K) (a := aB) lB) (fun i σ H' => (∃ xs, H' L = some (.lst xs) ∧ xs.length = m ∧ Gw H (rm H' L) ∧ ∀ j, j < m → ∃ y, xs[j]? = some y ∧ PAt K (rm H' L) y (S i fun k => if s.b k = j then s.T k (m + n) else 0)) ∧ ∃ u3 u4, σ = [some (.ref p), some (.int (m : Nat)), some (.ref L), u3, u4])
      ⟨⟨_, upd_same, by rw [List.length_replicate]; omega, g0, fun j hj => ⟨.ref az, by rw [List.getElem?_replicate, if_pos (by omega)], ⟨⟨az, rfl, zt _⟩, fit_zero⟩⟩⟩, none, none, rfl⟩ (fun i σ H' _ ⟨⟨xs, _, _, g, _⟩, _⟩ => SqL.of (Gw.rm_le.at (g.at hB))) ?_ ?_
    · rintro i y σ H1 H' hi ⟨⟨xs, hx, lx, g1, ix⟩, u3, u4, rfl⟩ ⟨q, x, rfl, hq, rfl, hxx⟩
      rw [iB i hi] at hxx; cases hxx
      have gq : Gw H1 (upd H1 q (.tup [.int (i : Nat), .int (s.b i : Nat)])) := Gw.new _ hq
      have g2 := g1.trans gq.rm
      have g3 : Gw H (upd H1 q (.tup [.int (i : Nat), .int (s.b i : Nat)])) := g2.trans Gw.rm_le
      refine ⟨q, _, rfl, SqT.of upd_same, rfl, _, _, rfl, _, _, rfl, rfl, ?_⟩
      refine ⟨_, rfl, _, rfl, _, _, rfl, rfl, _, rfl, ?_⟩
      by_cases hb : s.b i < m
      · rw [decide_eq_true (show ((s.b i : Nat) : Int) < (m : Int) by omega)]
        refine iteT ?_
        obtain ⟨x', ex, ⟨ar, vr, rfl, hsr, lr, ir⟩⟩ := iR i hi
        have hsr := Gw.r2_le.sqL hsr
        obtain ⟨yl, eyl, pyl⟩ := ir (m + n) (by omega)
        have pyl := pyl.gw Gw.r2_le
        refine ⟨_, rfl, p, C, dx, _, _, rfl, g3.at hp, U.cl, U.nR, flds_r, _, rfl, _, _, _, _, rfl, rfl, SqL.of (g3.at hR), at_of rfl ex, 1, rfl, _, _, _, _, rfl, rfl, g3.sqL hsr, at_last lr eyl, ?_⟩
        refine ⟨_, rfl, _, rfl, L, xs, _, s.b i, rfl, rfl, gq.at hx, by rw [lx]; exact ixNat hb, ?_⟩
        obtain ⟨sl, si⟩ := set_items (K := K) (H := rm (upd H1 q (.tup [.int (i : Nat), .int (s.b i : Nat)])) L) (g := fun j => S (i + 1) fun k => if s.b k = j then s.T k (m + n) else 0) (y := yl) lx (fun j hj => let ⟨y, e, r⟩ := ix j hj; ⟨y, e, r.gw gq.rm⟩) hb
          (by
            show PAt K _ yl (S i (fun k => if s.b k = s.b i then s.T k (m + n) else 0) + (if s.b i = s.b i then s.T i (m + n) else 0))
            rw [S_none fun k hk z => by have := inj k i (by omega) hi z; omega, if_pos rfl, Rat.zero_add]
            exact (pyl.gw g3).rm (gq.at hx))
          (fun j hj hne => by
            show _ = S i (fun k => if s.b k = j then s.T k (m + n) else 0) + (if s.b i = j then s.T i (m + n) else 0)
            rw [if_neg (Ne.symm hne), Rat.add_zero])
        refine ⟨⟨_, upd_same, sl, by rw [rm_upd]; exact g2, ?_⟩, _, _, rfl⟩
        rw [rm_upd]; exact si
      · rw [decide_eq_false (show ¬ ((s.b i : Nat) : Int) < (m : Int) by omega)]
        refine iteF ⟨⟨xs, gq.at hx, lx, g2, fun j hj => ?_⟩, _, _, rfl⟩
        obtain ⟨y, e, r⟩ := ix j hj
        refine ⟨y, e, ?_⟩
        show PAt K _ y (S i (fun k => if s.b k = j then s.T k (m + n) else 0) + (if s.b i = j then s.T i (m + n) else 0))
        rw [if_neg (by omega), Rat.add_zero]
        exact r.gw gq.rm
    · rintro σ H1 ⟨⟨xs, hx, lx, g1, ix⟩, u3, u4, rfl⟩
      refine ⟨_, rfl, L, xs, rfl, .inl ⟨SqL.of hx, fun l hl => k _ _ ((g1.trans Gw.rm_le).trans (Gw.new _ hl)) ⟨l, xs, rfl, SqT.of upd_same, lx, fun j hj => ?_⟩⟩⟩
      obtain ⟨y, e, r⟩ := ix j hj
      exact ⟨y, e, (r.gw Gw.rm_le).gw (Gw.new _ hl)⟩
theorem scWay : FnScope ["self", "place", "many", "found", "number", "other"] ["self", "place", "many"] (defScope (sT 8)) := ⟨rfl, rfl, rfl, by decide +kernel, rfl, by decide +kernel, by decide +kernel⟩
theorem ok_way {C : Addr} {f : Addr} {fd : FuncData} (F : Fun K "way" "Table.way" (sT 8) f fd) (T : Txt K mg) (U : CTxt K mg C) (C1 : C2 P w K mg base "minus" (· - ·)) :
    FnOk P w K mg base CX0 3 f fd ["self", "place", "many"] (spWay K C) := by
  refine F.ok scWay (fun vs H Q E h => ?_) (fun cdv A outer s H vs Q E hr h => ?_)
  · obtain ⟨p, aR, aB, e, n, m, col, want, s, rfl, _⟩ := h
    rfl
  · obtain ⟨p, aR, aB, e, n, m, col, want, s, rfl, tab, hn, hm, inj, hem, hfree, ft, k⟩ := h
    obtain ⟨az, hz, zt⟩ := T.zero
    obtain ⟨ao, ho, ot⟩ := T.one
    refine ⟨_, pss_cons (ps_set (i := 3) scWay.nd rfl (Or.inl rfl) (pe_op op_rep (pe_lst (pa_cons (pe_glob (v := .ref az) rfl hz rfl) pa_nil)) (pv 2)))
      (pss_cons (ps_asg (pe_glob (v := .ref ao) rfl ho rfl) (pg_sub (pv 3) (pv 1) set_list))
      (pss_cons (ps_for PassesOwn.never rfl (enumK K rfl T.enum (pa_cons (fldK K (pv 0)) pa_nil)) (pg_tup rfl (pgs_cons (pg_name (i := 4) scWay.nd rfl (Or.inl rfl)) (pgs_cons (pg_name (i := 5) scWay.nd rfl (Or.inl rfl)) pgs_nil)))
        (pss_one (ps_if (pt_cmpR op_lt (pv 5) (pv 2) (nomark _))
          (pss_one (ps_asg (pe_call C1.ok hr rfl C1.hm C1.kp C1.b .nil pass0 (pa_cons (pe_glob (v := .ref az) rfl hz rfl) (pa_cons (pe_ix (ixL K) (pe_ix (ixL K) (fldK K (pv 0)) (pv 4) (fun _ _ => rfl)) (pv 1) (fun _ _ => rfl)) pa_nil))) (pg_sub (pv 3) (pv 5) set_list))) pss_nil)))
      (pss_one (ps_ret (pe_callTy call_tuple_of (by rfl) T.tuple (by decide +kernel) (pa_cons (pv 3) pa_nil)))))), ?_⟩
    obtain ⟨cv, aS, dx, sgs, hp', _⟩ := id tab.ob
    obtain ⟨rws, hR, lR, iR⟩ := id tab.rows
    obtain ⟨bs, hB, lB, iB⟩ := id tab.bas
    have hp : H p = some (.ins C dx (flds cv aS aR aB)) := Gw.r2_le.at hp'
    refine ⟨(show 1 ≤ sizeLine by decide), fun L0 hL0 => ⟨_, rfl, L0, m, _, rfl, rfl, upd_same, by omega, by omega, ?_, fun L hL => ?_⟩⟩
    · show 1 * ((m : Int)).toNat ≤ sizeLine
      exact Nat.le_trans (show 1 * ((m : Int)).toNat ≤ 1000 by omega) (by decide)
    rw [flat_one]
    refine ⟨_, rfl, _, rfl, L, _, _, e, rfl, rfl, upd_same, by rw [List.length_replicate]; exact ixNat (by omega), ?_⟩
    have g00 : Gw H (upd H L0 (.lst [.ref az])) := Gw.new _ hL0
    generalize hH1 : upd (upd (upd H L0 (.lst [.ref az])) L (.lst (List.replicate ((m : Int)).toNat (.ref az)))) L (.lst ((List.replicate ((m : Int)).toNat (.ref az)).set e (.ref ao))) = H1
    have hx1 : H1 L = some (.lst ((List.replicate ((m : Int)).toNat (V.ref az)).set e (.ref ao))) := by rw [← hH1]; exact upd_same
    have g0 : Gw H (rm H1 L) := by
      rw [← hH1, rm_upd, rm_upd, rm_none hL]; exact g00
    have g01 : Gw H H1 := g0.trans Gw.rm_le
    clear hH1
    let fv : Nat → Nat → Rat := fun i j => (if j = e then 1 else 0) - S i (fun k => if s.b k = j then s.T k e else 0)
    have i0 : ((List.replicate ((m : Int)).toNat (V.ref az)).set e (.ref ao)).length = m ∧ ∀ j, j < m → ∃ z, ((List.replicate ((m : Int)).toNat (V.ref az)).set e (.ref ao))[j]? = some z ∧ PAt K (rm H1 L) z (fv 0 j) :=
      set_items (f := fun _ => 0) (by rw [List.length_replicate]; omega) (fun j hj => ⟨.ref az, by rw [List.getElem?_replicate, if_pos (by omega)], ⟨⟨az, rfl, zt _⟩, fit_zero⟩⟩) hem
        (by
          show PAt K _ _ ((if e = e then 1 else 0) - 0)
          rw [if_pos rfl, show (1 : Rat) - 0 = 1 by grind]
          exact ⟨⟨ao, rfl, ot _⟩, fit_one⟩) (fun j hj hne => by
          show (0 : Rat) = (if j = e then 1 else 0) - 0
          rw [if_neg hne]; grind)
    refine ⟨_, rfl, p, C, dx, _, _, rfl, g01.at hp, U.cl, U.nB, flds_b, aB, bs, rfl, SqL.of (g01.at hB), ?_⟩
    refine for_it (walk_enumL (K := K) (a := aB) lB) (fun i σ H' => (∃ xs, H' L = some (.lst xs) ∧ xs.length = m ∧ Gw H (rm H' L) ∧ ∀ j, j < m → ∃ y, xs[j]? = some y ∧ PAt K (rm H' L) y (fv i j)) ∧ ∃ u3 u4, σ = [some (.ref p), some (.int (e : Nat)), some (.int (m : Nat)), some (.ref L), u3, u4])
      ⟨⟨_, hx1, i0.1, g0, i0.2⟩, none, none, rfl⟩ (fun i σ H' _ ⟨⟨xs, _, _, g, _⟩, _⟩ => SqL.of (Gw.rm_le.at (g.at hB))) ?_ ?_
    · rintro i y σ H1 H' hi ⟨⟨xs, hx, lx, g1, ix⟩, u3, u4, rfl⟩ ⟨q, x, rfl, hq, rfl, hxx⟩
      rw [iB i hi] at hxx; cases hxx
      have gq : Gw H1 (upd H1 q (.tup [.int (i : Nat), .int (s.b i : Nat)])) := Gw.new _ hq
      have g2 := g1.trans gq.rm
      have g3 : Gw H (upd H1 q (.tup [.int (i : Nat), .int (s.b i : Nat)])) := g2.trans Gw.rm_le
      refine ⟨q, _, rfl, SqT.of upd_same, rfl, _, _, rfl, _, _, rfl, rfl, ?_⟩
      refine ⟨_, rfl, _, rfl, _, _, rfl, rfl, _, rfl, ?_⟩
      by_cases hb : s.b i < m
      · rw [decide_eq_true (show ((s.b i : Nat) : Int) < (m : Int) by omega)]
        refine iteT ?_
        obtain ⟨x', ex, ⟨ar, vr, rfl, hsr, lr, ir⟩⟩ := iR i hi
        have hsr := Gw.r2_le.sqL hsr
        obtain ⟨yl, eyl, pyl⟩ := ir e (by omega)
        have pyl := pyl.gw Gw.r2_le
        refine ⟨_, rfl, p, C, dx, _, _, rfl, g3.at hp, U.cl, U.nR, flds_r, _, rfl, _, _, _, _, rfl, rfl, SqL.of (g3.at hR), at_of rfl ex, _, rfl, _, _, _, _, rfl, rfl, g3.sqL hsr, at_of rfl eyl, ?_⟩
        refine ⟨_, _, 0, s.T i e, rfl, ⟨⟨az, rfl, zt _⟩, fit_zero⟩, pyl.gw g3, ft i hi, fun v4 H4 g4 r4 => ?_⟩
        have gq4 := gq.trans g4
        refine ⟨_, rfl, _, rfl, L, xs, _, s.b i, rfl, rfl, gq4.at hx, by rw [lx]; exact ixNat hb, ?_⟩
        obtain ⟨sl, si⟩ := set_items (K := K) (H := rm H4 L) (g := fv (i + 1)) (y := v4) lx (fun j hj => let ⟨y, e, r⟩ := ix j hj; ⟨y, e, r.gw gq4.rm⟩) hb
          (by
            show PAt K _ v4 ((if s.b i = e then 1 else 0) - (S i (fun k => if s.b k = s.b i then s.T k e else 0) + (if s.b i = s.b i then s.T i e else 0)))
            rw [S_none fun k hk z => by have := inj k i (by omega) hi z; omega, if_pos rfl, Rat.zero_add, if_neg (hfree i hi)]
            exact r4.rm (gq4.at hx))
          (fun j hj hne => by
            show _ = (if j = e then 1 else 0) - (S i (fun k => if s.b k = j then s.T k e else 0) + (if s.b i = j then s.T i e else 0))
            rw [if_neg (Ne.symm hne), Rat.add_zero])
        refine ⟨⟨_, upd_same, sl, by rw [rm_upd]; exact g2.trans g4.rm, ?_⟩, _, _, rfl⟩
        rw [rm_upd]; exact si
      · rw [decide_eq_false (show ¬ ((s.b i : Nat) : Int) < (m : Int) by omega)]
        refine iteF ⟨⟨xs, gq.at hx, lx, g2, fun j hj => ?_⟩, _, _, rfl⟩
        obtain ⟨y, e', r⟩ := ix j hj
        refine ⟨y, e', ?_⟩
        show PAt K _ y ((if j = e then 1 else 0) - (S i (fun k => if s.b k = j then s.T k e else 0) + (if s.b i = j then s.T i e else 0)))
        rw [if_neg (show ¬ s.b i = j by omega), Rat.add_zero]
        exact r.gw gq.rm
    · rintro σ H1 ⟨⟨xs, hx, lx, g1, ix⟩, u3, u4, rfl⟩
      refine ⟨_, rfl, L, xs, rfl, .inl ⟨SqL.of hx, fun l hl => k _ _ ((g1.trans Gw.rm_le).trans (Gw.new _ hl)) ⟨l, xs, rfl, SqT.of upd_same, lx, fun j hj => ?_⟩⟩⟩
      obtain ⟨y, e, r⟩ := ix j hj
      exact ⟨y, e, (r.gw Gw.rm_le).gw (Gw.new _ hl)⟩
theorem sg_num (want : Nat → Rat) (k : Nat) : (LP.sgn want k).num = sgz want k ∧ (LP.sgn want k).den = 1 := by
  unfold LP.sgn sgz
  split <;> exact ⟨rfl, rfl⟩
theorem sg_fit (want : Nat → Rat) (k : Nat) : Fit (LP.sgn want k) := by
  unfold LP.sgn
  split
  · exact fit_neg_one
  · exact fit_one
/-- (sign, 1) -/
theorem sg_part {H : Hp} {q : Addr} (want : Nat → Rat) (k : Nat) (h : H q = some (.tup [.int (sgz want k), .int 1])) : PAt K H (.ref q) (LP.sgn want k) := by
  refine ⟨⟨q, rfl, ?_⟩, sg_fit want k⟩
  rw [(sg_num want k).1, (sg_num want k).2]
  exact SqT.of h
theorem scSides : FnScope ["self", "worths", "many", "added", "found", "place", "sign"] ["self", "worths"] (defScope (sT 7)) := ⟨rfl, rfl, rfl, by decide +kernel, rfl, by decide +kernel, by decide +kernel⟩
theorem ok_sides {C : Addr} {f : Addr} {fd : FuncData} (F : Fun K "sides" "Table.sides" (sT 7) f fd) (T : Txt K mg) (U : CTxt K mg C) (C1 : C2 P w K mg base "minus" (· - ·)) (C2' : C2 P w K mg base "times" (· * ·))
    (M : MCal P w K mg base C "reduced" 5 ["self", "worths"] (spReduced K C)) : FnOk P w K mg base CX0 6 f fd ["self", "worths"] (spSides K C) := by
  refine F.ok scSides (fun vs H Q E h => ?_) (fun cdv A outer s H vs Q E hr h => ?_)
  · obtain ⟨p, aR, aB, wv, n, m, col, want, c, s, rfl, _⟩ := h
    rfl
  · obtain ⟨p, aR, aB, wv, n, m, col, want, c, s, rfl, tab, hw, hn, hm, hb, ft, fs, k⟩ := h
    refine ⟨_, pss_cons (ps_set (i := 2) scSides.nd rfl (Or.inl rfl) (pe_callB (lenK K) (by rfl) T.len PySem.boot_len (pa_cons (fldK K (pv 0)) pa_nil)))
      (pss_cons (ps_set (i := 3) scSides.nd rfl (Or.inl rfl) (pe_meth (pv 0) U.cl M.hm M.ok hr M.b .nil pass0 (pa_cons (pv 1) pa_nil)))
      (pss_cons (ps_set (i := 4) scSides.nd rfl (Or.inl rfl) (pe_lst pa_nil))
      (pss_cons (ps_for PassesOwn.never rfl (enumK K rfl T.enum (pa_cons (fldK K (pv 0)) pa_nil)) (pg_tup rfl (pgs_cons (pg_name (i := 5) scSides.nd rfl (Or.inl rfl)) (pgs_cons (pg_name (i := 6) scSides.nd rfl (Or.inl rfl)) pgs_nil)))
        (pss_one (ps_expr (pe_bm PySem.F.plainAttrs_list PySem.F.slot_list_append PySem.F.type_list_append mt_append (pv 4) (pa_cons (pe_call C2'.ok (hr.mono (by decide)) rfl C2'.hm C2'.kp C2'.b .nil pass0 (pa_cons (pe_tup (pa_cons (pv 6) (pa_cons pe_int pa_nil)))
          (pa_cons (pe_call C1.ok (hr.mono (by decide)) rfl C1.hm C1.kp C1.b .nil pass0 (pa_cons (pe_ix (ixL K) (pv 1) (pe_op op_add (pv 2) (pv 5)) (fun _ _ => rfl)) (pa_cons (pe_ix (ixL K) (pv 3) (pe_op op_add (pv 2) (pv 5)) (fun _ _ => rfl)) pa_nil))) pa_nil))) pa_nil)))))
      (pss_one (ps_ret (pe_callTy call_tuple_of (by rfl) T.tuple (by decide +kernel) (pa_cons (pv 4) pa_nil))))))), ?_⟩
    obtain ⟨cv, aS, dx, sgs, hp', ⟨ac, vc, rfl, hsc, lc, ic⟩, hS, lS, iS⟩ := id tab.ob
    obtain ⟨aw, vw, rfl, hsw, lw, iw⟩ := id hw
    have hp : H p = some (.ins C dx (flds (.ref ac) aS aR aB)) := Gw.r2_le.at hp'
    have hsc : SqL K H ac vc ∨ SqT K H ac vc := hsc.elim (fun z => .inl (Gw.r2_le.sqL z)) (fun z => .inr (Gw.r2_le.sqT z))
    have hS := Gw.r2_le.sqL hS
    refine ⟨_, rfl, p, C, dx, _, _, rfl, hp, U.cl, U.nC, flds_c, ac, vc, rfl, hsc, ?_⟩
    rw [lc]
    refine ⟨_, rfl, p, dx, _, rfl, hp, flds_no (by decide +kernel) (by decide +kernel) (by decide +kernel) (by decide +kernel), _, rfl, ?_⟩
    refine ⟨p, aR, aB, _, n, m, col, want, c, s, rfl, tab, hw, hn, hm, hb, ft, fun v H1 g1 r1 => ?_⟩
    obtain ⟨ad, vd, rfl, hsd, ld, idd⟩ := r1
    refine ⟨(show 0 ≤ sizeLine by decide), fun L hL => ?_⟩
    have gL : Gw H1 (upd H1 L (.lst [])) := Gw.new _ hL
    refine ⟨_, rfl, p, C, dx, _, _, rfl, (g1.trans gL).at hp, U.cl, U.nS, flds_s, aS, sgs, rfl, (g1.trans gL).sqL hS, ?_⟩
    refine for_grow (walk_enumL (K := K) (a := aS) lS) (L := L) (H0 := H1) (by omega) (fun σ => ∃ u5 u6, σ = [some (.ref p), some (.ref aw), some (.int (m : Nat)), some (.ref ad), some (.ref L), u5, u6]) (fun j v H => PAt K H v (LP.side n m want c s j)) (fun _ _ _ _ g r => r.gw g) (fun H3 g3 => (g1.trans g3).sqL hS)
      ⟨none, none, rfl⟩ upd_same (by rw [rm_upd, rm_none hL]; exact Gw.refl _) ?_ ?_
    · rintro j x σ H2 H' hj ⟨u5, u6, rfl⟩ _ g2 ⟨zs, hz⟩ ⟨q, y, rfl, hq, rfl, hy⟩ N hN
      rw [iS j hj] at hy; cases hy
      have gq : Gw H2 (upd H2 q (.tup [.int (j : Nat), .int (sgz want j)])) := Gw.new _ hq
      have g3 := g2.trans gq
      refine ⟨q, _, rfl, SqT.of upd_same, rfl, _, _, rfl, _, _, rfl, rfl, ?_⟩
      refine ⟨_, rfl, .inl ⟨rfl, zs, SqL.of (gq.at hz)⟩, ?_⟩
      refine ⟨_, rfl, (show 2 ≤ sizeLine by decide), fun t ht => ?_⟩
      have gt : Gw (upd H2 q (.tup [.int (j : Nat), .int (sgz want j)])) (upd (upd H2 q (.tup [.int (j : Nat), .int (sgz want j)])) t (.tup [.int (sgz want j), .int 1])) := Gw.new _ ht
      have pt := sg_part (K := K) (H := upd (upd H2 q (.tup [.int (j : Nat), .int (sgz want j)])) t (.tup [.int (sgz want j), .int 1])) (q := t) want j upd_same
      have g4 := g3.trans gt
      obtain ⟨yw, eyw, pyw⟩ := iw (m + j) (by omega)
      obtain ⟨yd, eyd, pyd⟩ := idd (m + j) (by omega)
      have pyd : PAt K H1 yd (LP.red n c s (m + j)) := by
        have := pyd
        unfold redv at this
        rwa [if_pos (by omega)] at this
      refine ⟨_, rfl, _, rfl, _, rfl, _, _, rfl, rfl, _, _, _, _, rfl, rfl, (g1.trans g4).sqL hsw, at_of (j := m + j) (by omega) eyw, ?_⟩
      refine ⟨_, rfl, _, rfl, _, rfl, _, _, rfl, rfl, _, _, _, _, rfl, rfl, g4.sqL hsd, at_of (j := m + j) (by omega) eyd, ?_⟩
      refine ⟨_, _, c (m + j), LP.red n c s (m + j), rfl, pyw.gw (g1.trans g4), pyd.gw g4, (fs j hj).1, fun v5 H5 g5 r5 => ?_⟩
      refine ⟨_, _, LP.sgn want j, c (m + j) - LP.red n c s (m + j), rfl, pt.gw g5, r5, (fs j hj).2, fun v6 H6 g6 r6 => ?_⟩
      have g7 := (gq.trans gt).trans (g5.trans g6)
      obtain ⟨xs, h1, h2, h3⟩ := hN _ H6 v6 ⟨_, _, rfl⟩ g7 (PAt.rm r6 (g7.at hz))
      exact ⟨L, xs, v6, rfl, rfl, h1, h2, h3⟩
    · rintro σ H2 xs ⟨u5, u6, rfl⟩ g2 gr hx hlen hit
      refine ⟨_, rfl, L, xs, rfl, .inl ⟨SqL.of hx, fun l hl => k _ _ ((g1.trans g2).trans (Gw.new _ hl)) ⟨l, xs, rfl, SqT.of upd_same, hlen, fun j hj => ?_⟩⟩⟩
      obtain ⟨y, e, r⟩ := hit j hj
      exact ⟨y, e, (r.gw Gw.rm_le).gw (Gw.new _ hl)⟩
end
end K44


set_option Elab.async false
set_option linter.all false
set_option maxRecDepth 100000
set_option maxHeartbeats 4000000
set_option exponentiation.threshold 3000
/-! the table is made. -/
namespace K44
open PySem L2
open LP (Fit lim S Tab)
/-! ### what is no sequence goes away -/
theorem sqT_rmI {K : PySem.W.Frag} {H : Hp} {D a C dx : Addr} {fs : List (Str × V)} {xs : List V} (h : SqT K H a xs) (hD : H D = some (.ins C dx fs)) : SqT K (rm H D) a xs := by
  rcases h with (h | ⟨o, h⟩) | h
  · exact .inl (.inl (by rw [rm_ne fun z => by rw [z, hD] at h; cases h]; exact h))
  · exact .inl (.inr ⟨o, by rw [rm_ne fun z => by rw [z, hD] at h; cases h]; exact h⟩)
  · exact .inr h
theorem sqL_rmI {K : PySem.W.Frag} {H : Hp} {D a C dx : Addr} {fs : List (Str × V)} {xs : List V} (h : SqL K H a xs) (hD : H D = some (.ins C dx fs)) : SqL K (rm H D) a xs := by
  rcases h with (h | ⟨o, h⟩) | h
  · exact .inl (.inl (by rw [rm_ne fun z => by rw [z, hD] at h; cases h]; exact h))
  · exact .inl (.inr ⟨o, by rw [rm_ne fun z => by rw [z, hD] at h; cases h]; exact h⟩)
  · exact .inr h
theorem PAt.rmI {K : PySem.W.Frag} {H : Hp} {D C dx : Addr} {fs : List (Str × V)} {v : V} {q : Rat} (h : PAt K H v q) (hD : H D = some (.ins C dx fs)) : PAt K (K44.rm H D) v q := by
  obtain ⟨⟨a, e, s⟩, f⟩ := h
  exact ⟨⟨a, e, sqT_rmI s hD⟩, f⟩
theorem VL.rmI {K : PySem.W.Frag} {H : Hp} {D C dx : Addr} {fs : List (Str × V)} {v : V} {n : Nat} {f : Nat → Rat} (h : VL K H v n f) (hD : H D = some (.ins C dx fs)) : VL K (K44.rm H D) v n f := by
  obtain ⟨b, vs, e, s, l, i⟩ := h
  exact ⟨b, vs, e, sqL_rmI s hD, l, fun j hj => let ⟨x, e, p⟩ := i j hj; ⟨x, e, p.rmI hD⟩⟩
theorem gw_fin {H8 H9 : Hp} {x aR aB : Addr} {o : HO} (g : Gw H8 H9) (hB : H8 aB = none) : Gw (rm (rm H8 aR) x) (R2 (upd H9 x o) aR aB) := fun b u e => by
  obtain ⟨h1, e⟩ := rm_some e
  obtain ⟨h2, e⟩ := rm_some e
  have h3 : b ≠ aB := fun z => by rw [z, hB] at e; cases e
  show (if b = aB then none else if b = aR then none else if b = x then some o else H9 b) = some u ∨ _
  rcases g b u e with z | ⟨ps, ps', e1, e2, t⟩
  · exact .inl (by rw [if_neg h3, if_neg h2, if_neg h1]; exact z)
  · refine .inr ⟨ps, ps', e1, ?_, t⟩
    show (if b = aB then none else if b = aR then none else if b = x then some o else H9 b) = _
    rw [if_neg h3, if_neg h2, if_neg h1]; exact e2
def fs3 (cv : V) (aS aR : Addr) : List (Str × V) := putF "rows" (.ref aR) (putF "signs" (.ref aS) (putF "columns" cv []))
theorem fs3_r {cv : V} {aS aR : Addr} : (fs3 cv aS aR).lookup ("rows" : Str) = some (.ref aR) := by
  unfold fs3; rw [lookup_putF, if_pos rfl]
theorem fs3_s {cv : V} {aS aR : Addr} : (fs3 cv aS aR).lookup ("signs" : Str) = some (.ref aS) := by
  unfold fs3; rw [lookup_putF, if_neg (by decide +kernel), lookup_putF, if_pos rfl]
theorem fs3_len {cv : V} {aS aR : Addr} : (fs3 cv aS aR).length < 1000 := by
  have h1 := length_putF "columns" cv []
  have h2 := length_putF "signs" (V.ref aS) (putF "columns" cv [])
  have h3 := length_putF "rows" (V.ref aR) (putF "signs" (V.ref aS) (putF "columns" cv []))
  unfold fs3
  simp only [List.length_nil] at h1
  omega
theorem put_len (f : Str) (v : V) (fs : List (Str × V)) (h : fs.length < 900) : (putF f v fs).length < 1000 := by
  have := length_putF f v fs; omega
def spInit (K : PySem.W.Frag) (C : Addr) : Sp := fun vs H Q _ => ∃ (x dx : Addr) (cv wv : V) (n m : Nat) (col : Nat → Nat → Rat) (want : Nat → Rat), vs = [.ref x, cv, wv] ∧ H x = some (.ins C dx []) ∧ VTT K (rm H x) cv m n col ∧ VT K (rm H x) wv n want ∧ n ≤ 1000 ∧ m ≤ 1000 ∧
  (∀ j k, j < m → k < n → Fit (LP.sgn want k * col j k)) ∧ (∀ k, k < n → Fit (LP.sgn want k * want k)) ∧
  ∀ H', (∃ aR aB, Gw (rm H x) (R2 H' aR aB) ∧ TabAt K C H' x aR aB n m col want (LP.tab0 n m col want)) → Q .non H'
section
variable {P : Program} {w : World} {K : PySem.W.Frag} {mg : Str → Option Value} {base : Heap}
theorem scInit : FnScope ["self", "columns", "wanted", "one", "place", "row", "column", "other"] ["self", "columns", "wanted"] (defScope (sT 0)) := ⟨rfl, rfl, rfl, by decide +kernel, rfl, by decide +kernel, by decide +kernel⟩
theorem ok_init {C : Addr} {f : Addr} {fd : FuncData} (F : Fun K "__init__" "Table.__init__" (sT 0) f fd) (T : Txt K mg) (U : CTxt K mg C) (C1 : CLess P w K mg base) (C2' : C2 P w K mg base "times" (· * ·)) :
    FnOk P w K mg base CX0 3 f fd ["self", "columns", "wanted"] (spInit K C) := by
  refine F.ok scInit (fun vs H Q E h => ?_) (fun cdv A outer s H vs Q E hr h => ?_)
  · obtain ⟨x, dx, cv, wv, n, m, col, want, rfl, _⟩ := h
    rfl
  · obtain ⟨x, dx, cv, wv, n, m, col, want, rfl, hx, hcv, hwv, hn, hm, f1, f2, k⟩ := h
    obtain ⟨az, hz, zt⟩ := T.zero
    obtain ⟨ao, ho, ot⟩ := T.one
    refine ⟨_, pss_cons (ps_fld (pv 0) (pv 1) rfl)
      (pss_cons (ps_fld (pv 0) (pe_lc (own := [("one", 3)]) (g := gName 3) (tt := tYes) rfl scInit.nd (tupK K (pv 2)) (blkOk_by (N := ["self", "columns", "wanted", "one", "place", "row", "column", "other"]) (by kernel_rfl))
          (fun _ _ _ _ _ => pg_name (i := 3) scInit.nd rfl (Or.inl rfl)) (fun _ _ _ _ _ => pts_nil)
          (fun _ _ _ _ _ => pe_ifExp (pt_val (pe_call C1.ok (hr.mono (by decide)) rfl C1.hm C1.kp C1.b .nil pass0 (pa_cons (pv 3) (pa_cons (pe_glob (v := .ref az) rfl hz rfl) pa_nil)))) (pe_un un_neg pe_int) pe_int)) rfl)
      (pss_cons (ps_fld (pv 0) (pe_lst pa_nil) rfl)
      (pss_cons (ps_for PassesOwn.never rfl (enumTK K rfl T.enum (pa_cons (pv 2) pa_nil)) (pg_tup rfl (pgs_cons (pg_name (i := 4) scInit.nd rfl (Or.inr rfl)) (pgs_cons (pg_name (i := 3) scInit.nd rfl (Or.inl rfl)) pgs_nil)))
        (pss_cons (ps_setLc (i := 5) (own := [("column", 6)]) (g := gName 6) (tt := tYes) rfl scInit.nd rfl rfl (sw_true rfl rfl rfl rfl) (tupK K (pv 1)) (blkOk_by (N := ["self", "columns", "wanted", "one", "place", "row", "column", "other"]) (by kernel_rfl))
            (fun _ _ _ _ _ => pg_name (i := 6) scInit.nd rfl (Or.inl rfl)) (fun _ _ _ _ _ => pts_nil)
            (fun _ _ _ _ _ => pe_call C2'.ok hr rfl C2'.hm C2'.kp C2'.b .nil pass0 (pa_cons (pe_tup (pa_cons (pe_ix (ixL K) (fldK K (pv 0)) (pv 4) (fun _ _ => rfl)) (pa_cons pe_int pa_nil))) (pa_cons (pe_ix (ixT K) (pv 6) (pv 4) (fun _ _ => rfl)) pa_nil))))
        (pss_cons (ps_expr (pe_bm PySem.F.plainAttrs_list PySem.F.slot_list_extend PySem.F.type_list_extend mt_extend (pv 5) (pa_cons
            (pe_lc (own := [("other", 7)]) (g := gName 7) (tt := tYes) rfl scInit.nd (pi_range1 rfl T.range (pa_cons (pe_callB (lenK K) (by rfl) T.len PySem.boot_len (pa_cons (pv 2) pa_nil)) pa_nil)) (blkOk_by (N := ["self", "columns", "wanted", "one", "place", "row", "column", "other"]) (by kernel_rfl))
              (fun _ _ _ _ _ => pg_name (i := 7) scInit.nd rfl (Or.inl rfl)) (fun _ _ _ _ _ => pts_nil)
              (fun _ _ _ _ _ => pe_ifExp (pt_cmpR op_eq (pv 7) (pv 4) (nomark _)) (pe_glob (v := .ref ao) rfl ho rfl) (pe_glob (v := .ref az) rfl hz rfl))) pa_nil)))
        (pss_one (ps_expr (pe_bm PySem.F.plainAttrs_list PySem.F.slot_list_append PySem.F.type_list_append mt_append (fldK K (pv 0)) (pa_cons (pe_lst (starK K (pv 5) (pa_cons
            (pe_call C2'.ok hr rfl C2'.hm C2'.kp C2'.b .nil pass0 (pa_cons (pe_tup (pa_cons (pe_ix (ixL K) (fldK K (pv 0)) (pv 4) (fun _ _ => rfl)) (pa_cons pe_int pa_nil))) (pa_cons (pv 3) pa_nil))) pa_nil))) pa_nil)))))))
      (pss_one (ps_fld (pv 0) (pe_lc (own := [("place", 4)]) (g := gName 4) (tt := tYes) rfl scInit.nd (pi_range1 rfl T.range (pa_cons (pe_callB (lenK K) (by rfl) T.len PySem.boot_len (pa_cons (pv 2) pa_nil)) pa_nil)) (blkOk_by (N := ["self", "columns", "wanted", "one", "place", "row", "column", "other"]) (by kernel_rfl))
          (fun _ _ _ _ _ => pg_name (i := 4) scInit.nd rfl (Or.inl rfl)) (fun _ _ _ _ _ => pts_nil)
          (fun _ _ _ _ _ => pe_op op_add (pe_callB (lenK K) (by rfl) T.len PySem.boot_len (pa_cons (pv 1) pa_nil)) (pv 4))) rfl))))), ?_⟩
    obtain ⟨ac, vc, rfl, hsc, lc, ic⟩ := hcv
    obtain ⟨aw, vw, rfl, hsw, lw, iw⟩ := hwv
    have hn' : n ≤ 100000 := by omega
    -- self.columns = columns
    refine ⟨_, rfl, _, rfl, x, C, dx, [], rfl, hx, U.cl, U.nC, (show 0 < 1000 by decide), ?_⟩
    have l1 : (putF "columns" (V.ref ac) []).length < 900 := by have := length_putF "columns" (V.ref ac) []; simp at this; omega
    have b1 : Gw (rm H x) (upd H x (.ins C dx (putF "columns" (.ref ac) []))) := Gw.rm_up
    have o1 : upd H x (.ins C dx (putF "columns" (.ref ac) [])) x = some (.ins C dx (putF "columns" (.ref ac) [])) := upd_same
    have r1 : rm (upd H x (.ins C dx (putF "columns" (.ref ac) []))) x = rm H x := rm_upd
    generalize upd H x (.ins C dx (putF "columns" (.ref ac) [])) = H1 at b1 o1 r1 ⊢
    -- self.signs
    refine ⟨_, rfl, aw, rfl, ⟨vw, b1.sqT hsw⟩, fun aS haS => lc_grow (walk_tupY lw) haS hn' (fun j v _ => v = .int (sgz want j)) (fun _ _ _ _ _ h => h) (fun H' g => (b1.trans g).sqT hsw)
      (fun j y H2 H' hj _ g _ hY C4 hC4 => ?_) (fun H2 sgs g2 _ hsg lsg isg => ?_)⟩
    · obtain ⟨rfl, hy⟩ := hY
      obtain ⟨y', e, py⟩ := iw j hj
      rw [hy] at e; cases e
      refine ⟨rfl, _, rfl, _, _, want j, 0, rfl, py.gw (b1.trans g), ⟨⟨az, rfl, zt _⟩, fit_zero⟩, ?_⟩
      by_cases h : want j < 0
      · rw [decide_eq_true h]
        exact ⟨_, rfl, iteT ⟨1, rfl, hC4 _ _ (Gw.refl _) (by unfold sgz; rw [if_pos h])⟩⟩
      · rw [decide_eq_false h]
        exact ⟨_, rfl, iteF (hC4 _ _ (Gw.refl _) (by unfold sgz; rw [if_neg h]))⟩
    have o2 := g2.at o1
    have isg' : ∀ j, j < n → sgs[j]? = some (.int (sgz want j)) := fun j hj => let ⟨y, e, h⟩ := isg j hj; by rw [e, h]
    refine ⟨_, rfl, x, C, dx, _, rfl, o2, U.cl, U.nS, (Nat.lt_trans l1 (by decide)), ?_⟩
    have l2 : (putF "signs" (.ref aS) (putF "columns" (V.ref ac) [])).length < 900 := by have := length_putF "signs" (V.ref aS) (putF "columns" (V.ref ac) []); have := length_putF "columns" (V.ref ac) []; simp at this; omega
    have nSx : aS ≠ x := fun z => by rw [z, o2] at hsg; cases hsg
    have b2 : Gw (rm H x) (rm H2 x) := by rw [← r1]; exact g2.rm
    have o3 : upd H2 x (.ins C dx (putF "signs" (.ref aS) (putF "columns" (.ref ac) []))) x = some (.ins C dx (putF "signs" (.ref aS) (putF "columns" (.ref ac) []))) := upd_same
    have s3 : upd H2 x (.ins C dx (putF "signs" (.ref aS) (putF "columns" (.ref ac) []))) aS = some (.lst sgs) := by rw [upd_ne nSx]; exact hsg
    have b3 : Gw (rm H x) (rm (upd H2 x (.ins C dx (putF "signs" (.ref aS) (putF "columns" (.ref ac) [])))) x) := by rw [rm_upd]; exact b2
    generalize upd H2 x (.ins C dx (putF "signs" (.ref aS) (putF "columns" (.ref ac) []))) = H3 at o3 s3 b3 ⊢
    -- self.rows = []
    refine ⟨(show 0 ≤ sizeLine by decide), fun aR haR => ?_⟩
    have nRx : aR ≠ x := fun z => by rw [z, o3] at haR; cases haR
    have nRS : aR ≠ aS := fun z => by rw [z, s3] at haR; cases haR
    refine ⟨_, rfl, x, C, dx, _, rfl, (by rw [upd_ne nRx.symm]; exact o3), U.cl, U.nR, (Nat.lt_trans l2 (by decide)), ?_⟩
    have o5 : upd (upd H3 aR (.lst [])) x (.ins C dx (fs3 (.ref ac) aS aR)) x = some (.ins C dx (fs3 (.ref ac) aS aR)) := upd_same
    have a5 : upd (upd H3 aR (.lst [])) x (.ins C dx (fs3 (.ref ac) aS aR)) aR = some (.lst []) := by rw [upd_ne nRx]; exact upd_same
    have s5 : upd (upd H3 aR (.lst [])) x (.ins C dx (fs3 (.ref ac) aS aR)) aS = some (.lst sgs) := by rw [upd_ne nSx, upd_ne nRS.symm]; exact s3
    have b5 : Gw (rm H x) (rm (rm (upd (upd H3 aR (.lst [])) x (.ins C dx (fs3 (.ref ac) aS aR))) aR) x) := by
      refine b3.trans (Gw.of fun b u e => ?_)
      obtain ⟨h1, e⟩ := rm_some e
      have h2 : b ≠ aR := fun z => by rw [z, haR] at e; cases e
      rw [rm_ne h1, rm_ne h2, upd_ne h1, upd_ne h2]
      exact e
    show tSeq _ _ _ _ (upd (upd H3 aR (.lst [])) x (.ins C dx (fs3 (.ref ac) aS aR)))
    generalize upd (upd H3 aR (.lst [])) x (.ins C dx (fs3 (.ref ac) aS aR)) = H5 at o5 a5 s5 b5 ⊢
    have o5r : rm H5 aR x = some (.ins C dx (fs3 (.ref ac) aS aR)) := by rw [rm_ne nRx.symm]; exact o5
    have s5r : rm H5 aR aS = some (.lst sgs) := by rw [rm_ne nRS.symm]; exact s5
    have b5r : Gw (rm H x) (rm H5 aR) := b5.trans Gw.rm_le
    refine ⟨_, rfl, aw, vw, rfl, (b5r.trans Gw.rm_le).sqT hsw, ?_⟩
    refine for_grow (walk_enumT (K := K) (a := aw) lw) (L := aR) (H0 := rm H5 aR) hn' (fun σ => ∃ u3 u4 u5, σ = [some (.ref x), some (.ref ac), some (.ref aw), u3, u4, u5, none, none]) (fun j v H => VL K (rm H x) v (m + n + 1) (LP.mat n m col want j)) (fun _ _ _ _ g r => r.gw g.rm) (fun H3 g3 => (b5r.trans g3).sqT hsw)
      ⟨none, none, none, rfl⟩ a5 (Gw.refl _) ?_ ?_
    · rintro j y σ H6 H' hj ⟨u3, u4, u5, rfl⟩ gr g6 ⟨zs0, hz0⟩ ⟨q, v, rfl, hq, rfl, hv⟩ N hN
      obtain ⟨v', ev, pv'⟩ := iw j hj
      rw [hv] at ev; cases ev
      have gq : Gw H6 (upd H6 q (.tup [.int (j : Nat), v])) := Gw.new _ hq
      have o7 : Gw (rm H5 aR) (upd H6 q (.tup [.int (j : Nat), v])) := g6.trans gq
      refine ⟨q, _, rfl, SqT.of upd_same, rfl, _, _, rfl, _, _, rfl, rfl, ?_⟩
      generalize upd H6 q (.tup [.int (j : Nat), v]) = H7 at gq o7 ⊢
      -- row = [..]
      refine ⟨_, rfl, ac, rfl, ⟨vc, (b5r.trans o7).sqT hsc⟩, fun D hD => lc_grow (walk_tupY lc) hD (by omega) (fun i v H => PAt K H v (LP.sgn want j * col i j)) (fun _ _ _ _ g r => r.gw g) (fun H3 g3 => ((b5r.trans o7).trans g3).sqT hsc)
        (fun i y H8 H' hi _ g8 ⟨zs, hz⟩ hY C4 hC4 => ?_) (fun H8 zs g8 g8' hz8 lz8 iz8 => ?_)⟩
      · obtain ⟨rfl, hy⟩ := hY
        obtain ⟨y', ey, ⟨ai, vi, rfl, hsi, li, ii⟩⟩ := ic i hi
        rw [hy] at ey; cases ey
        obtain ⟨z, ez, pz⟩ := ii j hj
        have g9 := o7.trans g8
        refine ⟨rfl, _, rfl, x, C, dx, _, _, rfl, g9.at o5r, U.cl, U.nS, fs3_s, _, rfl, _, _, _, _, rfl, rfl, SqL.of (g9.at s5r), at_of rfl (isg' j hj), (show 2 ≤ sizeLine by decide), fun t ht => ?_⟩
        have gt : Gw H' (upd H' t (.tup [.int (sgz want j), .int 1])) := Gw.new _ ht
        have pt := sg_part (K := K) (H := upd H' t (.tup [.int (sgz want j), .int 1])) (q := t) want j upd_same
        refine ⟨_, rfl, _, rfl, _, _, _, _, rfl, rfl, (b5r.trans (g9.trans gt)).sqT hsi, at_of rfl ez, ?_⟩
        refine ⟨_, _, LP.sgn want j, col i j, rfl, pt, pz.gw (b5r.trans (g9.trans gt)), f1 i j hi hj, fun v5 H9 g9 r9 => hC4 v5 H9 (gt.trans g9) (r9.rm ((gt.trans g9).at hz))⟩
      -- row.extend([..])
      refine ⟨_, rfl, .inl ⟨rfl, zs, SqL.of hz8⟩, _, rfl, aw, vw, rfl, .inr ((b5r.trans (o7.trans g8)).sqT hsw), _, rfl, by omega, by omega, fun E1 hE1 =>
        lc_grow (walk_rangeN (N := n) (by omega)) hE1 hn' (fun i v H => PAt K H v (if i = j then 1 else 0)) (fun _ _ _ _ g r => r.gw g) (fun _ _ => True.intro) (fun i y H9 H' hi _ g9 ⟨ws, hw⟩ hY C4 hC4 => ?_) (fun H9 ws g9 g9' hw9 lw9 iw9 => ?_)⟩
      · obtain ⟨rfl, rfl⟩ := hY
        refine ⟨rfl, _, rfl, _, rfl, rfl, _, rfl, ?_⟩
        by_cases h : i = j
        · subst h
          rw [decide_eq_true rfl]
          refine iteT (hC4 _ _ (Gw.refl _) ?_)
          rw [if_pos rfl]
          exact ⟨⟨ao, rfl, ot _⟩, fit_one⟩
        · rw [decide_eq_false (show ¬ V.int ((i : Nat) : Int) = V.int ((j : Nat) : Int) from fun z => by have := V.int.inj z; omega)]
          refine iteF (hC4 _ _ (Gw.refl _) ?_)
          rw [if_neg h]
          exact ⟨⟨az, rfl, zt _⟩, fit_zero⟩
      refine ⟨D, E1, zs, ws, rfl, rfl, g9.at hz8, hw9, ?_, ?_⟩
      · rw [lz8, lw9]; exact Nat.le_trans (Nat.add_le_add hm hn) (by decide)
      have nDR : D ≠ aR := fun z => by rw [z, gq.at hz0] at hD; cases hD
      have gA : Gw H7 (upd H9 D (.lst (zs ++ ws))) := (g8.trans g9).upd _ hD
      have hA : upd H9 D (.lst (zs ++ ws)) D = some (.lst (zs ++ ws)) := upd_same
      have gA9 : Gw (rm H9 D) (upd H9 D (.lst (zs ++ ws))) := Gw.rm_up
      have gA8 : Gw (rm H8 D) (upd H9 D (.lst (zs ++ ws))) := g9.rm.trans gA9
      have it : ∀ i, i < m + n → ∃ y, (zs ++ ws)[i]? = some y ∧ PAt K (upd H9 D (.lst (zs ++ ws))) y (LP.mat n m col want j i) := fun i hi => by
        by_cases h : i < m
        · obtain ⟨y, e, r⟩ := iz8 i h
          refine ⟨y, by rw [List.getElem?_append_left (by omega)]; exact e, ?_⟩
          rw [LP.mat_col h]
          exact r.gw gA8
        · obtain ⟨y, e, r⟩ := iw9 (i - m) (by omega)
          refine ⟨y, by rw [List.getElem?_append_right (by omega), lz8]; exact e, ?_⟩
          have e2 : LP.mat n m col want j i = if i - m = j then 1 else 0 := by
            have := LP.mat_own (n := n) (m := m) (col := col) (want := want) (k := j) (i := i - m) (by omega)
            rw [show m + (i - m) = i by omega] at this
            rw [this]
            by_cases q : j = i - m
            · rw [if_pos q, if_pos q.symm]
            · rw [if_neg q, if_neg (Ne.symm q)]
          rw [e2]
          exact ((r.gw Gw.rm_le).rm (g9.at hz8)).gw gA9
      generalize upd H9 D (.lst (zs ++ ws)) = HA at gA hA it ⊢
      -- self.rows.append([..])
      have gB := o7.trans gA
      have hBR : HA aR = some (.lst zs0) := gA.at (gq.at hz0)
      refine ⟨_, rfl, x, C, dx, _, _, rfl, gB.at o5r, U.cl, U.nR, fs3_r, .inl ⟨rfl, zs0, SqL.of hBR⟩, ?_⟩
      refine ⟨_, rfl, D, _, rfl, .inr (SqL.of hA), ?_⟩
      refine ⟨_, rfl, x, C, dx, _, _, rfl, gB.at o5r, U.cl, U.nS, fs3_s, _, rfl, _, _, _, _, rfl, rfl, SqL.of (gB.at s5r), at_of rfl (isg' j hj), (show 2 ≤ sizeLine by decide), fun t ht => ?_⟩
      have gt : Gw HA (upd HA t (.tup [.int (sgz want j), .int 1])) := Gw.new _ ht
      have pt := sg_part (K := K) (H := upd HA t (.tup [.int (sgz want j), .int 1])) (q := t) want j upd_same
      refine ⟨_, rfl, _, _, LP.sgn want j, want j, rfl, pt, pv'.gw (b5r.trans (gB.trans gt)), f2 j hj, fun v5 HC gC rC => ?_⟩
      have gAC := gt.trans gC
      refine ⟨?_, fun E2 hE2 => ?_⟩
      · simp only [List.length_append, List.length_cons, List.length_nil, lz8, lw9]
        exact Nat.le_trans (Nat.add_le_add (Nat.add_le_add hm hn) (Nat.le_refl 1)) (by decide)
      have gE : Gw HC (upd HC E2 (.lst ((zs ++ ws) ++ [v5]))) := Gw.new _ hE2
      have nER : E2 ≠ aR := fun z => by rw [z, gAC.at hBR] at hE2; cases hE2
      have nEx : E2 ≠ x := fun z => by rw [z, (gB.trans gAC).at o5r] at hE2; cases hE2
      have vl : VL K (upd HC E2 (.lst ((zs ++ ws) ++ [v5]))) (.ref E2) (m + n + 1) (LP.mat n m col want j) := by
        refine ⟨E2, _, rfl, SqL.of upd_same, ?_, fun i hi => ?_⟩
        · simp only [List.length_append, List.length_cons, List.length_nil, lz8, lw9]
        · by_cases h : i < m + n
          · obtain ⟨y, e, r⟩ := it i h
            exact ⟨y, by rw [List.getElem?_append_left (by rw [List.length_append, lz8, lw9]; exact h)]; exact e, r.gw (gAC.trans gE)⟩
          · have : i = m + n := by omega
            subst this
            refine ⟨v5, by rw [List.getElem?_append_right (by rw [List.length_append, lz8, lw9]; exact Nat.le_refl _), List.length_append, lz8, lw9, Nat.sub_self]; rfl, ?_⟩
            rw [LP.mat_rhs]
            exact rC.gw gE
      have vl2 : VL K (rm (rm (upd HC E2 (.lst ((zs ++ ws) ++ [v5]))) aR) x) (.ref E2) (m + n + 1) (LP.mat n m col want j) :=
        (VL.rm vl nER ((gAC.trans gE).at hBR)).rmI (by rw [rm_ne nRx.symm]; exact (gB.trans (gAC.trans gE)).at o5r)
      obtain ⟨xs, h1, h2, h3⟩ := hN _ _ (.ref E2) ⟨_, _, _, rfl⟩ (gq.trans (gA.trans (gAC.trans gE))) vl2
      exact ⟨aR, xs, .ref E2, rfl, rfl, h1, h2, h3⟩
    · rintro σ H6 rws ⟨u3, u4, u5, rfl⟩ g6 gr hR lR iR
      have g6x := b5r.trans g6
      refine ⟨_, rfl, aw, vw, rfl, .inr (g6x.sqT hsw), _, rfl, by omega, by omega, fun aB haB => lc_grow (walk_rangeN (N := n) (by omega)) haB hn' (fun i v _ => v = .int ((m + i : Nat) : Int)) (fun _ _ _ _ _ h => h) (fun _ _ => True.intro) (fun i y H9 H' hi _ g9 _ hY C4 hC4 => ?_) (fun H9 bs g9 g9' hB lB iB => ?_)⟩
      · obtain ⟨rfl, rfl⟩ := hY
        refine ⟨rfl, _, rfl, ac, vc, rfl, .inr ((g6x.trans g9).sqT hsc), _, rfl, _, _, rfl, rfl, hC4 _ _ (Gw.refl _) ?_⟩
        rw [lc]; congr 1
      have nBx : aB ≠ x := fun z => by rw [z, g6.at o5r] at haB; cases haB
      have nBR : aR ≠ aB := fun z => by rw [← z, hR] at haB; cases haB
      have nBS : aS ≠ aB := fun z => by rw [← z, g6.at s5r] at haB; cases haB
      refine ⟨_, rfl, x, C, dx, _, rfl, (g6.trans g9).at o5r, U.cl, U.nB, ?_, ?_⟩
      · exact fs3_len
      have gf : Gw (rm (rm H6 aR) x) (R2 (upd H9 x (.ins C dx (flds (.ref ac) aS aR aB))) aR aB) := gw_fin g9 haB
      have ga : Gw (rm H x) (R2 (upd H9 x (.ins C dx (flds (.ref ac) aS aR aB))) aR aB) := b5.trans (gr.rm.trans gf)
      have ov : R2 (upd H9 x (.ins C dx (flds (.ref ac) aS aR aB))) aR aB x = some (.ins C dx (flds (.ref ac) aS aR aB)) := by
        show rm (rm _ aR) aB x = _
        rw [rm_ne nBx.symm, rm_ne nRx.symm]; exact upd_same
      refine k _ ⟨aR, aB, ga, ?_⟩
      refine ⟨⟨.ref ac, aS, dx, sgs, ov, ⟨ac, vc, rfl, .inr (ga.sqT hsc), lc, fun j hj => let ⟨y, e, v⟩ := ic j hj; ⟨y, e, v.gw ga⟩⟩, gf.sqL (SqL.of (by rw [rm_ne nSx]; exact gr.at s5r)), lsg, isg'⟩,
        ⟨rws, by rw [upd_ne nRx]; exact g9.at hR, lR, fun i hi => let ⟨y, e, r⟩ := iR i hi; ⟨y, e, r.gw gf⟩⟩, ⟨bs, by rw [upd_ne nBx]; exact hB, lB, fun i hi => let ⟨y, e, h⟩ := iB i hi; by rw [e, h]; rfl⟩, nBR⟩
end
end K44


set_option Elab.async false
set_option linter.all false
set_option maxRecDepth 100000
set_option maxHeartbeats 4000000
set_option exponentiation.threshold 3000
namespace K44
open PySem L2
open LP (Fit lim S Tab)
def spInitL (K : PySem.W.Frag) (C : Addr) : Sp := fun vs H Q _ => ∃ (x dx : Addr) (cv wv : V) (n m : Nat) (col : Nat → Nat → Rat) (want : Nat → Rat), vs = [.ref x, cv, wv] ∧ H x = some (.ins C dx []) ∧ VLT K (rm H x) cv m n col ∧ VT K (rm H x) wv n want ∧ n ≤ 1000 ∧ m ≤ 1000 ∧
  (∀ j k, j < m → k < n → Fit (LP.sgn want k * col j k)) ∧ (∀ k, k < n → Fit (LP.sgn want k * want k)) ∧
  ∀ H', (∃ aR aB, Gw (rm H x) (R2 H' aR aB) ∧ TabAt K C H' x aR aB n m col want (LP.tab0 n m col want)) → Q .non H'
section
variable {P : Program} {w : World} {K : PySem.W.Frag} {mg : Str → Option Value} {base : Heap}
theorem scInitL : FnScope ["self", "columns", "wanted", "one", "place", "row", "column", "other"] ["self", "columns", "wanted"] (defScope (sT 0)) := ⟨rfl, rfl, rfl, by decide +kernel, rfl, by decide +kernel, by decide +kernel⟩
theorem ok_initL {C : Addr} {f : Addr} {fd : FuncData} (F : Fun K "__init__" "Table.__init__" (sT 0) f fd) (T : Txt K mg) (U : CTxt K mg C) (C1 : CLess P w K mg base) (C2' : C2 P w K mg base "times" (· * ·)) :
    FnOk P w K mg base CX0 3 f fd ["self", "columns", "wanted"] (spInitL K C) := by
  refine F.ok scInit (fun vs H Q E h => ?_) (fun cdv A outer s H vs Q E hr h => ?_)
  · obtain ⟨x, dx, cv, wv, n, m, col, want, rfl, _⟩ := h
    rfl
  · obtain ⟨x, dx, cv, wv, n, m, col, want, rfl, hx, hcv, hwv, hn, hm, f1, f2, k⟩ := h
    obtain ⟨az, hz, zt⟩ := T.zero
    obtain ⟨ao, ho, ot⟩ := T.one
    refine ⟨_, pss_cons (ps_fld (pv 0) (pv 1) rfl)
      (pss_cons (ps_fld (pv 0) (pe_lc (own := [("one", 3)]) (g := gName 3) (tt := tYes) rfl scInit.nd (tupK K (pv 2)) (blkOk_by (N := ["self", "columns", "wanted", "one", "place", "row", "column", "other"]) (by kernel_rfl))
          (fun _ _ _ _ _ => pg_name (i := 3) scInit.nd rfl (Or.inl rfl)) (fun _ _ _ _ _ => pts_nil)
          (fun _ _ _ _ _ => pe_ifExp (pt_val (pe_call C1.ok (hr.mono (by decide)) rfl C1.hm C1.kp C1.b .nil pass0 (pa_cons (pv 3) (pa_cons (pe_glob (v := .ref az) rfl hz rfl) pa_nil)))) (pe_un un_neg pe_int) pe_int)) rfl)
      (pss_cons (ps_fld (pv 0) (pe_lst pa_nil) rfl)
      (pss_cons (ps_for PassesOwn.never rfl (enumTK K rfl T.enum (pa_cons (pv 2) pa_nil)) (pg_tup rfl (pgs_cons (pg_name (i := 4) scInit.nd rfl (Or.inr rfl)) (pgs_cons (pg_name (i := 3) scInit.nd rfl (Or.inl rfl)) pgs_nil)))
        (pss_cons (ps_setLc (i := 5) (own := [("column", 6)]) (g := gName 6) (tt := tYes) rfl scInit.nd rfl rfl (sw_true rfl rfl rfl rfl) (listK K (pv 1)) (blkOk_by (N := ["self", "columns", "wanted", "one", "place", "row", "column", "other"]) (by kernel_rfl))
            (fun _ _ _ _ _ => pg_name (i := 6) scInit.nd rfl (Or.inl rfl)) (fun _ _ _ _ _ => pts_nil)
            (fun _ _ _ _ _ => pe_call C2'.ok hr rfl C2'.hm C2'.kp C2'.b .nil pass0 (pa_cons (pe_tup (pa_cons (pe_ix (ixL K) (fldK K (pv 0)) (pv 4) (fun _ _ => rfl)) (pa_cons pe_int pa_nil))) (pa_cons (pe_ix (ixT K) (pv 6) (pv 4) (fun _ _ => rfl)) pa_nil))))
        (pss_cons (ps_expr (pe_bm PySem.F.plainAttrs_list PySem.F.slot_list_extend PySem.F.type_list_extend mt_extend (pv 5) (pa_cons
            (pe_lc (own := [("other", 7)]) (g := gName 7) (tt := tYes) rfl scInit.nd (pi_range1 rfl T.range (pa_cons (pe_callB (lenK K) (by rfl) T.len PySem.boot_len (pa_cons (pv 2) pa_nil)) pa_nil)) (blkOk_by (N := ["self", "columns", "wanted", "one", "place", "row", "column", "other"]) (by kernel_rfl))
              (fun _ _ _ _ _ => pg_name (i := 7) scInit.nd rfl (Or.inl rfl)) (fun _ _ _ _ _ => pts_nil)
              (fun _ _ _ _ _ => pe_ifExp (pt_cmpR op_eq (pv 7) (pv 4) (nomark _)) (pe_glob (v := .ref ao) rfl ho rfl) (pe_glob (v := .ref az) rfl hz rfl))) pa_nil)))
        (pss_one (ps_expr (pe_bm PySem.F.plainAttrs_list PySem.F.slot_list_append PySem.F.type_list_append mt_append (fldK K (pv 0)) (pa_cons (pe_lst (starK K (pv 5) (pa_cons
            (pe_call C2'.ok hr rfl C2'.hm C2'.kp C2'.b .nil pass0 (pa_cons (pe_tup (pa_cons (pe_ix (ixL K) (fldK K (pv 0)) (pv 4) (fun _ _ => rfl)) (pa_cons pe_int pa_nil))) (pa_cons (pv 3) pa_nil))) pa_nil))) pa_nil)))))))
      (pss_one (ps_fld (pv 0) (pe_lc (own := [("place", 4)]) (g := gName 4) (tt := tYes) rfl scInit.nd (pi_range1 rfl T.range (pa_cons (pe_callB (lenK K) (by rfl) T.len PySem.boot_len (pa_cons (pv 2) pa_nil)) pa_nil)) (blkOk_by (N := ["self", "columns", "wanted", "one", "place", "row", "column", "other"]) (by kernel_rfl))
          (fun _ _ _ _ _ => pg_name (i := 4) scInit.nd rfl (Or.inl rfl)) (fun _ _ _ _ _ => pts_nil)
          (fun _ _ _ _ _ => pe_op op_add (pe_callB (lenK K) (by rfl) T.len PySem.boot_len (pa_cons (pv 1) pa_nil)) (pv 4))) rfl))))), ?_⟩
    obtain ⟨ac, vc, rfl, hsc, lc, ic⟩ := hcv
    obtain ⟨aw, vw, rfl, hsw, lw, iw⟩ := hwv
    have hn' : n ≤ 100000 := by omega
    -- self.columns = columns
    refine ⟨_, rfl, _, rfl, x, C, dx, [], rfl, hx, U.cl, U.nC, (show 0 < 1000 by decide), ?_⟩
    have l1 : (putF "columns" (V.ref ac) []).length < 900 := by have := length_putF "columns" (V.ref ac) []; simp at this; omega
    have b1 : Gw (rm H x) (upd H x (.ins C dx (putF "columns" (.ref ac) []))) := Gw.rm_up
    have o1 : upd H x (.ins C dx (putF "columns" (.ref ac) [])) x = some (.ins C dx (putF "columns" (.ref ac) [])) := upd_same
    have r1 : rm (upd H x (.ins C dx (putF "columns" (.ref ac) []))) x = rm H x := rm_upd
    generalize upd H x (.ins C dx (putF "columns" (.ref ac) [])) = H1 at b1 o1 r1 ⊢
    -- self.signs
    refine ⟨_, rfl, aw, rfl, ⟨vw, b1.sqT hsw⟩, fun aS haS => lc_grow (walk_tupY lw) haS hn' (fun j v _ => v = .int (sgz want j)) (fun _ _ _ _ _ h => h) (fun H' g => (b1.trans g).sqT hsw)
      (fun j y H2 H' hj _ g _ hY C4 hC4 => ?_) (fun H2 sgs g2 _ hsg lsg isg => ?_)⟩
    · obtain ⟨rfl, hy⟩ := hY
      obtain ⟨y', e, py⟩ := iw j hj
      rw [hy] at e; cases e
      refine ⟨rfl, _, rfl, _, _, want j, 0, rfl, py.gw (b1.trans g), ⟨⟨az, rfl, zt _⟩, fit_zero⟩, ?_⟩
      by_cases h : want j < 0
      · rw [decide_eq_true h]
        exact ⟨_, rfl, iteT ⟨1, rfl, hC4 _ _ (Gw.refl _) (by unfold sgz; rw [if_pos h])⟩⟩
      · rw [decide_eq_false h]
        exact ⟨_, rfl, iteF (hC4 _ _ (Gw.refl _) (by unfold sgz; rw [if_neg h]))⟩
    have o2 := g2.at o1
    have isg' : ∀ j, j < n → sgs[j]? = some (.int (sgz want j)) := fun j hj => let ⟨y, e, h⟩ := isg j hj; by rw [e, h]
    refine ⟨_, rfl, x, C, dx, _, rfl, o2, U.cl, U.nS, (Nat.lt_trans l1 (by decide)), ?_⟩
    have l2 : (putF "signs" (.ref aS) (putF "columns" (V.ref ac) [])).length < 900 := by have := length_putF "signs" (V.ref aS) (putF "columns" (V.ref ac) []); have := length_putF "columns" (V.ref ac) []; simp at this; omega
    have nSx : aS ≠ x := fun z => by rw [z, o2] at hsg; cases hsg
    have b2 : Gw (rm H x) (rm H2 x) := by rw [← r1]; exact g2.rm
    have o3 : upd H2 x (.ins C dx (putF "signs" (.ref aS) (putF "columns" (.ref ac) []))) x = some (.ins C dx (putF "signs" (.ref aS) (putF "columns" (.ref ac) []))) := upd_same
    have s3 : upd H2 x (.ins C dx (putF "signs" (.ref aS) (putF "columns" (.ref ac) []))) aS = some (.lst sgs) := by rw [upd_ne nSx]; exact hsg
    have b3 : Gw (rm H x) (rm (upd H2 x (.ins C dx (putF "signs" (.ref aS) (putF "columns" (.ref ac) [])))) x) := by rw [rm_upd]; exact b2
    generalize upd H2 x (.ins C dx (putF "signs" (.ref aS) (putF "columns" (.ref ac) []))) = H3 at o3 s3 b3 ⊢
    -- self.rows = []
    refine ⟨(show 0 ≤ sizeLine by decide), fun aR haR => ?_⟩
    have nRx : aR ≠ x := fun z => by rw [z, o3] at haR; cases haR
    have nRS : aR ≠ aS := fun z => by rw [z, s3] at haR; cases haR
    refine ⟨_, rfl, x, C, dx, _, rfl, (by rw [upd_ne nRx.symm]; exact o3), U.cl, U.nR, (Nat.lt_trans l2 (by decide)), ?_⟩
    have o5 : upd (upd H3 aR (.lst [])) x (.ins C dx (fs3 (.ref ac) aS aR)) x = some (.ins C dx (fs3 (.ref ac) aS aR)) := upd_same
    have a5 : upd (upd H3 aR (.lst [])) x (.ins C dx (fs3 (.ref ac) aS aR)) aR = some (.lst []) := by rw [upd_ne nRx]; exact upd_same
    have s5 : upd (upd H3 aR (.lst [])) x (.ins C dx (fs3 (.ref ac) aS aR)) aS = some (.lst sgs) := by rw [upd_ne nSx, upd_ne nRS.symm]; exact s3
    have b5 : Gw (rm H x) (rm (rm (upd (upd H3 aR (.lst [])) x (.ins C dx (fs3 (.ref ac) aS aR))) aR) x) := by
      refine b3.trans (Gw.of fun b u e => ?_)
      obtain ⟨h1, e⟩ := rm_some e
      have h2 : b ≠ aR := fun z => by rw [z, haR] at e; cases e
      rw [rm_ne h1, rm_ne h2, upd_ne h1, upd_ne h2]
      exact e
    show tSeq _ _ _ _ (upd (upd H3 aR (.lst [])) x (.ins C dx (fs3 (.ref ac) aS aR)))
    generalize upd (upd H3 aR (.lst [])) x (.ins C dx (fs3 (.ref ac) aS aR)) = H5 at o5 a5 s5 b5 ⊢
    have o5r : rm H5 aR x = some (.ins C dx (fs3 (.ref ac) aS aR)) := by rw [rm_ne nRx.symm]; exact o5
    have s5r : rm H5 aR aS = some (.lst sgs) := by rw [rm_ne nRS.symm]; exact s5
    have b5r : Gw (rm H x) (rm H5 aR) := b5.trans Gw.rm_le
    refine ⟨_, rfl, aw, vw, rfl, (b5r.trans Gw.rm_le).sqT hsw, ?_⟩
    refine for_grow (walk_enumT (K := K) (a := aw) lw) (L := aR) (H0 := rm H5 aR) hn' (fun σ => ∃ u3 u4 u5, σ = [some (.ref x), some (.ref ac), some (.ref aw), u3, u4, u5, none, none]) (fun j v H => VL K (rm H x) v (m + n + 1) (LP.mat n m col want j)) (fun _ _ _ _ g r => r.gw g.rm) (fun H3 g3 => (b5r.trans g3).sqT hsw)
      ⟨none, none, none, rfl⟩ a5 (Gw.refl _) ?_ ?_
    · rintro j y σ H6 H' hj ⟨u3, u4, u5, rfl⟩ gr g6 ⟨zs0, hz0⟩ ⟨q, v, rfl, hq, rfl, hv⟩ N hN
      obtain ⟨v', ev, pv'⟩ := iw j hj
      rw [hv] at ev; cases ev
      have gq : Gw H6 (upd H6 q (.tup [.int (j : Nat), v])) := Gw.new _ hq
      have o7 : Gw (rm H5 aR) (upd H6 q (.tup [.int (j : Nat), v])) := g6.trans gq
      refine ⟨q, _, rfl, SqT.of upd_same, rfl, _, _, rfl, _, _, rfl, rfl, ?_⟩
      generalize upd H6 q (.tup [.int (j : Nat), v]) = H7 at gq o7 ⊢
      -- row = [..]
      refine ⟨_, rfl, ac, rfl, ⟨vc, (b5r.trans o7).sqL hsc⟩, fun D hD => lc_grow (walk_listY lc) hD (by omega) (fun i v H => PAt K H v (LP.sgn want j * col i j)) (fun _ _ _ _ g r => r.gw g) (fun H3 g3 => ((b5r.trans o7).trans g3).sqL hsc)
        (fun i y H8 H' hi _ g8 ⟨zs, hz⟩ hY C4 hC4 => ?_) (fun H8 zs g8 g8' hz8 lz8 iz8 => ?_)⟩
      · obtain ⟨rfl, hy⟩ := hY
        obtain ⟨y', ey, ⟨ai, vi, rfl, hsi, li, ii⟩⟩ := ic i hi
        rw [hy] at ey; cases ey
        obtain ⟨z, ez, pz⟩ := ii j hj
        have g9 := o7.trans g8
        refine ⟨rfl, _, rfl, x, C, dx, _, _, rfl, g9.at o5r, U.cl, U.nS, fs3_s, _, rfl, _, _, _, _, rfl, rfl, SqL.of (g9.at s5r), at_of rfl (isg' j hj), (show 2 ≤ sizeLine by decide), fun t ht => ?_⟩
        have gt : Gw H' (upd H' t (.tup [.int (sgz want j), .int 1])) := Gw.new _ ht
        have pt := sg_part (K := K) (H := upd H' t (.tup [.int (sgz want j), .int 1])) (q := t) want j upd_same
        refine ⟨_, rfl, _, rfl, _, _, _, _, rfl, rfl, (b5r.trans (g9.trans gt)).sqT hsi, at_of rfl ez, ?_⟩
        refine ⟨_, _, LP.sgn want j, col i j, rfl, pt, pz.gw (b5r.trans (g9.trans gt)), f1 i j hi hj, fun v5 H9 g9 r9 => hC4 v5 H9 (gt.trans g9) (r9.rm ((gt.trans g9).at hz))⟩
      -- row.extend([..])
      refine ⟨_, rfl, .inl ⟨rfl, zs, SqL.of hz8⟩, _, rfl, aw, vw, rfl, .inr ((b5r.trans (o7.trans g8)).sqT hsw), _, rfl, by omega, by omega, fun E1 hE1 =>
        lc_grow (walk_rangeN (N := n) (by omega)) hE1 hn' (fun i v H => PAt K H v (if i = j then 1 else 0)) (fun _ _ _ _ g r => r.gw g) (fun _ _ => True.intro) (fun i y H9 H' hi _ g9 ⟨ws, hw⟩ hY C4 hC4 => ?_) (fun H9 ws g9 g9' hw9 lw9 iw9 => ?_)⟩
      · obtain ⟨rfl, rfl⟩ := hY
        refine ⟨rfl, _, rfl, _, rfl, rfl, _, rfl, ?_⟩
        by_cases h : i = j
        · subst h
          rw [decide_eq_true rfl]
          refine iteT (hC4 _ _ (Gw.refl _) ?_)
          rw [if_pos rfl]
          exact ⟨⟨ao, rfl, ot _⟩, fit_one⟩
        · rw [decide_eq_false (show ¬ V.int ((i : Nat) : Int) = V.int ((j : Nat) : Int) from fun z => by have := V.int.inj z; omega)]
          refine iteF (hC4 _ _ (Gw.refl _) ?_)
          rw [if_neg h]
          exact ⟨⟨az, rfl, zt _⟩, fit_zero⟩
      refine ⟨D, E1, zs, ws, rfl, rfl, g9.at hz8, hw9, ?_, ?_⟩
      · rw [lz8, lw9]; exact Nat.le_trans (Nat.add_le_add hm hn) (by decide)
      have nDR : D ≠ aR := fun z => by rw [z, gq.at hz0] at hD; cases hD
      have gA : Gw H7 (upd H9 D (.lst (zs ++ ws))) := (g8.trans g9).upd _ hD
      have hA : upd H9 D (.lst (zs ++ ws)) D = some (.lst (zs ++ ws)) := upd_same
      have gA9 : Gw (rm H9 D) (upd H9 D (.lst (zs ++ ws))) := Gw.rm_up
      have gA8 : Gw (rm H8 D) (upd H9 D (.lst (zs ++ ws))) := g9.rm.trans gA9
      have it : ∀ i, i < m + n → ∃ y, (zs ++ ws)[i]? = some y ∧ PAt K (upd H9 D (.lst (zs ++ ws))) y (LP.mat n m col want j i) := fun i hi => by
        by_cases h : i < m
        · obtain ⟨y, e, r⟩ := iz8 i h
          refine ⟨y, by rw [List.getElem?_append_left (by omega)]; exact e, ?_⟩
          rw [LP.mat_col h]
          exact r.gw gA8
        · obtain ⟨y, e, r⟩ := iw9 (i - m) (by omega)
          refine ⟨y, by rw [List.getElem?_append_right (by omega), lz8]; exact e, ?_⟩
          have e2 : LP.mat n m col want j i = if i - m = j then 1 else 0 := by
            have := LP.mat_own (n := n) (m := m) (col := col) (want := want) (k := j) (i := i - m) (by omega)
            rw [show m + (i - m) = i by omega] at this
            rw [this]
            by_cases q : j = i - m
            · rw [if_pos q, if_pos q.symm]
            · rw [if_neg q, if_neg (Ne.symm q)]
          rw [e2]
          exact ((r.gw Gw.rm_le).rm (g9.at hz8)).gw gA9
      generalize upd H9 D (.lst (zs ++ ws)) = HA at gA hA it ⊢
      -- self.rows.append([..])
      have gB := o7.trans gA
      have hBR : HA aR = some (.lst zs0) := gA.at (gq.at hz0)
      refine ⟨_, rfl, x, C, dx, _, _, rfl, gB.at o5r, U.cl, U.nR, fs3_r, .inl ⟨rfl, zs0, SqL.of hBR⟩, ?_⟩
      refine ⟨_, rfl, D, _, rfl, .inr (SqL.of hA), ?_⟩
      refine ⟨_, rfl, x, C, dx, _, _, rfl, gB.at o5r, U.cl, U.nS, fs3_s, _, rfl, _, _, _, _, rfl, rfl, SqL.of (gB.at s5r), at_of rfl (isg' j hj), (show 2 ≤ sizeLine by decide), fun t ht => ?_⟩
      have gt : Gw HA (upd HA t (.tup [.int (sgz want j), .int 1])) := Gw.new _ ht
      have pt := sg_part (K := K) (H := upd HA t (.tup [.int (sgz want j), .int 1])) (q := t) want j upd_same
      refine ⟨_, rfl, _, _, LP.sgn want j, want j, rfl, pt, pv'.gw (b5r.trans (gB.trans gt)), f2 j hj, fun v5 HC gC rC => ?_⟩
      have gAC := gt.trans gC
      refine ⟨?_, fun E2 hE2 => ?_⟩
      · simp only [List.length_append, List.length_cons, List.length_nil, lz8, lw9]
        exact Nat.le_trans (Nat.add_le_add (Nat.add_le_add hm hn) (Nat.le_refl 1)) (by decide)
      have gE : Gw HC (upd HC E2 (.lst ((zs ++ ws) ++ [v5]))) := Gw.new _ hE2
      have nER : E2 ≠ aR := fun z => by rw [z, gAC.at hBR] at hE2; cases hE2
      have nEx : E2 ≠ x := fun z => by rw [z, (gB.trans gAC).at o5r] at hE2; cases hE2
      have vl : VL K (upd HC E2 (.lst ((zs ++ ws) ++ [v5]))) (.ref E2) (m + n + 1) (LP.mat n m col want j) := by
        refine ⟨E2, _, rfl, SqL.of upd_same, ?_, fun i hi => ?_⟩
        · simp only [List.length_append, List.length_cons, List.length_nil, lz8, lw9]
        · by_cases h : i < m + n
          · obtain ⟨y, e, r⟩ := it i h
            exact ⟨y, by rw [List.getElem?_append_left (by rw [List.length_append, lz8, lw9]; exact h)]; exact e, r.gw (gAC.trans gE)⟩
          · have : i = m + n := by omega
            subst this
            refine ⟨v5, by rw [List.getElem?_append_right (by rw [List.length_append, lz8, lw9]; exact Nat.le_refl _), List.length_append, lz8, lw9, Nat.sub_self]; rfl, ?_⟩
            rw [LP.mat_rhs]
            exact rC.gw gE
      have vl2 : VL K (rm (rm (upd HC E2 (.lst ((zs ++ ws) ++ [v5]))) aR) x) (.ref E2) (m + n + 1) (LP.mat n m col want j) :=
        (VL.rm vl nER ((gAC.trans gE).at hBR)).rmI (by rw [rm_ne nRx.symm]; exact (gB.trans (gAC.trans gE)).at o5r)
      obtain ⟨xs, h1, h2, h3⟩ := hN _ _ (.ref E2) ⟨_, _, _, rfl⟩ (gq.trans (gA.trans (gAC.trans gE))) vl2
      exact ⟨aR, xs, .ref E2, rfl, rfl, h1, h2, h3⟩
    · rintro σ H6 rws ⟨u3, u4, u5, rfl⟩ g6 gr hR lR iR
      have g6x := b5r.trans g6
      refine ⟨_, rfl, aw, vw, rfl, .inr (g6x.sqT hsw), _, rfl, by omega, by omega, fun aB haB => lc_grow (walk_rangeN (N := n) (by omega)) haB hn' (fun i v _ => v = .int ((m + i : Nat) : Int)) (fun _ _ _ _ _ h => h) (fun _ _ => True.intro) (fun i y H9 H' hi _ g9 _ hY C4 hC4 => ?_) (fun H9 bs g9 g9' hB lB iB => ?_)⟩
      · obtain ⟨rfl, rfl⟩ := hY
        refine ⟨rfl, _, rfl, ac, vc, rfl, .inl ((g6x.trans g9).sqL hsc), _, rfl, _, _, rfl, rfl, hC4 _ _ (Gw.refl _) ?_⟩
        rw [lc]; congr 1
      have nBx : aB ≠ x := fun z => by rw [z, g6.at o5r] at haB; cases haB
      have nBR : aR ≠ aB := fun z => by rw [← z, hR] at haB; cases haB
      have nBS : aS ≠ aB := fun z => by rw [← z, g6.at s5r] at haB; cases haB
      refine ⟨_, rfl, x, C, dx, _, rfl, (g6.trans g9).at o5r, U.cl, U.nB, ?_, ?_⟩
      · exact fs3_len
      have gf : Gw (rm (rm H6 aR) x) (R2 (upd H9 x (.ins C dx (flds (.ref ac) aS aR aB))) aR aB) := gw_fin g9 haB
      have ga : Gw (rm H x) (R2 (upd H9 x (.ins C dx (flds (.ref ac) aS aR aB))) aR aB) := b5.trans (gr.rm.trans gf)
      have ov : R2 (upd H9 x (.ins C dx (flds (.ref ac) aS aR aB))) aR aB x = some (.ins C dx (flds (.ref ac) aS aR aB)) := by
        show rm (rm _ aR) aB x = _
        rw [rm_ne nBx.symm, rm_ne nRx.symm]; exact upd_same
      refine k _ ⟨aR, aB, ga, ?_⟩
      refine ⟨⟨.ref ac, aS, dx, sgs, ov, ⟨ac, vc, rfl, .inl (ga.sqL hsc), lc, fun j hj => let ⟨y, e, v⟩ := ic j hj; ⟨y, e, v.gw ga⟩⟩, gf.sqL (SqL.of (by rw [rm_ne nSx]; exact gr.at s5r)), lsg, isg'⟩,
        ⟨rws, by rw [upd_ne nRx]; exact g9.at hR, lR, fun i hi => let ⟨y, e, r⟩ := iR i hi; ⟨y, e, r.gw gf⟩⟩, ⟨bs, by rw [upd_ne nBx]; exact hB, lB, fun i hi => let ⟨y, e, h⟩ := iB i hi; by rw [e, h]; rfl⟩, nBR⟩
end
end K44


set_option Elab.async false
set_option linter.all false
set_option maxRecDepth 100000
set_option maxHeartbeats 4000000
set_option exponentiation.threshold 3000
/-! climb. -/
namespace K44
open PySem L2
open LP (Fit lim S Tab)
/-- all that is reckoned on the way are parts -/
def FitAll (n m : Nat) (A : Nat → Nat → Rat) (c : Nat → Rat) : Prop := ∀ s, LP.Inv n m A s → LP.det n (LP.bas A s) ≠ 0 → FitR n m c s ∧ (∀ i e, i < n → e < m → 0 < s.T i e → Fit (s.T i (m + n) / s.T i e)) ∧ ∀ r e, r < n → e < m → s.T r e ≠ 0 → FitP n m s r e
structure Good (n m : Nat) (A : Nat → Nat → Rat) (s : Tab) : Prop where
  inv : LP.Inv n m A s
  feas : LP.Feas n m s
  det : LP.det n (LP.bas A s) ≠ 0
theorem Good.piv {n m : Nat} {A : Nat → Nat → Rat} {s : Tab} (g : Good n m A s) {e r : Nat} (he : e < m) (L : LP.Leave n m s e r) : Good n m A (LP.piv s r e) where
  inv := g.inv.piv L.lt (by omega) (by have := L.pos; grind)
  feas := L.feas g.feas
  det := by
    rw [g.inv.det_piv L.lt (by omega)]
    have := L.pos
    have := g.det
    grind
def spClimb (K : PySem.W.Frag) (C : Addr) : Sp := fun vs H Q _ => ∃ (p aR aB : Addr) (wv : V) (n m : Nat) (col : Nat → Nat → Rat) (want c : Nat → Rat) (s : Tab) (J : Tab → Prop), vs = [.ref p, wv, .int (m : Nat)] ∧ TabAt K C H p aR aB n m col want s ∧ VL K (R2 H aR aB) wv (m + n) c ∧ n ≤ 1000 ∧ m ≤ 1000 ∧
  Good n m (LP.mat n m col want) s ∧ FitAll n m (LP.mat n m col want) c ∧ J s ∧ (∀ s e r, Good n m (LP.mat n m col want) s → J s → LP.Enter n m c s e → LP.Leave n m s e r → J (LP.piv s r e)) ∧
  Ans2 H aR aB (fun v H' => ∃ s', TabAt K C H' p aR aB n m col want s' ∧ Good n m (LP.mat n m col want) s' ∧ J s' ∧
    ((v = .non ∧ ∀ e, e < m → LP.red n c s' e ≤ 0) ∨ ∃ e : Nat, v = .int (e : Nat) ∧ LP.Enter n m c s' e ∧ ∀ i, i < n → s'.T i e ≤ 0)) Q
section
variable {P : Program} {w : World} {K : PySem.W.Frag} {mg : Str → Option Value} {base : Heap}
theorem scClimb : FnScope ["self", "worths", "many", "place", "number"] ["self", "worths", "many"] (defScope (sT 5)) := ⟨rfl, rfl, rfl, by decide +kernel, rfl, by decide +kernel, by decide +kernel⟩
theorem ok_climb {C : Addr} {f : Addr} {fd : FuncData} (F : Fun K "climb" "Table.climb" (sT 5) f fd) (T : Txt K mg) (U : CTxt K mg C) (M1 : MCal P w K mg base C "reduced" 5 ["self", "worths"] (spReduced K C))
    (M2 : MCal P w K mg base C "entering" 2 ["self", "added", "many"] (spEntering K)) (M3 : MCal P w K mg base C "leaving" 3 ["self", "place"] (spLeaving K C)) (M4 : MCal P w K mg base C "turn" 3 ["self", "number", "place"] (spTurn K C)) :
    FnOk P w K mg base CX0 6 f fd ["self", "worths", "many"] (spClimb K C) := by
  refine F.ok scClimb (fun vs H Q E h => ?_) (fun cdv A outer s H vs Q E hr h => ?_)
  · obtain ⟨p, aR, aB, wv, n, m, col, want, c, s, J, rfl, _⟩ := h
    rfl
  · obtain ⟨p, aR, aB, wv, n, m, col, want, c, s, J, rfl, tab, hw, hn, hm, good, fit, hJ, pJ, k⟩ := h
    refine ⟨_, pss_one (ps_while PassesOwn.never (pt_val pe_bl)
      (pss_cons (ps_set (i := 3) scClimb.nd rfl (Or.inl rfl) (pe_meth (pv 0) U.cl M2.hm M2.ok (hr.mono (by decide)) M2.b .nil pass0 (pa_cons (pe_meth (pv 0) U.cl M1.hm M1.ok hr M1.b .nil pass0 (pa_cons (pv 1) pa_nil)) (pa_cons (pv 2) pa_nil))))
      (pss_cons (ps_if (pt_cmp (pc_isN (pv 3))) (pss_one (ps_ret pe_non)) pss_nil)
      (pss_cons (ps_set (i := 4) scClimb.nd rfl (Or.inl rfl) (pe_meth (pv 0) U.cl M3.hm M3.ok (hr.mono (by decide)) M3.b .nil pass0 (pa_cons (pv 3) pa_nil)))
      (pss_cons (ps_if (pt_cmp (pc_isN (pv 4))) (pss_one (ps_ret (pv 3))) pss_nil)
      (pss_one (ps_expr (pe_meth (pv 0) U.cl M4.hm M4.ok (hr.mono (by decide)) M4.b .nil pass0 (pa_cons (pv 4) (pa_cons (pv 3) pa_nil)))))))))), ?_⟩
    have no : ∀ (cv : V) (aS : Addr) (m : Str), ¬ m = "basis" → ¬ m = "rows" → ¬ m = "signs" → ¬ m = "columns" → (flds cv aS aR aB).lookup m = none := fun _ _ _ h1 h2 h3 h4 => flds_no h1 h2 h3 h4
    obtain ⟨rk, hrk⟩ := LP.rk_ex (c := c) good.inv good.feas
    refine ⟨fun k σ H' => Gw (R2 H aR aB) (R2 H' aR aB) ∧ ∃ s' u3 u4, σ = [some (.ref p), some wv, some (.int (m : Nat)), u3, u4] ∧ TabAt K C H' p aR aB n m col want s' ∧ Good n m (LP.mat n m col want) s' ∧ J s' ∧ LP.Rk n m c k s',
      ⟨rk, Gw.refl _, s, none, none, rfl, tab, good, hJ, hrk⟩, ?_⟩
    rintro rk σ H1 ⟨gg, s', u3, u4, rfl, tb, gd, hJ', hrk⟩
    obtain ⟨cv, aS, dx, sgs, hp', _⟩ := id tb.ob
    have hp : H1 p = some (.ins C dx (flds cv aS aR aB)) := Gw.r2_le.at hp'
    refine ⟨true, rfl, iteT ?_⟩
    obtain ⟨fR, fL, fP⟩ := fit s' gd.inv gd.det
    refine ⟨fun σ' H' => ∃ m', m' < rk ∧ Gw (R2 H aR aB) (R2 H' aR aB) ∧ ∃ s' u3 u4, σ' = [some (.ref p), some wv, some (.int (m : Nat)), u3, u4] ∧ TabAt K C H' p aR aB n m col want s' ∧ Good n m (LP.mat n m col want) s' ∧ J s' ∧ LP.Rk n m c m' s', fun σ' H' h => let ⟨m', h1, h2⟩ := h; ⟨m', h1, h2⟩, ?_⟩
    refine ⟨_, rfl, p, dx, _, rfl, hp, no _ _ _ (by decide +kernel) (by decide +kernel) (by decide +kernel) (by decide +kernel), ?_⟩
    refine ⟨_, rfl, p, dx, _, rfl, hp, no _ _ _ (by decide +kernel) (by decide +kernel) (by decide +kernel) (by decide +kernel), _, rfl, ?_⟩
    refine ⟨p, aR, aB, wv, n, m, col, want, c, s', rfl, tb, (hw.gw gg).gw Gw.r2_le, hn, hm, gd.inv.bl, fR, fun v2 H2 g2 r2 => ?_⟩
    refine ⟨_, rfl, ?_⟩
    have gg2 := gg.trans (g2.r2 aR aB)
    refine ⟨_, v2, m + n + 1, m, redv n m c s', rfl, r2, by omega, hm, fun e he hpos hfirst => ?_, fun hall => ?_⟩
    · have En : LP.Enter n m c s' e := ⟨he, by
        unfold redv at hpos; rwa [if_pos (by omega)] at hpos, fun j hj => by
        have := hfirst j hj
        unfold redv at this; rwa [if_pos (by omega)] at this⟩
      refine ⟨_, rfl, _, rfl, iteF ?_⟩
      refine ⟨_, rfl, p, dx, _, rfl, g2.at hp, no _ _ _ (by decide +kernel) (by decide +kernel) (by decide +kernel) (by decide +kernel), _, rfl, ?_⟩
      refine ⟨p, aR, aB, e, n, m, col, want, s', rfl, tb.gw g2, hn, hm, by omega, fun i hi hp => fL i e hi he hp, fun v3 H3 g3 r3 => ?_⟩
      have gg3 := gg2.trans (g3.r2 aR aB)
      rcases r3 with ⟨r, rfl, L⟩ | ⟨rfl, hno⟩
      · refine ⟨_, rfl, _, rfl, iteF ?_⟩
        refine ⟨_, rfl, p, dx, _, rfl, (g2.trans g3).at hp, no _ _ _ (by decide +kernel) (by decide +kernel) (by decide +kernel) (by decide +kernel), _, rfl, _, rfl, ?_⟩
        have hne : s'.T r e ≠ 0 := by have := L.pos; grind
        refine ⟨p, aR, aB, r, e, n, m, col, want, s', rfl, tb.gw (g2.trans g3), hn, hm, L.lt, by omega, hne, fP r e L.lt he hne, fun v4 H4 g4 ⟨_, t4⟩ => ?_⟩
        cases rk with
        | zero => exact (hrk e r En L).elim
        | succ rk => exact ⟨rk, Nat.lt_succ_self _, gg3.trans g4, _, _, _, rfl, t4, gd.piv he L, pJ s' e r gd hJ' En L, hrk e r En L⟩
      · refine ⟨_, rfl, _, rfl, iteT ?_⟩
        exact ⟨_, rfl, k _ _ gg3 ⟨s', tb.gw (g2.trans g3), gd, hJ', .inr ⟨e, rfl, En, hno⟩⟩⟩
    · refine ⟨_, rfl, _, rfl, iteT ?_⟩
      refine k _ _ gg2 ⟨s', tb.gw g2, gd, hJ', .inl ⟨rfl, fun e he => ?_⟩⟩
      have := hall e he
      unfold redv at this; rwa [if_pos (by omega)] at this
end
end K44


set_option Elab.async false
set_option linter.all false
set_option maxRecDepth 100000
set_option maxHeartbeats 4000000
set_option exponentiation.threshold 3000
/-! most. -/
namespace K44
open PySem L2
open LP (Fit lim S Tab Sm)
/-- all that the system's tables reckon is a part; what its ends give keeps X, Y -/
structure Siz (n m : Nat) (col : Nat → Nat → Rat) (want c : Nat → Rat) (X Y : (Nat → Rat) → Prop) : Prop where
  n1 : n ≤ 30
  fit0 : (∀ j k, j < m → k < n → Fit (LP.sgn want k * col j k)) ∧ ∀ k, k < n → Fit (LP.sgn want k * want k)
  fa1 : FitAll n m (LP.mat n m col want) (LP.w1 m)
  fa2 : FitAll n m (LP.mat n m col want) (LP.w2 m c)
  fs1 : ∀ s, Good n m (LP.mat n m col want) s → FitS n m want (LP.w1 m) s
  fs2 : ∀ s, Good n m (LP.mat n m col want) s → FitS n m want (LP.w2 m c) s
  fneg : ∀ s, Good n m (LP.mat n m col want) s → ∀ i e, i < n → e ≤ m + n → Fit (0 - s.T i e)
  sx : ∀ s, Good n m (LP.mat n m col want) s → X (LP.wt n m s)
  sy : ∀ s, Good n m (LP.mat n m col want) s → Y (LP.side n m want (LP.w2 m c) s)
theorem rat_a {a : Rat} (h : a ≤ 0) : 0 ≤ 0 - a := by grind
theorem rat_b {a c : Rat} (h : a ≤ 0) : c ≤ c - a := by grind
theorem atZ {xs : List V} {v : V} (h : xs[0]? = some v) : atI xs 0 = some v := atI_nat (j := 0) h
/-- a row is left without a gain -/
theorem drive {n m : Nat} {col : Nat → Nat → Rat} {want : Nat → Rat} {s : Tab} {r e : Nat} (g : Good n m (LP.mat n m col want) s) (a : LP.Arts0 n m s) (hr : r < n) (he : e < m) (hb : m ≤ s.b r) (hne : s.T r e ≠ 0) :
    Good n m (LP.mat n m col want) (LP.piv s r e) ∧ LP.Arts0 n m (LP.piv s r e) := by
  have h0 := a r hr hb
  refine ⟨⟨g.inv.piv hr (by omega) hne, fun i hi => by rw [LP.drive_rhs h0]; exact g.feas i hi, by rw [g.inv.det_piv hr (by omega)]; have := g.det; grind⟩, fun i hi hm => ?_⟩
  rw [LP.drive_rhs h0]
  by_cases q : i = r
  · subst q; exact h0
  · rw [LP.piv_b_ne s e q] at hm
    exact a i hi hm
/-- what most gives -/
inductive MostR (K : PySem.W.Frag) (H : Hp) (v : V) (n m : Nat) (col : Nat → Nat → Rat) (want c : Nat → Rat) (X Y : (Nat → Rat) → Prop) : Prop where
  | none {a : Addr} {yv : V} {y : Nat → Rat} (e : v = .ref a) (s : SqT K H a [.str "none", yv]) (hy : VT K H yv n y) (h1 : ∀ j, j < m → 0 ≤ S n fun k => col j k * y k) (h2 : (S n fun k => want k * y k) < 0)
  | endless {a : Addr} {xv dv : V} {x d : Nat → Rat} (e : v = .ref a) (s : SqT K H a [.str "endless", xv, dv]) (hx : VT K H xv m x) (hd : VT K H dv m d) (x0 : ∀ j, j < m → 0 ≤ x j) (xw : ∀ k, k < n → (S m fun j => x j * col j k) = want k)
      (d0 : ∀ j, j < m → 0 ≤ d j) (dw : ∀ k, k < n → (S m fun j => d j * col j k) = 0) (dc : 0 < S m fun j => c j * d j)
  | most {a : Addr} {qv xv yv : V} {q : Rat} {x y : Nat → Rat} (e : v = .ref a) (s : SqT K H a [.str "most", qv, xv, yv]) (hq : PAt K H qv q) (hx : VT K H xv m x) (hy : VT K H yv n y) (sx : X x) (sy : Y y) (x0 : ∀ j, j < m → 0 ≤ x j) (xw : ∀ k, k < n → (S m fun j => x j * col j k) = want k)
      (yc : ∀ j, j < m → c j ≤ S n fun k => col j k * y k) (qx : (S m fun j => c j * x j) = q) (qy : (S n fun k => want k * y k) = q)
def spMost (K : PySem.W.Frag) : Sp := fun vs H Q _ => ∃ (cv wv uv : V) (n m : Nat) (col : Nat → Nat → Rat) (want c : Nat → Rat) (X Y : (Nat → Rat) → Prop), vs = [cv, wv, uv] ∧ VTT K H cv m n col ∧ VT K H wv n want ∧ VT K H uv m c ∧ m ≤ 1000 ∧ Siz n m col want c X Y ∧
  Ans H (fun v H' => MostR K H' v n m col want c X Y) Q
abbrev sMost : Stmt := top 45
section
variable {P : Program} {w : World} {K : PySem.W.Frag} {mg : Str → Option Value} {base : Heap}
theorem scMost : FnScope ["columns", "wanted", "worths", "many", "high", "table", "first", "number", "place", "spots", "second"] ["columns", "wanted", "worths"] (defScope sMost) := ⟨rfl, rfl, rfl, by decide +kernel, rfl, by decide +kernel, by decide +kernel⟩
theorem ok_most {C fI : Addr} {fdI : FuncData} {f : Addr} {fd : FuncData} (F : Fun K "most" "most" sMost f fd) (T : Txt K mg) (U : CTxt K mg C) (MK : Mk K C fI) (G0 : FnOk P w K mg base CX0 3 fI fdI ["self", "columns", "wanted"] (spInit K C)) (b0 : Binds K fdI ["self", "columns", "wanted"] [])
    (C1 : CLess P w K mg base) (M1 : MCal P w K mg base C "reduced" 5 ["self", "worths"] (spReduced K C)) (M4 : MCal P w K mg base C "turn" 3 ["self", "number", "place"] (spTurn K C))
    (M5 : MCal P w K mg base C "climb" 6 ["self", "worths", "many"] (spClimb K C)) (M6 : MCal P w K mg base C "weights" 1 ["self", "many"] (spWeights K C)) (M7 : MCal P w K mg base C "sides" 6 ["self", "worths"] (spSides K C)) (M8 : MCal P w K mg base C "way" 3 ["self", "place", "many"] (spWay K C)) :
    FnOk P w K mg base CX0 7 f fd ["columns", "wanted", "worths"] (spMost K) := by
  refine F.ok scMost (fun vs H Q E h => ?_) (fun cdv A outer s H vs Q E hr h => ?_)
  · obtain ⟨cv, wv, uv, n, m, col, want, c, XX, YY, rfl, _⟩ := h
    rfl
  · obtain ⟨cv, wv, uv, n, m, col, want, c, XX, YY, rfl, hcv, hwv, huv, hm, sz, k⟩ := h
    obtain ⟨az, hz, zt⟩ := T.zero
    refine ⟨_, pss_cons (ps_par (i := 3) (j := 4) rfl scMost.nd rfl rfl (by decide) rfl rfl (pa_cons (pe_callB (lenK K) (by rfl) T.len PySem.boot_len (pa_cons (pv 0) pa_nil)) (pa_cons (pe_callB (lenK K) (by rfl) T.len PySem.boot_len (pa_cons (pv 1) pa_nil)) pa_nil)) rfl)
      (pss_cons (ps_set (i := 5) scMost.nd rfl (Or.inr rfl) (pe_make MK G0 (hr.mono (by decide)) rfl U.mgC b0 .nil pass0 (pa_cons (pv 0) (pa_cons (pv 1) pa_nil))))
      (pss_cons (ps_set (i := 6) scMost.nd rfl (Or.inl rfl) (pe_lst (starK K (pe_op op_rep (pe_lst (pa_cons (pe_glob (v := .ref az) rfl hz rfl) pa_nil)) (pv 3)) (starK K (pe_op op_rep (pe_lst (pa_cons (pe_tup (pa_cons (pe_un un_neg pe_int) (pa_cons pe_int pa_nil))) pa_nil)) (pv 4)) pa_nil))))
      (pss_cons (ps_expr (pe_meth (pv 5) U.cl M5.hm M5.ok hr M5.b .nil pass0 (pa_cons (pv 6) (pa_cons (pv 3) pa_nil))))
      (pss_cons (ps_if (pt_val (pe_call C1.ok (hr.mono (by decide)) rfl C1.hm C1.kp C1.b .nil pass0 (pa_cons (pe_ix (ixL K) (pe_meth (pv 5) U.cl M1.hm M1.ok (hr.mono (by decide)) M1.b .nil pass0 (pa_cons (pv 6) pa_nil)) (pe_un un_neg pe_int) (fun _ _ => rfl)) (pa_cons (pe_glob (v := .ref az) rfl hz rfl) pa_nil))))
          (pss_one (ps_ret (pe_tup (pa_cons pe_str (pa_cons (pe_meth (pv 5) U.cl M7.hm M7.ok hr M7.b .nil pass0 (pa_cons (pv 6) pa_nil)) pa_nil))))) pss_nil)
      (pss_cons (ps_for PassesOwn.never rfl (pi_range1 rfl T.range (pa_cons (pv 4) pa_nil)) (pg_name (i := 7) scMost.nd rfl (Or.inr rfl))
        (pss_one (ps_if (pt_cmpR op_ge (pe_ix (ixL K) (fldK K (pv 5)) (pv 7) (fun _ _ => rfl)) (pv 3) (nomark _))
          (pss_cons (ps_setLc (i := 9) (own := [("place", 8)]) (g := gName 8) rfl scMost.nd rfl rfl (sw_true rfl rfl rfl rfl) (pi_range1 rfl T.range (pa_cons (pv 3) pa_nil)) (blkOk_by (N := ["columns", "wanted", "worths", "many", "high", "table", "first", "number", "place", "spots", "second"]) (by kernel_rfl))
              (fun _ _ _ _ _ => pg_name (i := 8) scMost.nd rfl (Or.inl rfl)) (fun _ _ _ _ _ => pts_one (pt_cmpR (neK K hr.units) (pe_ix (ixL K) (pe_ix (ixL K) (fldK K (pv 5)) (pv 7) (fun _ _ => rfl)) (pv 8) (fun _ _ => rfl)) (pe_glob (v := .ref az) rfl hz rfl) (nomark _))) (fun _ _ _ _ _ => pv 8))
          (pss_one (ps_if (pt_cmpR op_gt (pe_callB (lenK K) (by rfl) T.len PySem.boot_len (pa_cons (pv 9) pa_nil)) pe_int (nomark _))
            (pss_one (ps_expr (pe_meth (pv 5) U.cl M4.hm M4.ok (hr.mono (by decide)) M4.b .nil pass0 (pa_cons (pv 7) (pa_cons (pe_ix (ixL K) (pv 9) pe_int (fun _ _ => rfl)) pa_nil))))) pss_nil))) pss_nil)))
      (pss_cons (ps_set (i := 10) scMost.nd rfl (Or.inl rfl) (pe_lst (starK K (pv 2) (starK K (pe_op op_rep (pe_lst (pa_cons (pe_glob (v := .ref az) rfl hz rfl) pa_nil)) (pv 4)) pa_nil))))
      (pss_cons (ps_set (i := 8) scMost.nd rfl (Or.inl rfl) (pe_meth (pv 5) U.cl M5.hm M5.ok hr M5.b .nil pass0 (pa_cons (pv 10) (pa_cons (pv 3) pa_nil))))
      (pss_cons (ps_if (pt_cmp (pc_notN (pv 8))) (pss_one (ps_ret (pe_tup (pa_cons pe_str (pa_cons (pe_meth (pv 5) U.cl M6.hm M6.ok (hr.mono (by decide)) M6.b .nil pass0 (pa_cons (pv 3) pa_nil)) (pa_cons (pe_meth (pv 5) U.cl M8.hm M8.ok (hr.mono (by decide)) M8.b .nil pass0 (pa_cons (pv 8) (pa_cons (pv 3) pa_nil))) pa_nil)))))) pss_nil)
      (pss_one (ps_ret (pe_tup (pa_cons pe_str (pa_cons (pe_ix (ixL K) (pe_meth (pv 5) U.cl M1.hm M1.ok (hr.mono (by decide)) M1.b .nil pass0 (pa_cons (pv 10) pa_nil)) (pe_un un_neg pe_int) (fun _ _ => rfl))
        (pa_cons (pe_meth (pv 5) U.cl M6.hm M6.ok (hr.mono (by decide)) M6.b .nil pass0 (pa_cons (pv 3) pa_nil)) (pa_cons (pe_meth (pv 5) U.cl M7.hm M7.ok hr M7.b .nil pass0 (pa_cons (pv 10) pa_nil)) pa_nil))))))))))))))), ?_⟩
    obtain ⟨ac, vc, rfl, hsc, lc, ic⟩ := id hcv
    obtain ⟨aw, vw, rfl, hsw, lw, iw⟩ := id hwv
    obtain ⟨au, vu, rfl, hsu, lu, iu⟩ := id huv
    have hn : n ≤ 1000 := Nat.le_trans sz.n1 (by decide)
    refine ⟨_, rfl, ac, vc, rfl, .inr hsc, _, rfl, aw, vw, rfl, .inr hsw, _, _, rfl, ?_⟩
    rw [lc, lw]
    -- table = Table(columns, wanted)
    refine ⟨_, rfl, _, rfl, fun x dx hx hdx hne => ?_⟩
    have gx : Gw H (rm (upd (upd H dx (.own x)) x (.ins C dx [])) x) := by
      rw [rm_upd]
      have h0 : upd H dx (.own x) x = none := by rw [upd_ne hne.symm]; exact hx
      rw [rm_none h0]
      exact Gw.new _ hdx
    refine ⟨x, dx, _, _, n, m, col, want, rfl, upd_same, hcv.gw gx, hwv.gw gx, hn, hm, sz.fit0.1, sz.fit0.2, fun H1 ⟨aR, aB, g1, tab⟩ => ⟨rfl, ?_⟩⟩
    have gH1 : Gw H (R2 H1 aR aB) := gx.trans g1
    clear g1 gx
    have no : ∀ (cv : V) (aS : Addr) (m : Str), ¬ m = "basis" → ¬ m = "rows" → ¬ m = "signs" → ¬ m = "columns" → (flds cv aS aR aB).lookup m = none := fun _ _ _ h1 h2 h3 h4 => flds_no h1 h2 h3 h4
    -- first
    refine ⟨(show 1 ≤ sizeLine by decide), fun L0 h0 => ⟨_, rfl, L0, m, _, rfl, rfl, upd_same, by omega, by omega, ?_, fun L1 h1 => ?_⟩⟩
    · show 1 * ((m : Int)).toNat ≤ sizeLine
      exact Nat.le_trans (show 1 * ((m : Int)).toNat ≤ 1000 by omega) (by decide)
    rw [flat_one]
    have q1 : Gw H1 (upd (upd H1 L0 (.lst [.ref az])) L1 (.lst (List.replicate ((m : Int)).toNat (.ref az)))) := (Gw.new _ h0).trans (Gw.new _ h1)
    have x1 : upd (upd H1 L0 (.lst [.ref az])) L1 (.lst (List.replicate ((m : Int)).toNat (.ref az))) L1 = some (.lst (List.replicate ((m : Int)).toNat (.ref az))) := upd_same
    generalize upd (upd H1 L0 (.lst [.ref az])) L1 (.lst (List.replicate ((m : Int)).toNat (.ref az))) = Ha at q1 x1 ⊢
    refine ⟨L1, _, rfl, .inr (SqL.of x1), 1, rfl, (show 2 ≤ sizeLine by decide), fun t ht => ⟨(show 1 ≤ sizeLine by decide), fun L2 h2 => ⟨_, rfl, L2, n, _, rfl, rfl, upd_same, by omega, by omega, ?_, fun L3 h3 => ?_⟩⟩⟩
    · show 1 * ((n : Int)).toNat ≤ sizeLine
      exact Nat.le_trans (show 1 * ((n : Int)).toNat ≤ 1000 by omega) (by decide)
    rw [flat_one]
    have q2 : Gw (upd Ha t (.tup [.int (-1), .int 1])) (upd (upd (upd Ha t (.tup [.int (-1), .int 1])) L2 (.lst [.ref t])) L3 (.lst (List.replicate ((n : Int)).toNat (.ref t)))) := (Gw.new _ h2).trans (Gw.new _ h3)
    have q3 : Gw Ha (upd Ha t (.tup [.int (-1), .int 1])) := Gw.new _ ht
    have x2 : upd (upd (upd Ha t (.tup [.int (-1), .int 1])) L2 (.lst [.ref t])) L3 (.lst (List.replicate ((n : Int)).toNat (.ref t))) L3 = some (.lst (List.replicate ((n : Int)).toNat (.ref t))) := upd_same
    have x3 := q2.at (upd_same (a := t) (H := Ha) (o := .tup [.int (-1), .int 1]))
    have q4 := q1.trans (q3.trans q2)
    generalize upd (upd (upd Ha t (.tup [.int (-1), .int 1])) L2 (.lst [.ref t])) L3 (.lst (List.replicate ((n : Int)).toNat (.ref t))) = Hb at q4 x2 x3 ⊢
    refine ⟨L3, _, rfl, .inr (SqL.of x2), ?_, fun L4 h4 => ?_⟩
    · rw [List.append_nil, List.length_append, List.length_replicate, List.length_replicate]
      exact Nat.le_trans (show ((m : Int)).toNat + ((n : Int)).toNat ≤ 1000 + 1000 by omega) (by decide)
    have vl : VL K (upd Hb L4 (.lst (List.replicate ((m : Int)).toNat (.ref az) ++ (List.replicate ((n : Int)).toNat (.ref t) ++ [])))) (.ref L4) (m + n) (LP.w1 m) := by
      refine ⟨L4, _, rfl, SqL.of upd_same, ?_, fun i hi => ?_⟩
      · rw [List.append_nil, List.length_append, List.length_replicate, List.length_replicate]; omega
      · rw [List.append_nil]
        unfold LP.w1
        by_cases h : i < m
        · exact ⟨.ref az, by rw [List.getElem?_append_left (by rw [List.length_replicate]; omega), List.getElem?_replicate, if_pos (by omega)], by rw [if_pos h]; exact ⟨⟨az, rfl, zt _⟩, fit_zero⟩⟩
        · refine ⟨.ref t, by rw [List.getElem?_append_right (by rw [List.length_replicate]; omega), List.getElem?_replicate, List.length_replicate, if_pos (by omega)], ?_⟩
          rw [if_neg h]
          exact ⟨⟨t, rfl, SqT.of ((Gw.new _ h4).at x3)⟩, fit_neg_one⟩
    have q5 : Gw H1 (upd Hb L4 (.lst (List.replicate ((m : Int)).toNat (.ref az) ++ (List.replicate ((n : Int)).toNat (.ref t) ++ [])))) := q4.trans (Gw.new _ h4)
    obtain ⟨rws0, hR0, _⟩ := id tab.rows
    obtain ⟨bs0, hB0, _⟩ := id tab.bas
    have n4R : L4 ≠ aR := fun z => by rw [z, q4.at hR0] at h4; cases h4
    have n4B : L4 ≠ aB := fun z => by rw [z, q4.at hB0] at h4; cases h4
    have vlR := VL.r2 vl n4R n4B (q5.at hR0) (q5.at hB0) tab.ne
    have tab2 := tab.gw q5
    have gH2 := gH1.trans (q5.r2 aR aB)
    generalize upd Hb L4 (.lst (List.replicate ((m : Int)).toNat (.ref az) ++ (List.replicate ((n : Int)).toNat (.ref t) ++ []))) = H2 at vlR tab2 gH2 ⊢
    -- table.climb(first, many)
    obtain ⟨cv2, aS2, dx2, _, hp2, _⟩ := id tab2.ob
    have good0 : Good n m (LP.mat n m col want) (LP.tab0 n m col want) := ⟨LP.inv0, LP.feas0, by rw [LP.det0]; decide⟩
    have fit1 := sz.fa1
    refine ⟨_, rfl, x, dx2, _, rfl, Gw.r2_le.at hp2, no _ _ _ (by decide +kernel) (by decide +kernel) (by decide +kernel) (by decide +kernel), _, rfl, _, rfl, ?_⟩
    refine ⟨x, aR, aB, _, n, m, col, want, LP.w1 m, _, fun _ => True, rfl, tab2, vlR, hn, hm, good0, fit1, trivial, fun _ _ _ _ _ _ _ => trivial, fun v3 H3 g3 ⟨s1, tab3, good1, _, hend⟩ => ?_⟩
    have hred : ∀ e, e < m → LP.red n (LP.w1 m) s1 e ≤ 0 := by
      rcases hend with ⟨_, h⟩ | ⟨e, _, En, hno⟩
      · exact h
      · obtain ⟨i, hi, hp⟩ := LP.climb1_leave En
        exact absurd (hno i hi) (Rat.not_le.mpr hp)
    have gH3 := gH2.trans g3
    have vl3 := vlR.gw g3
    clear hend g3 vlR tab2 gH2 hp2 q5 vl tab
    -- if is_less(table.reduced(first)[-1], ZERO)
    obtain ⟨cv3, aS3, dx3, _, hp3, _⟩ := id tab3.ob
    refine ⟨_, rfl, x, dx3, _, rfl, Gw.r2_le.at hp3, no _ _ _ (by decide +kernel) (by decide +kernel) (by decide +kernel) (by decide +kernel), _, rfl, ?_⟩
    refine ⟨x, aR, aB, _, n, m, col, want, LP.w1 m, s1, rfl, tab3, vl3.gw Gw.r2_le, hn, hm, good1.inv.bl, (fit1 s1 good1.inv good1.det).1, fun v4 H4 g4 r4 => ?_⟩
    obtain ⟨a4, v4s, rfl, hs4, l4, i4⟩ := r4
    obtain ⟨y4, e4, p4⟩ := i4 (m + n) (by omega)
    have p4 : PAt K H4 y4 (LP.used n (LP.w1 m) s1 (m + n)) := by
      unfold redv at p4; rwa [if_neg (Nat.lt_irrefl _)] at p4
    refine ⟨1, rfl, _, _, _, _, rfl, rfl, hs4, at_last l4 e4, _, _, _, 0, rfl, p4, ⟨⟨az, rfl, zt _⟩, fit_zero⟩, ?_⟩
    have gH4 := gH3.trans (g4.r2 aR aB)
    have tab4 := tab3.gw g4
    have vl4 := vl3.gw (g4.r2 aR aB)
    clear gH3 tab3 vl3 hp3 hs4 i4 p4 e4 l4 g4
    obtain ⟨cv4, aS4, dx4, _, hp4, _⟩ := id tab4.ob
    by_cases hneg : LP.used n (LP.w1 m) s1 (m + n) < 0
    · rw [decide_eq_true hneg]
      refine ⟨_, rfl, iteT ?_⟩
      refine ⟨_, rfl, x, dx4, _, rfl, Gw.r2_le.at hp4, no _ _ _ (by decide +kernel) (by decide +kernel) (by decide +kernel) (by decide +kernel), _, rfl, ?_⟩
      refine ⟨x, aR, aB, _, n, m, col, want, LP.w1 m, s1, rfl, tab4, vl4.gw Gw.r2_le, hn, hm, good1.inv.bl, (fit1 s1 good1.inv good1.det).1, sz.fs1 s1 good1, fun v5 H5 g5 r5 => ?_⟩
      refine ⟨(show 2 ≤ sizeLine by decide), fun r hr => ?_⟩
      have gn : Gw H5 (upd H5 r (.tup [.str "none", v5])) := Gw.new _ hr
      refine k _ _ ((gH4.trans Gw.r2_le).trans (g5.trans gn)) (.none rfl (SqT.of upd_same) (r5.gw gn) (fun j hj => ?_) ?_)
      · rw [LP.side_col good1.inv hj]
        rw [show LP.w1 m j = 0 from if_pos hj]
        exact rat_a (hred j hj)
      · rw [LP.side_want good1.inv]; exact hneg
    rw [decide_eq_false hneg]
    refine ⟨_, rfl, iteF ?_⟩
    have arts1 := LP.arts0_of good1.feas hneg
    -- for number in range(high)
    refine ⟨_, rfl, (n : Int), rfl, by omega, by omega, ?_⟩
    refine for_it (walk_rangeN (N := n) (by omega)) (fun i σ H' => Gw (R2 H4 aR aB) (R2 H' aR aB) ∧ (∃ s, TabAt K C H' x aR aB n m col want s ∧ Good n m (LP.mat n m col want) s ∧ LP.Arts0 n m s ∧ ∀ k, k < i → LP.Empty n m s k) ∧
        ∃ u7 u8 u9, σ = [some (.ref ac), some (.ref aw), some (.ref au), some (.int (m : Nat)), some (.int (n : Nat)), some (.ref x), some (.ref L4), u7, u8, u9, none])
      ⟨Gw.refl _, ⟨s1, tab4, good1, arts1, fun k hk => absurd hk (Nat.not_lt_zero _)⟩, none, none, none, rfl⟩ (fun _ _ _ _ _ => True.intro) ?_ ?_
    · rintro i y σ H5 H' hi ⟨gg, ⟨s, tb, gd, ar, em⟩, u7, u8, u9, rfl⟩ ⟨rfl, rfl⟩
      obtain ⟨cv5, aS5, dx5, _, hp5, _⟩ := id tb.ob
      obtain ⟨rws, hR, lR, iR⟩ := id tb.rows
      obtain ⟨bs, hB, lB, iB⟩ := id tb.bas
      have hp := Gw.r2_le.at hp5
      refine ⟨_, rfl, x, C, dx5, _, _, rfl, hp, U.cl, U.nB, flds_b, _, rfl, _, _, _, _, rfl, rfl, SqL.of hB, at_of rfl (iB i hi), _, rfl, _, _, rfl, rfl, _, rfl, ?_⟩
      by_cases hb : m ≤ s.b i
      · rw [decide_eq_true (show ((m : Nat) : Int) ≤ ((s.b i : Nat) : Int) by omega)]
        refine iteT ?_
        obtain ⟨xr, exr, ⟨ai, vi, rfl, hsi, li, ii⟩⟩ := iR i hi
        have hsi := Gw.r2_le.sqL hsi
        refine ⟨_, rfl, (m : Int), rfl, by omega, by omega, fun D hD => lc_it (walk_rangeN (N := m) (by omega)) (fun j H6 => ∃ xs, H6 D = some (.lst xs) ∧ xs.length ≤ j ∧ Gw H' (rm H6 D) ∧ ((xs = [] ∧ ∀ k, k < j → s.T i k = 0) ∨ ∃ (e : Nat) (rest : List V), xs = .int (e : Nat) :: rest ∧ e < j ∧ s.T i e ≠ 0))
          ⟨[], upd_same, Nat.le_refl _, by rw [rm_upd, rm_none hD]; exact Gw.refl _, .inl ⟨rfl, fun k hk => absurd hk (Nat.not_lt_zero _)⟩⟩ (fun _ _ _ _ => True.intro) ?_ ?_⟩
        · rintro j y H6 H7 hj ⟨xs, hx6, lx6, g6, alt⟩ ⟨rfl, rfl⟩
          have g7 : Gw H' H7 := g6.trans Gw.rm_le
          obtain ⟨z, ez, pz⟩ := ii j (by omega)
          refine ⟨rfl, _, rfl, x, C, dx5, _, _, rfl, g7.at hp, U.cl, U.nR, flds_r, _, rfl, _, _, _, _, rfl, rfl, SqL.of (g7.at hR), at_of rfl exr, _, rfl, _, _, _, _, rfl, rfl, g7.sqL hsi, at_of rfl ez, _, _, ((pz.gw Gw.r2_le).gw g7).dp, (show PAt K H7 (.ref az) 0 from ⟨⟨az, rfl, zt _⟩, fit_zero⟩).dp, part_shaped _, part_shaped _, _, rfl, ?_⟩
          rw [part_eqv]
          by_cases h : s.T i j = 0
          · rw [decide_eq_true h]
            refine iteF ⟨xs, hx6, by omega, g6, ?_⟩
            rcases alt with ⟨e1, e2⟩ | ⟨e, rest, e1, e2, e3⟩
            · refine .inl ⟨e1, fun k hk => ?_⟩
              by_cases q : k < j
              · exact e2 k q
              · have : k = j := by omega
                subst this; exact h
            · exact .inr ⟨e, rest, e1, by omega, e3⟩
          · rw [decide_eq_false h]
            refine iteT ⟨_, rfl, xs, hx6, Nat.lt_of_le_of_lt (Nat.le_trans lx6 (show j ≤ 1000 by omega)) (by decide), _, upd_same, by rw [List.length_append]; exact Nat.add_le_add lx6 (Nat.le_refl 1), by rw [rm_upd]; exact g6, ?_⟩
            rcases alt with ⟨e1, e2⟩ | ⟨e, rest, e1, e2, e3⟩
            · exact .inr ⟨j, [], by rw [e1]; rfl, by omega, h⟩
            · exact .inr ⟨e, rest ++ [.int (j : Nat)], by rw [e1]; rfl, by omega, e3⟩
        · rintro H6 ⟨xs, hx6, lx6, g6, alt⟩
          have g7 : Gw H' H6 := g6.trans Gw.rm_le
          refine ⟨_, rfl, D, xs, rfl, .inl (SqL.of hx6), _, _, rfl, rfl, _, rfl, ?_⟩
          rcases alt with ⟨rfl, e2⟩ | ⟨e, rest, rfl, e2, e3⟩
          · refine iteF ⟨gg.trans (g7.r2 aR aB), ⟨s, tb.gw g7, gd, ar, fun k hk => ?_⟩, _, _, _, rfl⟩
            by_cases q : k < i
            · exact em k q
            · have : k = i := by omega
              subst this
              exact fun _ j hj => e2 j hj
          · rw [decide_eq_true (show (0 : Int) < (((V.int (e : Nat) :: rest).length : Nat) : Int) by simp only [List.length_cons]; omega)]
            refine iteT ?_
            refine ⟨_, rfl, x, dx5, _, rfl, g7.at hp, no _ _ _ (by decide +kernel) (by decide +kernel) (by decide +kernel) (by decide +kernel), _, rfl, _, rfl, _, _, _, _, rfl, rfl, SqL.of hx6, atZ rfl, ?_⟩
            refine ⟨x, aR, aB, i, e, n, m, col, want, s, rfl, tb.gw g7, hn, hm, hi, by omega, e3, (fit1 s gd.inv gd.det).2.2 i e hi e2 e3, fun v H8 g8 ⟨_, tb8⟩ => ?_⟩
            obtain ⟨gd8, ar8⟩ := drive gd ar hi e2 hb e3
            refine ⟨gg.trans ((g7.r2 aR aB).trans g8), ⟨_, tb8, gd8, ar8, fun k hk => ?_⟩, _, _, _, rfl⟩
            by_cases q : k = i
            · subst q; exact LP.drive_empty_r e2
            · exact LP.drive_empty e2 q (em k (by omega))
      · rw [decide_eq_false (show ¬ ((m : Nat) : Int) ≤ ((s.b i : Nat) : Int) by omega)]
        refine iteF ⟨gg, ⟨s, tb, gd, ar, fun k hk => ?_⟩, _, _, _, rfl⟩
        by_cases q : k < i
        · exact em k q
        · have : k = i := by omega
          subst this
          exact fun z => absurd z hb
    · rintro σ H5 ⟨gg, ⟨s, tb, gd, ar, em⟩, u7, u8, u9, rfl⟩
      have gH5 := gH4.trans gg
      clear gg vl4 gH4 tab4 hp4
      obtain ⟨cv5, aS5, dx5, _, hp5, _⟩ := id tb.ob
      -- second
      refine ⟨_, rfl, au, vu, rfl, .inl ((gH5.trans Gw.r2_le).sqT hsu), (show 1 ≤ sizeLine by decide), fun L5 h5 => ⟨_, rfl, L5, n, _, rfl, rfl, upd_same, by omega, by omega, ?_, fun L6 h6 => ?_⟩⟩
      · show 1 * ((n : Int)).toNat ≤ sizeLine
        exact Nat.le_trans (show 1 * ((n : Int)).toNat ≤ 1000 by omega) (by decide)
      rw [flat_one]
      have q1 : Gw H5 (upd (upd H5 L5 (.lst [.ref az])) L6 (.lst (List.replicate ((n : Int)).toNat (.ref az)))) := (Gw.new _ h5).trans (Gw.new _ h6)
      have x1 : upd (upd H5 L5 (.lst [.ref az])) L6 (.lst (List.replicate ((n : Int)).toNat (.ref az))) L6 = some (.lst (List.replicate ((n : Int)).toNat (.ref az))) := upd_same
      generalize upd (upd H5 L5 (.lst [.ref az])) L6 (.lst (List.replicate ((n : Int)).toNat (.ref az))) = H6 at q1 x1 ⊢
      refine ⟨L6, _, rfl, .inr (SqL.of x1), ?_, fun L7 h7 => ?_⟩
      · rw [List.append_nil, List.length_append, List.length_replicate, lu]
        exact Nat.le_trans (show m + ((n : Int)).toNat ≤ 1000 + 1000 by omega) (by decide)
      have gn : Gw H6 (upd H6 L7 (.lst (vu ++ (List.replicate ((n : Int)).toNat (.ref az) ++ [])))) := Gw.new _ h7
      have vl : VL K (upd H6 L7 (.lst (vu ++ (List.replicate ((n : Int)).toNat (.ref az) ++ [])))) (.ref L7) (m + n) (LP.w2 m c) := by
        refine ⟨L7, _, rfl, SqL.of upd_same, ?_, fun i hi => ?_⟩
        · rw [List.append_nil, List.length_append, List.length_replicate, lu]; omega
        · unfold LP.w2
          by_cases h : i < m
          · obtain ⟨y, e, py⟩ := iu i h
            exact ⟨y, by rw [List.getElem?_append_left (by rw [lu]; omega)]; exact e, by rw [if_pos h]; exact ((py.gw gH5).gw Gw.r2_le).gw (q1.trans gn)⟩
          · refine ⟨.ref az, by rw [List.append_nil, List.getElem?_append_right (by rw [lu]; omega), List.getElem?_replicate, lu, if_pos (by omega)], ?_⟩
            rw [if_neg h]
            exact ⟨⟨az, rfl, zt _⟩, fit_zero⟩
      have q5 := q1.trans gn
      obtain ⟨rws0, hR0, _⟩ := id tb.rows
      obtain ⟨bs0, hB0, _⟩ := id tb.bas
      have n4R : L7 ≠ aR := fun z => by rw [z, q1.at hR0] at h7; cases h7
      have n4B : L7 ≠ aB := fun z => by rw [z, q1.at hB0] at h7; cases h7
      have vlR := VL.r2 vl n4R n4B (q5.at hR0) (q5.at hB0) tb.ne
      have tb2 := tb.gw q5
      have gH7 := gH5.trans (q5.r2 aR aB)
      have hp7 := q5.at (Gw.r2_le.at hp5)
      generalize upd H6 L7 (.lst (vu ++ (List.replicate ((n : Int)).toNat (.ref az) ++ []))) = H7 at vlR tb2 gH7 hp7 ⊢
      have fit2 := sz.fa2
      -- place = table.climb(second, many)
      refine ⟨_, rfl, x, dx5, _, rfl, hp7, no _ _ _ (by decide +kernel) (by decide +kernel) (by decide +kernel) (by decide +kernel), _, rfl, _, rfl, ?_⟩
      refine ⟨x, aR, aB, _, n, m, col, want, LP.w2 m c, s, fun s => LP.Arts0 n m s ∧ ∀ i, i < n → LP.Empty n m s i, rfl, tb2, vlR, hn, hm, gd, fit2, ⟨ar, em⟩,
        fun s e r g ⟨a1, a2⟩ En L => ⟨LP.leave_arts En.lt a2 a1, LP.leave_empty En.lt a2 L.lt (by have := L.pos; grind)⟩, fun v8 H8 g8 ⟨s8, tab8, good8, ⟨ar8, em8⟩, hend⟩ => ?_⟩
      have gH8 := gH7.trans g8
      have vl8 := vlR.gw g8
      clear g8 vlR tb2 gH7 hp7 q5 vl tb gd ar em fit1 hred
      obtain ⟨cv8, aS8, dx8, _, hp8', _⟩ := id tab8.ob
      have hp8 := Gw.r2_le.at hp8'
      have inj : ∀ i k, i < n → k < n → s8.b i = s8.b k → i = k := fun i k hi hk e => good8.inv.inj hi hk e
      have ew : ∀ (f : Nat → Rat), (S m fun j => LP.w2 m c j * f j) = S m fun j => c j * f j := fun f => LP.S_congr fun j hj => by
        show LP.w2 m c j * f j = c j * f j
        rw [show LP.w2 m c j = c j from if_pos hj]
      rcases hend with ⟨rfl, hred⟩ | ⟨e, rfl, En, hno⟩
      · refine ⟨_, rfl, _, rfl, iteF ?_⟩
        refine ⟨_, rfl, x, dx8, _, rfl, hp8, no _ _ _ (by decide +kernel) (by decide +kernel) (by decide +kernel) (by decide +kernel), _, rfl, ?_⟩
        refine ⟨x, aR, aB, _, n, m, col, want, LP.w2 m c, s8, rfl, tab8, vl8.gw Gw.r2_le, hn, hm, good8.inv.bl, (fit2 s8 good8.inv good8.det).1, fun v9 H9 g9 r9 => ?_⟩
        obtain ⟨a4, v4s, rfl, hs4, l4, i4⟩ := r9
        obtain ⟨y4, e4, p4⟩ := i4 (m + n) (by omega)
        have p4 : PAt K H9 y4 (LP.used n (LP.w2 m c) s8 (m + n)) := by
          unfold redv at p4; rwa [if_neg (Nat.lt_irrefl _)] at p4
        refine ⟨1, rfl, _, _, _, _, rfl, rfl, hs4, at_last l4 e4, ?_⟩
        refine ⟨_, rfl, x, dx8, _, rfl, g9.at hp8, no _ _ _ (by decide +kernel) (by decide +kernel) (by decide +kernel) (by decide +kernel), _, rfl, ?_⟩
        refine ⟨x, aR, aB, n, m, col, want, s8, rfl, tab8.gw g9, hn, hm, inj, fun v10 H10 g10 r10 => ?_⟩
        refine ⟨_, rfl, x, dx8, _, rfl, (g9.trans g10).at hp8, no _ _ _ (by decide +kernel) (by decide +kernel) (by decide +kernel) (by decide +kernel), _, rfl, ?_⟩
        refine ⟨x, aR, aB, _, n, m, col, want, LP.w2 m c, s8, rfl, tab8.gw (g9.trans g10), (vl8.gw Gw.r2_le).gw (g9.trans g10), hn, hm, good8.inv.bl, (fit2 s8 good8.inv good8.det).1, sz.fs2 s8 good8, fun v11 H11 g11 r11 => ?_⟩
        refine ⟨(show 4 ≤ sizeLine by decide), fun r hr => ?_⟩
        have gr : Gw H11 (upd H11 r (.tup [.str "most", y4, v10, v11])) := Gw.new _ hr
        refine k _ _ ((gH8.trans Gw.r2_le).trans (g9.trans (g10.trans (g11.trans gr)))) (.most (q := LP.used n (LP.w2 m c) s8 (m + n)) rfl (SqT.of upd_same) (p4.gw (g10.trans (g11.trans gr))) (r10.gw (g11.trans gr)) (r11.gw gr) (sz.sx s8 good8) (sz.sy s8 good8)
          (fun j _ => LP.wt_nonneg good8.feas j) (fun k hk => LP.wt_want good8.inv ar8 hk) (fun j hj => ?_) ?_ ?_)
        · rw [LP.side_col good8.inv hj, show LP.w2 m c j = c j from if_pos hj]
          exact rat_b (hred j hj)
        · rw [← ew]; exact LP.wt_worth good8.inv ar8
        · exact LP.side_want good8.inv
      · refine ⟨_, rfl, _, rfl, iteT ?_⟩
        have hfree := En.free good8.inv
        refine ⟨_, rfl, x, dx8, _, rfl, hp8, no _ _ _ (by decide +kernel) (by decide +kernel) (by decide +kernel) (by decide +kernel), _, rfl, ?_⟩
        refine ⟨x, aR, aB, n, m, col, want, s8, rfl, tab8, hn, hm, inj, fun v10 H10 g10 r10 => ?_⟩
        refine ⟨_, rfl, x, dx8, _, rfl, g10.at hp8, no _ _ _ (by decide +kernel) (by decide +kernel) (by decide +kernel) (by decide +kernel), _, rfl, _, rfl, ?_⟩
        refine ⟨x, aR, aB, e, n, m, col, want, s8, rfl, tab8.gw g10, hn, hm, inj, En.lt, fun i hi z => hfree ⟨i, hi, z⟩, fun i hi => sz.fneg s8 good8 i e hi (by have := En.lt; omega), fun v11 H11 g11 r11 => ?_⟩
        refine ⟨(show 3 ≤ sizeLine by decide), fun r hr => ?_⟩
        have gr : Gw H11 (upd H11 r (.tup [.str "endless", v10, v11])) := Gw.new _ hr
        refine k _ _ ((gH8.trans Gw.r2_le).trans (g10.trans (g11.trans gr))) (.endless rfl (SqT.of upd_same) (r10.gw (g11.trans gr)) (r11.gw gr)
          (fun j _ => LP.wt_nonneg good8.feas j) (fun k hk => LP.wt_want good8.inv ar8 hk) (fun j _ => LP.way_nonneg hno) (fun k hk => LP.way_null good8.inv En.lt em8 hk) ?_)
        rw [← ew, LP.way_worth good8.inv En.lt em8]
        exact En.pos
end
end K44


set_option Elab.async false
set_option linter.all false
set_option maxRecDepth 100000
set_option maxHeartbeats 4000000
set_option exponentiation.threshold 3000
namespace K44
open PySem L2
open LP (Fit lim S Tab Sm)
def spMostL (K : PySem.W.Frag) : Sp := fun vs H Q _ => ∃ (cv wv uv : V) (n m : Nat) (col : Nat → Nat → Rat) (want c : Nat → Rat) (X Y : (Nat → Rat) → Prop), vs = [cv, wv, uv] ∧ VLT K H cv m n col ∧ VT K H wv n want ∧ VL K H uv m c ∧ m ≤ 1000 ∧ Siz n m col want c X Y ∧
  Ans H (fun v H' => MostR K H' v n m col want c X Y) Q
section
variable {P : Program} {w : World} {K : PySem.W.Frag} {mg : Str → Option Value} {base : Heap}
theorem ok_mostL {C fI : Addr} {fdI : FuncData} {f : Addr} {fd : FuncData} (F : Fun K "most" "most" sMost f fd) (T : Txt K mg) (U : CTxt K mg C) (MK : Mk K C fI) (G0 : FnOk P w K mg base CX0 3 fI fdI ["self", "columns", "wanted"] (spInitL K C)) (b0 : Binds K fdI ["self", "columns", "wanted"] [])
    (C1 : CLess P w K mg base) (M1 : MCal P w K mg base C "reduced" 5 ["self", "worths"] (spReduced K C)) (M4 : MCal P w K mg base C "turn" 3 ["self", "number", "place"] (spTurn K C))
    (M5 : MCal P w K mg base C "climb" 6 ["self", "worths", "many"] (spClimb K C)) (M6 : MCal P w K mg base C "weights" 1 ["self", "many"] (spWeights K C)) (M7 : MCal P w K mg base C "sides" 6 ["self", "worths"] (spSides K C)) (M8 : MCal P w K mg base C "way" 3 ["self", "place", "many"] (spWay K C)) :
    FnOk P w K mg base CX0 7 f fd ["columns", "wanted", "worths"] (spMostL K) := by
  refine F.ok scMost (fun vs H Q E h => ?_) (fun cdv A outer s H vs Q E hr h => ?_)
  · obtain ⟨cv, wv, uv, n, m, col, want, c, XX, YY, rfl, _⟩ := h
    rfl
  · obtain ⟨cv, wv, uv, n, m, col, want, c, XX, YY, rfl, hcv, hwv, huv, hm, sz, k⟩ := h
    obtain ⟨az, hz, zt⟩ := T.zero
    refine ⟨_, pss_cons (ps_par (i := 3) (j := 4) rfl scMost.nd rfl rfl (by decide) rfl rfl (pa_cons (pe_callB (lenK K) (by rfl) T.len PySem.boot_len (pa_cons (pv 0) pa_nil)) (pa_cons (pe_callB (lenK K) (by rfl) T.len PySem.boot_len (pa_cons (pv 1) pa_nil)) pa_nil)) rfl)
      (pss_cons (ps_set (i := 5) scMost.nd rfl (Or.inr rfl) (pe_make MK G0 (hr.mono (by decide)) rfl U.mgC b0 .nil pass0 (pa_cons (pv 0) (pa_cons (pv 1) pa_nil))))
      (pss_cons (ps_set (i := 6) scMost.nd rfl (Or.inl rfl) (pe_lst (starK K (pe_op op_rep (pe_lst (pa_cons (pe_glob (v := .ref az) rfl hz rfl) pa_nil)) (pv 3)) (starK K (pe_op op_rep (pe_lst (pa_cons (pe_tup (pa_cons (pe_un un_neg pe_int) (pa_cons pe_int pa_nil))) pa_nil)) (pv 4)) pa_nil))))
      (pss_cons (ps_expr (pe_meth (pv 5) U.cl M5.hm M5.ok hr M5.b .nil pass0 (pa_cons (pv 6) (pa_cons (pv 3) pa_nil))))
      (pss_cons (ps_if (pt_val (pe_call C1.ok (hr.mono (by decide)) rfl C1.hm C1.kp C1.b .nil pass0 (pa_cons (pe_ix (ixL K) (pe_meth (pv 5) U.cl M1.hm M1.ok (hr.mono (by decide)) M1.b .nil pass0 (pa_cons (pv 6) pa_nil)) (pe_un un_neg pe_int) (fun _ _ => rfl)) (pa_cons (pe_glob (v := .ref az) rfl hz rfl) pa_nil))))
          (pss_one (ps_ret (pe_tup (pa_cons pe_str (pa_cons (pe_meth (pv 5) U.cl M7.hm M7.ok hr M7.b .nil pass0 (pa_cons (pv 6) pa_nil)) pa_nil))))) pss_nil)
      (pss_cons (ps_for PassesOwn.never rfl (pi_range1 rfl T.range (pa_cons (pv 4) pa_nil)) (pg_name (i := 7) scMost.nd rfl (Or.inr rfl))
        (pss_one (ps_if (pt_cmpR op_ge (pe_ix (ixL K) (fldK K (pv 5)) (pv 7) (fun _ _ => rfl)) (pv 3) (nomark _))
          (pss_cons (ps_setLc (i := 9) (own := [("place", 8)]) (g := gName 8) rfl scMost.nd rfl rfl (sw_true rfl rfl rfl rfl) (pi_range1 rfl T.range (pa_cons (pv 3) pa_nil)) (blkOk_by (N := ["columns", "wanted", "worths", "many", "high", "table", "first", "number", "place", "spots", "second"]) (by kernel_rfl))
              (fun _ _ _ _ _ => pg_name (i := 8) scMost.nd rfl (Or.inl rfl)) (fun _ _ _ _ _ => pts_one (pt_cmpR (neK K hr.units) (pe_ix (ixL K) (pe_ix (ixL K) (fldK K (pv 5)) (pv 7) (fun _ _ => rfl)) (pv 8) (fun _ _ => rfl)) (pe_glob (v := .ref az) rfl hz rfl) (nomark _))) (fun _ _ _ _ _ => pv 8))
          (pss_one (ps_if (pt_cmpR op_gt (pe_callB (lenK K) (by rfl) T.len PySem.boot_len (pa_cons (pv 9) pa_nil)) pe_int (nomark _))
            (pss_one (ps_expr (pe_meth (pv 5) U.cl M4.hm M4.ok (hr.mono (by decide)) M4.b .nil pass0 (pa_cons (pv 7) (pa_cons (pe_ix (ixL K) (pv 9) pe_int (fun _ _ => rfl)) pa_nil))))) pss_nil))) pss_nil)))
      (pss_cons (ps_set (i := 10) scMost.nd rfl (Or.inl rfl) (pe_lst (starK K (pv 2) (starK K (pe_op op_rep (pe_lst (pa_cons (pe_glob (v := .ref az) rfl hz rfl) pa_nil)) (pv 4)) pa_nil))))
      (pss_cons (ps_set (i := 8) scMost.nd rfl (Or.inl rfl) (pe_meth (pv 5) U.cl M5.hm M5.ok hr M5.b .nil pass0 (pa_cons (pv 10) (pa_cons (pv 3) pa_nil))))
      (pss_cons (ps_if (pt_cmp (pc_notN (pv 8))) (pss_one (ps_ret (pe_tup (pa_cons pe_str (pa_cons (pe_meth (pv 5) U.cl M6.hm M6.ok (hr.mono (by decide)) M6.b .nil pass0 (pa_cons (pv 3) pa_nil)) (pa_cons (pe_meth (pv 5) U.cl M8.hm M8.ok (hr.mono (by decide)) M8.b .nil pass0 (pa_cons (pv 8) (pa_cons (pv 3) pa_nil))) pa_nil)))))) pss_nil)
      (pss_one (ps_ret (pe_tup (pa_cons pe_str (pa_cons (pe_ix (ixL K) (pe_meth (pv 5) U.cl M1.hm M1.ok (hr.mono (by decide)) M1.b .nil pass0 (pa_cons (pv 10) pa_nil)) (pe_un un_neg pe_int) (fun _ _ => rfl))
        (pa_cons (pe_meth (pv 5) U.cl M6.hm M6.ok (hr.mono (by decide)) M6.b .nil pass0 (pa_cons (pv 3) pa_nil)) (pa_cons (pe_meth (pv 5) U.cl M7.hm M7.ok hr M7.b .nil pass0 (pa_cons (pv 10) pa_nil)) pa_nil))))))))))))))), ?_⟩
    obtain ⟨ac, vc, rfl, hsc, lc, ic⟩ := id hcv
    obtain ⟨aw, vw, rfl, hsw, lw, iw⟩ := id hwv
    obtain ⟨au, vu, rfl, hsu, lu, iu⟩ := id huv
    have hn : n ≤ 1000 := Nat.le_trans sz.n1 (by decide)
    refine ⟨_, rfl, ac, vc, rfl, .inl hsc, _, rfl, aw, vw, rfl, .inr hsw, _, _, rfl, ?_⟩
    rw [lc, lw]
    -- table = Table(columns, wanted)
    refine ⟨_, rfl, _, rfl, fun x dx hx hdx hne => ?_⟩
    have gx : Gw H (rm (upd (upd H dx (.own x)) x (.ins C dx [])) x) := by
      rw [rm_upd]
      have h0 : upd H dx (.own x) x = none := by rw [upd_ne hne.symm]; exact hx
      rw [rm_none h0]
      exact Gw.new _ hdx
    refine ⟨x, dx, _, _, n, m, col, want, rfl, upd_same, hcv.gw gx, hwv.gw gx, hn, hm, sz.fit0.1, sz.fit0.2, fun H1 ⟨aR, aB, g1, tab⟩ => ⟨rfl, ?_⟩⟩
    have gH1 : Gw H (R2 H1 aR aB) := gx.trans g1
    clear g1 gx
    have no : ∀ (cv : V) (aS : Addr) (m : Str), ¬ m = "basis" → ¬ m = "rows" → ¬ m = "signs" → ¬ m = "columns" → (flds cv aS aR aB).lookup m = none := fun _ _ _ h1 h2 h3 h4 => flds_no h1 h2 h3 h4
    -- first
    refine ⟨(show 1 ≤ sizeLine by decide), fun L0 h0 => ⟨_, rfl, L0, m, _, rfl, rfl, upd_same, by omega, by omega, ?_, fun L1 h1 => ?_⟩⟩
    · show 1 * ((m : Int)).toNat ≤ sizeLine
      exact Nat.le_trans (show 1 * ((m : Int)).toNat ≤ 1000 by omega) (by decide)
    rw [flat_one]
    have q1 : Gw H1 (upd (upd H1 L0 (.lst [.ref az])) L1 (.lst (List.replicate ((m : Int)).toNat (.ref az)))) := (Gw.new _ h0).trans (Gw.new _ h1)
    have x1 : upd (upd H1 L0 (.lst [.ref az])) L1 (.lst (List.replicate ((m : Int)).toNat (.ref az))) L1 = some (.lst (List.replicate ((m : Int)).toNat (.ref az))) := upd_same
    generalize upd (upd H1 L0 (.lst [.ref az])) L1 (.lst (List.replicate ((m : Int)).toNat (.ref az))) = Ha at q1 x1 ⊢
    refine ⟨L1, _, rfl, .inr (SqL.of x1), 1, rfl, (show 2 ≤ sizeLine by decide), fun t ht => ⟨(show 1 ≤ sizeLine by decide), fun L2 h2 => ⟨_, rfl, L2, n, _, rfl, rfl, upd_same, by omega, by omega, ?_, fun L3 h3 => ?_⟩⟩⟩
    · show 1 * ((n : Int)).toNat ≤ sizeLine
      exact Nat.le_trans (show 1 * ((n : Int)).toNat ≤ 1000 by omega) (by decide)
    rw [flat_one]
    have q2 : Gw (upd Ha t (.tup [.int (-1), .int 1])) (upd (upd (upd Ha t (.tup [.int (-1), .int 1])) L2 (.lst [.ref t])) L3 (.lst (List.replicate ((n : Int)).toNat (.ref t)))) := (Gw.new _ h2).trans (Gw.new _ h3)
    have q3 : Gw Ha (upd Ha t (.tup [.int (-1), .int 1])) := Gw.new _ ht
    have x2 : upd (upd (upd Ha t (.tup [.int (-1), .int 1])) L2 (.lst [.ref t])) L3 (.lst (List.replicate ((n : Int)).toNat (.ref t))) L3 = some (.lst (List.replicate ((n : Int)).toNat (.ref t))) := upd_same
    have x3 := q2.at (upd_same (a := t) (H := Ha) (o := .tup [.int (-1), .int 1]))
    have q4 := q1.trans (q3.trans q2)
    generalize upd (upd (upd Ha t (.tup [.int (-1), .int 1])) L2 (.lst [.ref t])) L3 (.lst (List.replicate ((n : Int)).toNat (.ref t))) = Hb at q4 x2 x3 ⊢
    refine ⟨L3, _, rfl, .inr (SqL.of x2), ?_, fun L4 h4 => ?_⟩
    · rw [List.append_nil, List.length_append, List.length_replicate, List.length_replicate]
      exact Nat.le_trans (show ((m : Int)).toNat + ((n : Int)).toNat ≤ 1000 + 1000 by omega) (by decide)
    have vl : VL K (upd Hb L4 (.lst (List.replicate ((m : Int)).toNat (.ref az) ++ (List.replicate ((n : Int)).toNat (.ref t) ++ [])))) (.ref L4) (m + n) (LP.w1 m) := by
      refine ⟨L4, _, rfl, SqL.of upd_same, ?_, fun i hi => ?_⟩
      · rw [List.append_nil, List.length_append, List.length_replicate, List.length_replicate]; omega
      · rw [List.append_nil]
        unfold LP.w1
        by_cases h : i < m
        · exact ⟨.ref az, by rw [List.getElem?_append_left (by rw [List.length_replicate]; omega), List.getElem?_replicate, if_pos (by omega)], by rw [if_pos h]; exact ⟨⟨az, rfl, zt _⟩, fit_zero⟩⟩
        · refine ⟨.ref t, by rw [List.getElem?_append_right (by rw [List.length_replicate]; omega), List.getElem?_replicate, List.length_replicate, if_pos (by omega)], ?_⟩
          rw [if_neg h]
          exact ⟨⟨t, rfl, SqT.of ((Gw.new _ h4).at x3)⟩, fit_neg_one⟩
    have q5 : Gw H1 (upd Hb L4 (.lst (List.replicate ((m : Int)).toNat (.ref az) ++ (List.replicate ((n : Int)).toNat (.ref t) ++ [])))) := q4.trans (Gw.new _ h4)
    obtain ⟨rws0, hR0, _⟩ := id tab.rows
    obtain ⟨bs0, hB0, _⟩ := id tab.bas
    have n4R : L4 ≠ aR := fun z => by rw [z, q4.at hR0] at h4; cases h4
    have n4B : L4 ≠ aB := fun z => by rw [z, q4.at hB0] at h4; cases h4
    have vlR := VL.r2 vl n4R n4B (q5.at hR0) (q5.at hB0) tab.ne
    have tab2 := tab.gw q5
    have gH2 := gH1.trans (q5.r2 aR aB)
    generalize upd Hb L4 (.lst (List.replicate ((m : Int)).toNat (.ref az) ++ (List.replicate ((n : Int)).toNat (.ref t) ++ []))) = H2 at vlR tab2 gH2 ⊢
    -- table.climb(first, many)
    obtain ⟨cv2, aS2, dx2, _, hp2, _⟩ := id tab2.ob
    have good0 : Good n m (LP.mat n m col want) (LP.tab0 n m col want) := ⟨LP.inv0, LP.feas0, by rw [LP.det0]; decide⟩
    have fit1 := sz.fa1
    refine ⟨_, rfl, x, dx2, _, rfl, Gw.r2_le.at hp2, no _ _ _ (by decide +kernel) (by decide +kernel) (by decide +kernel) (by decide +kernel), _, rfl, _, rfl, ?_⟩
    refine ⟨x, aR, aB, _, n, m, col, want, LP.w1 m, _, fun _ => True, rfl, tab2, vlR, hn, hm, good0, fit1, trivial, fun _ _ _ _ _ _ _ => trivial, fun v3 H3 g3 ⟨s1, tab3, good1, _, hend⟩ => ?_⟩
    have hred : ∀ e, e < m → LP.red n (LP.w1 m) s1 e ≤ 0 := by
      rcases hend with ⟨_, h⟩ | ⟨e, _, En, hno⟩
      · exact h
      · obtain ⟨i, hi, hp⟩ := LP.climb1_leave En
        exact absurd (hno i hi) (Rat.not_le.mpr hp)
    have gH3 := gH2.trans g3
    have vl3 := vlR.gw g3
    clear hend g3 vlR tab2 gH2 hp2 q5 vl tab
    -- if is_less(table.reduced(first)[-1], ZERO)
    obtain ⟨cv3, aS3, dx3, _, hp3, _⟩ := id tab3.ob
    refine ⟨_, rfl, x, dx3, _, rfl, Gw.r2_le.at hp3, no _ _ _ (by decide +kernel) (by decide +kernel) (by decide +kernel) (by decide +kernel), _, rfl, ?_⟩
    refine ⟨x, aR, aB, _, n, m, col, want, LP.w1 m, s1, rfl, tab3, vl3.gw Gw.r2_le, hn, hm, good1.inv.bl, (fit1 s1 good1.inv good1.det).1, fun v4 H4 g4 r4 => ?_⟩
    obtain ⟨a4, v4s, rfl, hs4, l4, i4⟩ := r4
    obtain ⟨y4, e4, p4⟩ := i4 (m + n) (by omega)
    have p4 : PAt K H4 y4 (LP.used n (LP.w1 m) s1 (m + n)) := by
      unfold redv at p4; rwa [if_neg (Nat.lt_irrefl _)] at p4
    refine ⟨1, rfl, _, _, _, _, rfl, rfl, hs4, at_last l4 e4, _, _, _, 0, rfl, p4, ⟨⟨az, rfl, zt _⟩, fit_zero⟩, ?_⟩
    have gH4 := gH3.trans (g4.r2 aR aB)
    have tab4 := tab3.gw g4
    have vl4 := vl3.gw (g4.r2 aR aB)
    clear gH3 tab3 vl3 hp3 hs4 i4 p4 e4 l4 g4
    obtain ⟨cv4, aS4, dx4, _, hp4, _⟩ := id tab4.ob
    by_cases hneg : LP.used n (LP.w1 m) s1 (m + n) < 0
    · rw [decide_eq_true hneg]
      refine ⟨_, rfl, iteT ?_⟩
      refine ⟨_, rfl, x, dx4, _, rfl, Gw.r2_le.at hp4, no _ _ _ (by decide +kernel) (by decide +kernel) (by decide +kernel) (by decide +kernel), _, rfl, ?_⟩
      refine ⟨x, aR, aB, _, n, m, col, want, LP.w1 m, s1, rfl, tab4, vl4.gw Gw.r2_le, hn, hm, good1.inv.bl, (fit1 s1 good1.inv good1.det).1, sz.fs1 s1 good1, fun v5 H5 g5 r5 => ?_⟩
      refine ⟨(show 2 ≤ sizeLine by decide), fun r hr => ?_⟩
      have gn : Gw H5 (upd H5 r (.tup [.str "none", v5])) := Gw.new _ hr
      refine k _ _ ((gH4.trans Gw.r2_le).trans (g5.trans gn)) (.none rfl (SqT.of upd_same) (r5.gw gn) (fun j hj => ?_) ?_)
      · rw [LP.side_col good1.inv hj]
        rw [show LP.w1 m j = 0 from if_pos hj]
        exact rat_a (hred j hj)
      · rw [LP.side_want good1.inv]; exact hneg
    rw [decide_eq_false hneg]
    refine ⟨_, rfl, iteF ?_⟩
    have arts1 := LP.arts0_of good1.feas hneg
    -- for number in range(high)
    refine ⟨_, rfl, (n : Int), rfl, by omega, by omega, ?_⟩
    refine for_it (walk_rangeN (N := n) (by omega)) (fun i σ H' => Gw (R2 H4 aR aB) (R2 H' aR aB) ∧ (∃ s, TabAt K C H' x aR aB n m col want s ∧ Good n m (LP.mat n m col want) s ∧ LP.Arts0 n m s ∧ ∀ k, k < i → LP.Empty n m s k) ∧
        ∃ u7 u8 u9, σ = [some (.ref ac), some (.ref aw), some (.ref au), some (.int (m : Nat)), some (.int (n : Nat)), some (.ref x), some (.ref L4), u7, u8, u9, none])
      ⟨Gw.refl _, ⟨s1, tab4, good1, arts1, fun k hk => absurd hk (Nat.not_lt_zero _)⟩, none, none, none, rfl⟩ (fun _ _ _ _ _ => True.intro) ?_ ?_
    · rintro i y σ H5 H' hi ⟨gg, ⟨s, tb, gd, ar, em⟩, u7, u8, u9, rfl⟩ ⟨rfl, rfl⟩
      obtain ⟨cv5, aS5, dx5, _, hp5, _⟩ := id tb.ob
      obtain ⟨rws, hR, lR, iR⟩ := id tb.rows
      obtain ⟨bs, hB, lB, iB⟩ := id tb.bas
      have hp := Gw.r2_le.at hp5
      refine ⟨_, rfl, x, C, dx5, _, _, rfl, hp, U.cl, U.nB, flds_b, _, rfl, _, _, _, _, rfl, rfl, SqL.of hB, at_of rfl (iB i hi), _, rfl, _, _, rfl, rfl, _, rfl, ?_⟩
      by_cases hb : m ≤ s.b i
      · rw [decide_eq_true (show ((m : Nat) : Int) ≤ ((s.b i : Nat) : Int) by omega)]
        refine iteT ?_
        obtain ⟨xr, exr, ⟨ai, vi, rfl, hsi, li, ii⟩⟩ := iR i hi
        have hsi := Gw.r2_le.sqL hsi
        refine ⟨_, rfl, (m : Int), rfl, by omega, by omega, fun D hD => lc_it (walk_rangeN (N := m) (by omega)) (fun j H6 => ∃ xs, H6 D = some (.lst xs) ∧ xs.length ≤ j ∧ Gw H' (rm H6 D) ∧ ((xs = [] ∧ ∀ k, k < j → s.T i k = 0) ∨ ∃ (e : Nat) (rest : List V), xs = .int (e : Nat) :: rest ∧ e < j ∧ s.T i e ≠ 0))
          ⟨[], upd_same, Nat.le_refl _, by rw [rm_upd, rm_none hD]; exact Gw.refl _, .inl ⟨rfl, fun k hk => absurd hk (Nat.not_lt_zero _)⟩⟩ (fun _ _ _ _ => True.intro) ?_ ?_⟩
        · rintro j y H6 H7 hj ⟨xs, hx6, lx6, g6, alt⟩ ⟨rfl, rfl⟩
          have g7 : Gw H' H7 := g6.trans Gw.rm_le
          obtain ⟨z, ez, pz⟩ := ii j (by omega)
          refine ⟨rfl, _, rfl, x, C, dx5, _, _, rfl, g7.at hp, U.cl, U.nR, flds_r, _, rfl, _, _, _, _, rfl, rfl, SqL.of (g7.at hR), at_of rfl exr, _, rfl, _, _, _, _, rfl, rfl, g7.sqL hsi, at_of rfl ez, _, _, ((pz.gw Gw.r2_le).gw g7).dp, (show PAt K H7 (.ref az) 0 from ⟨⟨az, rfl, zt _⟩, fit_zero⟩).dp, part_shaped _, part_shaped _, _, rfl, ?_⟩
          rw [part_eqv]
          by_cases h : s.T i j = 0
          · rw [decide_eq_true h]
            refine iteF ⟨xs, hx6, by omega, g6, ?_⟩
            rcases alt with ⟨e1, e2⟩ | ⟨e, rest, e1, e2, e3⟩
            · refine .inl ⟨e1, fun k hk => ?_⟩
              by_cases q : k < j
              · exact e2 k q
              · have : k = j := by omega
                subst this; exact h
            · exact .inr ⟨e, rest, e1, by omega, e3⟩
          · rw [decide_eq_false h]
            refine iteT ⟨_, rfl, xs, hx6, Nat.lt_of_le_of_lt (Nat.le_trans lx6 (show j ≤ 1000 by omega)) (by decide), _, upd_same, by rw [List.length_append]; exact Nat.add_le_add lx6 (Nat.le_refl 1), by rw [rm_upd]; exact g6, ?_⟩
            rcases alt with ⟨e1, e2⟩ | ⟨e, rest, e1, e2, e3⟩
            · exact .inr ⟨j, [], by rw [e1]; rfl, by omega, h⟩
            · exact .inr ⟨e, rest ++ [.int (j : Nat)], by rw [e1]; rfl, by omega, e3⟩
        · rintro H6 ⟨xs, hx6, lx6, g6, alt⟩
          have g7 : Gw H' H6 := g6.trans Gw.rm_le
          refine ⟨_, rfl, D, xs, rfl, .inl (SqL.of hx6), _, _, rfl, rfl, _, rfl, ?_⟩
          rcases alt with ⟨rfl, e2⟩ | ⟨e, rest, rfl, e2, e3⟩
          · refine iteF ⟨gg.trans (g7.r2 aR aB), ⟨s, tb.gw g7, gd, ar, fun k hk => ?_⟩, _, _, _, rfl⟩
            by_cases q : k < i
            · exact em k q
            · have : k = i := by omega
              subst this
              exact fun _ j hj => e2 j hj
          · rw [decide_eq_true (show (0 : Int) < (((V.int (e : Nat) :: rest).length : Nat) : Int) by simp only [List.length_cons]; omega)]
            refine iteT ?_
            refine ⟨_, rfl, x, dx5, _, rfl, g7.at hp, no _ _ _ (by decide +kernel) (by decide +kernel) (by decide +kernel) (by decide +kernel), _, rfl, _, rfl, _, _, _, _, rfl, rfl, SqL.of hx6, atZ rfl, ?_⟩
            refine ⟨x, aR, aB, i, e, n, m, col, want, s, rfl, tb.gw g7, hn, hm, hi, by omega, e3, (fit1 s gd.inv gd.det).2.2 i e hi e2 e3, fun v H8 g8 ⟨_, tb8⟩ => ?_⟩
            obtain ⟨gd8, ar8⟩ := drive gd ar hi e2 hb e3
            refine ⟨gg.trans ((g7.r2 aR aB).trans g8), ⟨_, tb8, gd8, ar8, fun k hk => ?_⟩, _, _, _, rfl⟩
            by_cases q : k = i
            · subst q; exact LP.drive_empty_r e2
            · exact LP.drive_empty e2 q (em k (by omega))
      · rw [decide_eq_false (show ¬ ((m : Nat) : Int) ≤ ((s.b i : Nat) : Int) by omega)]
        refine iteF ⟨gg, ⟨s, tb, gd, ar, fun k hk => ?_⟩, _, _, _, rfl⟩
        by_cases q : k < i
        · exact em k q
        · have : k = i := by omega
          subst this
          exact fun z => absurd z hb
    · rintro σ H5 ⟨gg, ⟨s, tb, gd, ar, em⟩, u7, u8, u9, rfl⟩
      have gH5 := gH4.trans gg
      clear gg vl4 gH4 tab4 hp4
      obtain ⟨cv5, aS5, dx5, _, hp5, _⟩ := id tb.ob
      -- second
      refine ⟨_, rfl, au, vu, rfl, .inr ((gH5.trans Gw.r2_le).sqL hsu), (show 1 ≤ sizeLine by decide), fun L5 h5 => ⟨_, rfl, L5, n, _, rfl, rfl, upd_same, by omega, by omega, ?_, fun L6 h6 => ?_⟩⟩
      · show 1 * ((n : Int)).toNat ≤ sizeLine
        exact Nat.le_trans (show 1 * ((n : Int)).toNat ≤ 1000 by omega) (by decide)
      rw [flat_one]
      have q1 : Gw H5 (upd (upd H5 L5 (.lst [.ref az])) L6 (.lst (List.replicate ((n : Int)).toNat (.ref az)))) := (Gw.new _ h5).trans (Gw.new _ h6)
      have x1 : upd (upd H5 L5 (.lst [.ref az])) L6 (.lst (List.replicate ((n : Int)).toNat (.ref az))) L6 = some (.lst (List.replicate ((n : Int)).toNat (.ref az))) := upd_same
      generalize upd (upd H5 L5 (.lst [.ref az])) L6 (.lst (List.replicate ((n : Int)).toNat (.ref az))) = H6 at q1 x1 ⊢
      refine ⟨L6, _, rfl, .inr (SqL.of x1), ?_, fun L7 h7 => ?_⟩
      · rw [List.append_nil, List.length_append, List.length_replicate, lu]
        exact Nat.le_trans (show m + ((n : Int)).toNat ≤ 1000 + 1000 by omega) (by decide)
      have gn : Gw H6 (upd H6 L7 (.lst (vu ++ (List.replicate ((n : Int)).toNat (.ref az) ++ [])))) := Gw.new _ h7
      have vl : VL K (upd H6 L7 (.lst (vu ++ (List.replicate ((n : Int)).toNat (.ref az) ++ [])))) (.ref L7) (m + n) (LP.w2 m c) := by
        refine ⟨L7, _, rfl, SqL.of upd_same, ?_, fun i hi => ?_⟩
        · rw [List.append_nil, List.length_append, List.length_replicate, lu]; omega
        · unfold LP.w2
          by_cases h : i < m
          · obtain ⟨y, e, py⟩ := iu i h
            exact ⟨y, by rw [List.getElem?_append_left (by rw [lu]; omega)]; exact e, by rw [if_pos h]; exact ((py.gw gH5).gw Gw.r2_le).gw (q1.trans gn)⟩
          · refine ⟨.ref az, by rw [List.append_nil, List.getElem?_append_right (by rw [lu]; omega), List.getElem?_replicate, lu, if_pos (by omega)], ?_⟩
            rw [if_neg h]
            exact ⟨⟨az, rfl, zt _⟩, fit_zero⟩
      have q5 := q1.trans gn
      obtain ⟨rws0, hR0, _⟩ := id tb.rows
      obtain ⟨bs0, hB0, _⟩ := id tb.bas
      have n4R : L7 ≠ aR := fun z => by rw [z, q1.at hR0] at h7; cases h7
      have n4B : L7 ≠ aB := fun z => by rw [z, q1.at hB0] at h7; cases h7
      have vlR := VL.r2 vl n4R n4B (q5.at hR0) (q5.at hB0) tb.ne
      have tb2 := tb.gw q5
      have gH7 := gH5.trans (q5.r2 aR aB)
      have hp7 := q5.at (Gw.r2_le.at hp5)
      generalize upd H6 L7 (.lst (vu ++ (List.replicate ((n : Int)).toNat (.ref az) ++ []))) = H7 at vlR tb2 gH7 hp7 ⊢
      have fit2 := sz.fa2
      -- place = table.climb(second, many)
      refine ⟨_, rfl, x, dx5, _, rfl, hp7, no _ _ _ (by decide +kernel) (by decide +kernel) (by decide +kernel) (by decide +kernel), _, rfl, _, rfl, ?_⟩
      refine ⟨x, aR, aB, _, n, m, col, want, LP.w2 m c, s, fun s => LP.Arts0 n m s ∧ ∀ i, i < n → LP.Empty n m s i, rfl, tb2, vlR, hn, hm, gd, fit2, ⟨ar, em⟩,
        fun s e r g ⟨a1, a2⟩ En L => ⟨LP.leave_arts En.lt a2 a1, LP.leave_empty En.lt a2 L.lt (by have := L.pos; grind)⟩, fun v8 H8 g8 ⟨s8, tab8, good8, ⟨ar8, em8⟩, hend⟩ => ?_⟩
      have gH8 := gH7.trans g8
      have vl8 := vlR.gw g8
      clear g8 vlR tb2 gH7 hp7 q5 vl tb gd ar em fit1 hred
      obtain ⟨cv8, aS8, dx8, _, hp8', _⟩ := id tab8.ob
      have hp8 := Gw.r2_le.at hp8'
      have inj : ∀ i k, i < n → k < n → s8.b i = s8.b k → i = k := fun i k hi hk e => good8.inv.inj hi hk e
      have ew : ∀ (f : Nat → Rat), (S m fun j => LP.w2 m c j * f j) = S m fun j => c j * f j := fun f => LP.S_congr fun j hj => by
        show LP.w2 m c j * f j = c j * f j
        rw [show LP.w2 m c j = c j from if_pos hj]
      rcases hend with ⟨rfl, hred⟩ | ⟨e, rfl, En, hno⟩
      · refine ⟨_, rfl, _, rfl, iteF ?_⟩
        refine ⟨_, rfl, x, dx8, _, rfl, hp8, no _ _ _ (by decide +kernel) (by decide +kernel) (by decide +kernel) (by decide +kernel), _, rfl, ?_⟩
        refine ⟨x, aR, aB, _, n, m, col, want, LP.w2 m c, s8, rfl, tab8, vl8.gw Gw.r2_le, hn, hm, good8.inv.bl, (fit2 s8 good8.inv good8.det).1, fun v9 H9 g9 r9 => ?_⟩
        obtain ⟨a4, v4s, rfl, hs4, l4, i4⟩ := r9
        obtain ⟨y4, e4, p4⟩ := i4 (m + n) (by omega)
        have p4 : PAt K H9 y4 (LP.used n (LP.w2 m c) s8 (m + n)) := by
          unfold redv at p4; rwa [if_neg (Nat.lt_irrefl _)] at p4
        refine ⟨1, rfl, _, _, _, _, rfl, rfl, hs4, at_last l4 e4, ?_⟩
        refine ⟨_, rfl, x, dx8, _, rfl, g9.at hp8, no _ _ _ (by decide +kernel) (by decide +kernel) (by decide +kernel) (by decide +kernel), _, rfl, ?_⟩
        refine ⟨x, aR, aB, n, m, col, want, s8, rfl, tab8.gw g9, hn, hm, inj, fun v10 H10 g10 r10 => ?_⟩
        refine ⟨_, rfl, x, dx8, _, rfl, (g9.trans g10).at hp8, no _ _ _ (by decide +kernel) (by decide +kernel) (by decide +kernel) (by decide +kernel), _, rfl, ?_⟩
        refine ⟨x, aR, aB, _, n, m, col, want, LP.w2 m c, s8, rfl, tab8.gw (g9.trans g10), (vl8.gw Gw.r2_le).gw (g9.trans g10), hn, hm, good8.inv.bl, (fit2 s8 good8.inv good8.det).1, sz.fs2 s8 good8, fun v11 H11 g11 r11 => ?_⟩
        refine ⟨(show 4 ≤ sizeLine by decide), fun r hr => ?_⟩
        have gr : Gw H11 (upd H11 r (.tup [.str "most", y4, v10, v11])) := Gw.new _ hr
        refine k _ _ ((gH8.trans Gw.r2_le).trans (g9.trans (g10.trans (g11.trans gr)))) (.most (q := LP.used n (LP.w2 m c) s8 (m + n)) rfl (SqT.of upd_same) (p4.gw (g10.trans (g11.trans gr))) (r10.gw (g11.trans gr)) (r11.gw gr) (sz.sx s8 good8) (sz.sy s8 good8)
          (fun j _ => LP.wt_nonneg good8.feas j) (fun k hk => LP.wt_want good8.inv ar8 hk) (fun j hj => ?_) ?_ ?_)
        · rw [LP.side_col good8.inv hj, show LP.w2 m c j = c j from if_pos hj]
          exact rat_b (hred j hj)
        · rw [← ew]; exact LP.wt_worth good8.inv ar8
        · exact LP.side_want good8.inv
      · refine ⟨_, rfl, _, rfl, iteT ?_⟩
        have hfree := En.free good8.inv
        refine ⟨_, rfl, x, dx8, _, rfl, hp8, no _ _ _ (by decide +kernel) (by decide +kernel) (by decide +kernel) (by decide +kernel), _, rfl, ?_⟩
        refine ⟨x, aR, aB, n, m, col, want, s8, rfl, tab8, hn, hm, inj, fun v10 H10 g10 r10 => ?_⟩
        refine ⟨_, rfl, x, dx8, _, rfl, g10.at hp8, no _ _ _ (by decide +kernel) (by decide +kernel) (by decide +kernel) (by decide +kernel), _, rfl, _, rfl, ?_⟩
        refine ⟨x, aR, aB, e, n, m, col, want, s8, rfl, tab8.gw g10, hn, hm, inj, En.lt, fun i hi z => hfree ⟨i, hi, z⟩, fun i hi => sz.fneg s8 good8 i e hi (by have := En.lt; omega), fun v11 H11 g11 r11 => ?_⟩
        refine ⟨(show 3 ≤ sizeLine by decide), fun r hr => ?_⟩
        have gr : Gw H11 (upd H11 r (.tup [.str "endless", v10, v11])) := Gw.new _ hr
        refine k _ _ ((gH8.trans Gw.r2_le).trans (g10.trans (g11.trans gr))) (.endless rfl (SqT.of upd_same) (r10.gw (g11.trans gr)) (r11.gw gr)
          (fun j _ => LP.wt_nonneg good8.feas j) (fun k hk => LP.wt_want good8.inv ar8 hk) (fun j _ => LP.way_nonneg hno) (fun k hk => LP.way_null good8.inv En.lt em8 hk) ?_)
        rw [← ew, LP.way_worth good8.inv En.lt em8]
        exact En.pos
end
end K44


set_option Elab.async false
set_option linter.all false
set_option maxRecDepth 100000
set_option maxHeartbeats 4000000
set_option exponentiation.threshold 3000
/-! least. -/
namespace K44
open PySem L2
open LP (Fit lim S Tab Sm)
/-- what least gives, where there is a least worth -/
def LeastK (K : PySem.W.Frag) (H : Hp) (v : V) (n m : Nat) (col : Nat → Nat → Rat) (want c : Nat → Rat) (X Y : (Nat → Rat) → Prop) : Prop := ∃ (a : Addr) (qv xv yv : V) (q : Rat) (x y : Nat → Rat), v = .ref a ∧ SqT K H a [.str "least", qv, yv, xv] ∧ PAt K H qv q ∧ VT K H xv m x ∧ VT K H yv n y ∧ X x ∧ Y y ∧
  (∀ j, j < m → 0 ≤ x j) ∧ (∀ k, k < n → (S m fun j => x j * col j k) = want k) ∧ (∀ j, j < m → c j ≤ S n fun k => col j k * y k) ∧ (S m fun j => c j * x j) = q ∧ (S n fun k => want k * y k) = q
def spLeast (K : PySem.W.Frag) (t : Tabs) : Sp := fun vs H Q _ => ∃ (R r g : V) (m n : Nat) (col : Nat → Nat → Rat) (c want : Nat → Rat) (X Y : (Nat → Rat) → Prop), vs = [R, r, g] ∧ SysAt K H R r g m n col c want ∧ m ≤ 60 ∧ Siz n m col want c X Y ∧ TabsOk t H ∧
  (∃ x : Nat → Rat, (∀ j, j < m → 0 ≤ x j) ∧ ∀ k, k < n → (S m fun j => x j * col j k) = want k) ∧ (∃ y, LP.Feasible n m col c y) ∧ Ans H (fun v H' => LeastK K H' v n m col want c X Y) Q
abbrev sLeast : Stmt := top 46
theorem S_zeros {n : Nat} {f : Nat → Rat} : (S n fun k => (0 : Rat) * f k) = 0 := LP.S_zero fun k _ => Rat.zero_mul _
section
variable {P : Program} {w : World} {K : PySem.W.Frag} {mg : Str → Option Value} {base : Heap}
theorem scLeast : FnScope ["rows", "right", "goal", "found", "way", "places"] ["rows", "right", "goal"] (defScope sLeast) := ⟨rfl, rfl, rfl, by decide +kernel, rfl, by decide +kernel, by decide +kernel⟩
theorem ok_least {t : Tabs} {f : Addr} {fd : FuncData} (F : Fun K "least" "least" sLeast f fd) (T : Txt K mg) (C1 : CIsSystem P w K mg base t) (C2 : Cal P w K mg base "most" 7 ["columns", "wanted", "worths"] (spMost K)) :
    FnOk P w K mg base CX0 8 f fd ["rows", "right", "goal"] (spLeast K t) := by
  refine F.ok scLeast (fun vs H Q E h => ?_) (fun cdv A outer s H vs Q E hr h => ?_)
  · obtain ⟨R, r, g, m, n, col, c, want, XX, YY, rfl, _⟩ := h
    rfl
  · obtain ⟨R, r, g, m, n, col, c, want, XX, YY, rfl, sys, hm, sz, ht, ⟨x0, xp, xw⟩, ⟨y0, yf⟩, k⟩ := h
    obtain ⟨az, hz, zt⟩ := T.zero
    obtain ⟨t1, hM1⟩ := T.mostRows
    obtain ⟨t2, hM2⟩ := T.mostPlaces
    refine ⟨_, pss_cons (ps_if (pt_not (pt_val (pe_call C1.ok (hr.mono (by decide)) rfl C1.hm C1.kp C1.b .nil pass0 (pa_cons (pv 0) (pa_cons (pv 1) (pa_cons (pv 2) pa_nil)))))) (pss_one ps_never) pss_nil)
      (pss_cons (ps_if (PW.pt (pw_or (pt_cmpR op_gt (pe_callB (lenK K) (by rfl) T.len PySem.boot_len (pa_cons (pv 0) pa_nil)) (pe_glob (v := .int 60) rfl hM1 ⟨t1, rfl⟩) (nomark _)) (pw_or1 (pt_cmpR op_gt (pe_callB (lenK K) (by rfl) T.len PySem.boot_len (pa_cons (pv 2) pa_nil)) (pe_glob (v := .int 30) rfl hM2 ⟨t2, rfl⟩) (nomark _))))) (pss_one ps_never) pss_nil)
      (pss_cons (ps_set (i := 3) scLeast.nd rfl (Or.inl rfl) (pe_call C2.ok hr rfl C2.hm C2.kp C2.b .nil pass0 (pa_cons (pv 0) (pa_cons (pv 2) (pa_cons (pv 1) pa_nil)))))
      (pss_cons (ps_if (pt_cmpR op_eq (pe_ix (ixT K) (pv 3) pe_int (fun _ _ => rfl)) pe_str (nomark _)) (pss_one (ps_ret (pe_tup (pa_cons pe_str (pa_cons (pe_ix (ixT K) (pv 3) pe_int (fun _ _ => rfl)) (pa_cons (pe_ix (ixT K) (pv 3) pe_int (fun _ _ => rfl)) (pa_cons (pe_ix (ixT K) (pv 3) pe_int (fun _ _ => rfl)) pa_nil))))))) pss_nil)
      (pss_cons ps_never (pss_cons ps_never (pss_cons ps_never (pss_cons ps_never (pss_one ps_never)))))))), ?_⟩
    obtain ⟨ag, vg, rfl, hg, lg, ig⟩ := id sys.goal
    obtain ⟨aR, vR, rfl, hR, lR, iR⟩ := id sys.rows
    have np := sys.pos
    have n9 := sz.n1
    refine ⟨_, rfl, _, rfl, _, rfl, _, r, _, m, n, col, c, want, rfl, sys.rows, sys.right, sys.goal, sys.pos, sys.m1, sys.n1, ht, fun v H1 g1 e => ?_⟩
    subst e
    refine ⟨_, rfl, iteF ?_⟩
    refine ⟨_, rfl, aR, vR, rfl, .inr (g1.sqT hR), _, _, rfl, rfl, _, rfl, ?_⟩
    rw [decide_eq_false (show ¬ (60 : Int) < ((vR.length : Nat) : Int) by omega)]
    refine iteF ?_
    refine ⟨_, rfl, ag, vg, rfl, .inr (g1.sqT hg), _, _, rfl, rfl, _, rfl, ?_⟩
    rw [decide_eq_false (show ¬ (30 : Int) < ((vg.length : Nat) : Int) by omega)]
    refine iteF ?_
    have sys1 := sys.gw g1
    refine ⟨_, rfl, _, rfl, _, rfl, _, _, _, n, m, col, want, c, XX, YY, rfl, sys1.rows, sys1.goal, sys1.right, sys.m1, sz, fun v2 H2 g2 r2 => ?_⟩
    have g2 := g1.trans g2
    have str_ne : ∀ {x y : Str}, x ≠ y → decide (V.str x = V.str y) = false := fun h => decide_eq_false fun z => h (V.str.inj z)
    cases r2 with
    | most e s hq hx hy sx sy x0 xw yc qx qy =>
      subst e
      refine ⟨_, rfl, _, _, _, _, rfl, rfl, s, atZ rfl, rfl, _, rfl, ?_⟩
      rw [decide_eq_true rfl]
      refine iteT ?_
      refine ⟨_, rfl, _, _, _, _, rfl, rfl, s, atI_nat (j := 1) rfl, _, rfl, _, _, _, _, rfl, rfl, s, atI_nat (j := 3) rfl, _, rfl, _, _, _, _, rfl, rfl, s, atI_nat (j := 2) rfl, (show 4 ≤ sizeLine by decide), fun l hl => ?_⟩
      have gl := fun o => Gw.new o hl
      exact k _ _ (g2.trans (gl _)) ⟨_, _, _, _, _, _, _, rfl, SqT.of upd_same, hq.gw (gl _), hx.gw (gl _), hy.gw (gl _), sx, sy, x0, xw, yc, qx, qy⟩
    | endless e s hx hd x0 xw d0 dw dc => exact (LP.not_none yf d0 dw dc).elim
    | none e s hy h1 h2 => exact (LP.not_down xp xw h1 h2).elim
end
end K44


set_option Elab.async false
set_option linter.all false
set_option maxRecDepth 100000
set_option maxHeartbeats 4000000
/-! list(reversed(a list)). -/
namespace LRev
open PySem PySem.Spec PyProof.Rows L2
open PySem.Sem (wp)
open RT
section
variable {prog : Program} {w : World} {A : Around} {s : Shared} {R : Result → Shared → Prop}
theorem ext_rev {it l S : Addr} {items : Array Value} (res : Value) (c₀ : Nat) (hh : A.in1.handled = none) (hit : s.heap.IsRevIter it l ((items.size : Int) - 1)) (hl : s.heap.IsList l items) (hne : l ≠ it) (hSi : S ≠ it) (hSl : S ≠ l) (hn : items.size ≤ sizeLine)
    (hS : s.heap.get? S = some { cls := .type "list", data := .seq #[] c₀ })
    (hR : ∀ h' tk acc' c', (∀ b o, b ≠ S → b ≠ it → s.heap.get? b = some o → h'.get? b = some o) → h'.get? S = some { cls := .type "list", dict := none, data := .seq acc' c', slots := #[] } → ItemsOf (fun i v => items[items.size - 1 - i]? = some v) acc' items.size → R (.ok (.ret res)) { s with heap := h', toks := tk }) :
    wpAny (model prog w) A.in1 (Builtin.List.listExtendWith (.ref S) (.ref it) res)
      (fun fin s' => match fin with | .done f => R (.ok f) s' | .again c' => c'.quiet = true ∧ codeAny (model prog w) A c' R s') (fun e s' => R (.error e) s') s := by
  have W := (Walks.listRev (prog := prog) (w := w) (A := A.in1) hh it l hne items).toS
  have hSf : S ∉ [it, l] := by simp only [List.mem_cons, List.not_mem_nil, or_false, not_or]; exact ⟨hSi, hSl⟩
  have hT : s.TypeIs (.ref it) "list_reverseiterator" := Heap.IsRevIter.typeIs hit
  have h1 : Builtin.List.listSameRef (.ref S) (.ref it) = false := by simp [Builtin.List.listSameRef, hSi]
  unfold Builtin.List.listExtendWith
  refine wpAny_bind (wpAny_typeOf hT ?_)
  rw [if_neg (by rw [h1]; decide)]
  refine wpAny_bind (wpAny_pyIter_revIter hit ?_)
  refine wpAny_bind (wpAny_holding ?_)
  unfold Builtin.List.listLengthHint
  refine wpAny_bind (wpAny_specialOf hT nolen_lri ?_)
  show wpAny _ A.in1 (specialOf (Value.ref it) (Str.ofString "__length_hint__") >>= _) _ _ _
  refine wpAny_bind (wpAny_specialOf hT hint_lri ?_)
  generalize hid : ("list_reverseiterator.__length_hint__" : String) = id0
  wp_delta
  rw [show splitId id0 = some ("list_reverseiterator", "__length_hint__") from by subst hid; decide +kernel]
  subst hid
  refine wpAny_bind (wpAny_isInstance (b := true) hT (by rw [isSubtype_type]; kernel_rfl) ?_)
  refine wpAny_pure ?_
  rw [if_neg (by decide)]
  have e0 : ((items.size : Nat) : Int) - 1 - ((0 : Nat) : Int) = (items.size : Int) - 1 := by omega
  refine wpAny_pure ⟨plainId_quiet F.plain_extend_loop _, codeAny_extend_loopS W hn _ hSf _ items.size 0 _ _ _ rfl (Nat.zero_le _) ⟨Nat.zero_le _, by rw [e0]; exact hit, hl⟩ hS (ItemsOf.nil _) fun s' acc' c' hm hS' hacc => ?_⟩
  rw [Moved.eq_with hm]
  exact hR s'.heap s'.toks acc' c' (fun b o hb hb2 e => hm.heap b o (fun hmem => by
    rcases List.mem_cons.mp hmem with e' | hmem
    · exact hb e'
    · exact hb2 (List.mem_singleton.mp hmem)) e) hS' hacc
theorem init_rev {it l S : Addr} {items : Array Value} (hh : A.in1.handled = none) (hit : s.heap.IsRevIter it l ((items.size : Int) - 1)) (hl : s.heap.IsList l items) (hne : l ≠ it) (hSi : S ≠ it) (hSl : S ≠ l) (hn : items.size ≤ sizeLine)
    (hS : s.heap.get? S = some { cls := .type "list", data := .seq #[] })
    (hR : ∀ h' tk acc' c', (∀ b o, b ≠ S → b ≠ it → s.heap.get? b = some o → h'.get? b = some o) → h'.get? S = some { cls := .type "list", dict := none, data := .seq acc' c', slots := #[] } → ItemsOf (fun i v => items[items.size - 1 - i]? = some v) acc' items.size → R (.ok (.ret .none)) { s with heap := h', toks := tk }) :
    wpAny (model prog w) A.in1 (Builtin.«list.__init__» ⟨[.ref S, .ref it], []⟩)
      (fun fin s' => match fin with | .done f => R (.ok f) s' | .again c' => c'.quiet = true ∧ codeAny (model prog w) A c' R s') (fun e s' => R (.error e) s') s := by
  show wpAny _ A.in1 (do let old ← Builtin.List.listItems (.ref S); Builtin.List.listUpdate (.ref S) (fun _ => #[]); letGo old.toList.reverse; Builtin.List.listExtendWith (.ref S) (.ref it) .none) _ _ s
  refine wpAny_bind ?_
  unfold Builtin.List.listItems
  refine wpAny_bind (wpAny_seqItems hS rfl (wpAny_pure ?_))
  show wpAny _ A.in1 (updateSeq S (fun _ => #[]) >>= fun _ => letGo (#[] : Array Value).toList.reverse >>= fun _ => Builtin.List.listExtendWith (.ref S) (.ref it) .none) _ _ s
  refine wpAny_bind (wpAny_updateSeq hS rfl ?_)
  have hS₂ := Heap.get?_update_self (Obj.mapSeq (fun _ => (#[] : Array Value))) hS rfl
  have oth : ∀ b o, b ≠ S → s.heap.get? b = some o → (s.heap.update S (Obj.mapSeq (fun _ => (#[] : Array Value)))).get? b = some o :=
    fun b o hb e => (Heap.get?_update_other _ _ (Ne.symm hb)).trans e
  refine wpAny_bind (wpAny_letGo ?_)
  refine ext_rev .none _ hh (hit.at fun o e => oth it o (Ne.symm hSi) e) (hl.at fun o e => oth l o (Ne.symm hSl) e) hne hSi hSl hn hS₂ fun h' tk acc' c' hk hS' hacc => ?_
  exact hR h' tk acc' c' (fun b o hb hb2 e => hk b o hb hb2 (oth b o hb e)) hS' hacc
end
theorem call_list_rev {prog : Program} {w : World} {A : Around} {E : Value → Shared → Prop} {s : Shared} {it l : Addr} {items : Array Value} {Q : Value → Shared → Prop} (hh : A.handled = none) (hit : s.heap.IsRevIter it l ((items.size : Int) - 1)) (hl : s.heap.IsList l items) (hne : l ≠ it) (hn : items.size ≤ sizeLine)
    (hQ : ∀ h' tk acc' c', (∀ b o, b ≠ it → s.heap.get? b = some o → h'.get? b = some o) → h'.get? s.heap.objs.size = some { cls := .type "list", dict := none, data := .seq acc' c', slots := #[] } → ItemsOf (fun i v => items[items.size - 1 - i]? = some v) acc' items.size →
      Q (.ref s.heap.objs.size) { s with heap := h', toks := tk }) :
    wpAny (model prog w) A (call (.type "list") [.ref it]) Q E s := by
  obtain ⟨oi, hoi, _⟩ := id hit
  obtain ⟨ol, hol, _⟩ := id hl
  have hSi : s.heap.objs.size ≠ it := Nat.ne_of_gt (Heap.lt_size hoi)
  have hSl : s.heap.objs.size ≠ l := Nat.ne_of_gt (Heap.lt_size hol)
  refine callType_codes (Q₁ := fun obj s₁ => obj = .ref s.heap.objs.size ∧ s₁ = { s with heap := s.heap.push { cls := .type "list", data := .seq #[] } }) F.called_list (F.typeCall_list_1 _) F.entry_list_init
    (code_list_new _ ⟨rfl, rfl⟩) fun obj s₁ h₁ => ?_
  obtain ⟨rfl, rfl⟩ := h₁
  have hS : (s.heap.push { cls := .type "list", data := .seq #[] }).get? s.heap.objs.size = some { cls := .type "list", data := .seq #[] } := Heap.get?_push_size _ rfl
  refine ⟨⟨_, hS, rfl⟩, F.args_list_init_2 _ _, init_rev (s := { s with heap := s.heap.push { cls := .type "list", data := .seq #[] } }) hh (hit.at fun o e => Heap.get?_push_of_some _ e) (hl.push _) hne hSi hSl hn hS fun h' tk acc' c' hk hS' hacc => ?_⟩
  exact ⟨rfl, hQ h' tk acc' c' (fun b o hb e => hk b o (Nat.ne_of_lt (Heap.lt_size e)) hb (Heap.get?_push_of_some _ e)) hS' hacc⟩
/-- list(reversed(x)), x a list: a new list -/
def tLstRev (K : PySem.W.Frag) (te : TE) : TE := fun σ H Q => te σ H fun v H1 => ∃ (a : Addr) (xs : List V), v = .ref a ∧ SqL K H1 a xs ∧ ∀ q, H1 q = none → Q (.ref q) (upd H1 q (.lst xs.reverse))
section
variable {X : Cx}
theorem pe_lstRev {e : Expr} {te : TE} {p p2 pos pos2 : Pos} (hc : X.calm = true) (hg : Gl X "list") (hm : X.mg "list" = none) (hg2 : Gl X "reversed") (hm2 : X.mg "reversed" = none) (he : PE X e te)
    (hs : starEach [e] X.env = (false, eval e X.env) :: starEach [] X.env := by rfl)
    (hs2 : starEach [.Call (.Name "reversed" p2) [e] [] pos2] X.env = (false, eval (.Call (.Name "reversed" p2) [e] [] pos2) X.env) :: starEach [] X.env := by rfl) :
    PE X (.Call (.Name "list" p) [.Call (.Name "reversed" p2) [e] [] pos2] [] pos) (tLstRev X.K te) := by
  refine ⟨fun pins s σ H Q I h => ?_⟩
  refine Call_ (ld_blt I hg hm boot_list (PyProof.Rows.callWith_type1 (args_cons (Call_ (ld_blt I hg2 hm2 PyProof.Rows.boot_reversed (PyProof.Rows.callWith_type1 (args_cons (thn (he.run pins s σ H _ I h) fun u s1 ⟨v, H1, I1, r1, q1⟩ => args_nil ?_) hs) hs rfl))) hs2) hs2 rfl))
  obtain ⟨a, xs, ev, hq, q⟩ := q1
  subst ev
  obtain rfl : u = Value.ref a := r1
  obtain ⟨its, rv, p', hz⟩ := I1.list hq
  refine call_reversed_list p'.isList (args_nil ?_)
  have k0 : ∀ b o, s1.heap.get? b = some o → (s1.heap.push (revObj a ((its.toArray.size : Int) - 1))).get? b = some o := fun b o e => Heap.get?_push_of_some _ e
  have I2 : Inv X pins σ H1 { s1 with heap := s1.heap.push (revObj a ((its.toArray.size : Int) - 1)) } := I1.kept (t' := s1.toks) k0
  obtain ⟨f0, f1, f2, f3, f4, f5⟩ := I1.fpOk (H' := H1) (b := s1.heap.objs.size) (Nat.le_refl _) (I1.hok.fresh (Nat.le_refl _))
  have hl := p'.isList
  obtain ⟨ol, hol, _⟩ := id hl
  have hne : a ≠ s1.heap.objs.size := Nat.ne_of_lt (Heap.lt_size hol)
  have hn : its.toArray.size ≤ sizeLine := by rw [List.size_toArray, ← rv.length]; exact hz
  have hz2 : (s1.heap.push (revObj a ((its.toArray.size : Int) - 1))).objs.size = s1.heap.objs.size + 1 := Heap.size_push ..
  refine call_list_rev (s := { s1 with heap := s1.heap.push (revObj a ((its.toArray.size : Int) - 1)) }) (I1.ok.hd hc) ⟨_, Heap.get?_push_size _ rfl, rfl, rfl⟩ (hl.push _) hne hn fun h' tk acc c' hk hS hi => ?_
  rw [hz2] at hS
  show EP X pins σ Q (.ref (s1.heap.push (revObj a ((its.toArray.size : Int) - 1))).objs.size) _
  rw [hz2]
  refine ⟨.ref (s1.heap.objs.size + 1), upd H1 (s1.heap.objs.size + 1) (.lst xs.reverse), I1.laid (t' := tk) (fun b u e => hk b u (Nat.ne_of_lt (Heap.lt_size e)) (k0 b u e)) (Nat.le_succ _)
    (show ObjOk X.prog X.w _ _ _ (.lst xs.reverse) from ⟨by rw [List.length_reverse]; exact hz, acc.toList, c', vals_rev rv hi, ?_⟩), rfl, q _ (I1.hok.fresh (Nat.le_succ _))⟩
  rw [Array.toArray_toList]
  exact hS
end
end LRev


set_option Elab.async false
set_option linter.all false
set_option maxRecDepth 100000
set_option maxHeartbeats 4000000
set_option exponentiation.threshold 3000
/-! The law's own reckoning: take, says, low, plus, times, minus, over, less. -/
namespace K44
open PySem L2
open LP (Fit lim S)
abbrev sLTake : Stmt := top 74
abbrev sLSays : Stmt := top 76
abbrev sLLow : Stmt := top 77
abbrev sLPlus : Stmt := top 78
abbrev sLTimes : Stmt := top 79
abbrev sLMinus : Stmt := top 80
abbrev sLOver : Stmt := top 81
abbrev sLLess : Stmt := top 82
/-- the draws' list at D -/
def Draws (H : Hp) (D : Addr) : Prop := ∃ ns : List Int, H D = some (.lst (ns.map V.int))
def spTake : Sp := fun vs H Q _ => ∃ (D : Addr) (b : Int), vs = [.ref D, .int b] ∧ 0 < b ∧ Draws H D ∧ ∀ (v : Int) (H' : Hp), 0 ≤ v → v < b → Gw (rm H D) (rm H' D) → Draws H' D → Q (.int v) H'
def spSays : Sp := fun vs H Q _ => ∃ a b : Bool, vs = [.bl a, .bl b] ∧ Q (.bl (decide (a = b))) H
def spLow (K : PySem.W.Frag) : Sp := fun vs H Q _ => ∃ a d : Int, vs = [.int a, .int d] ∧ 0 < d ∧ d.natAbs < 2 ^ 1000 ∧ Fit (Rat.divInt a d) ∧ Ans H (fun v H' => PAt K H' v (Rat.divInt a d)) Q
section
variable {P : Program} {w : World} {K : PySem.W.Frag} {mg : Str → Option Value} {base : Heap}
theorem scLTake : FnScope ["draws", "bound"] ["draws", "bound"] (defScope sLTake) := ⟨rfl, rfl, rfl, by decide +kernel, rfl, by decide +kernel, by decide +kernel⟩
theorem scLSays : FnScope ["found", "due"] ["found", "due"] (defScope sLSays) := ⟨rfl, rfl, rfl, by decide +kernel, rfl, by decide +kernel, by decide +kernel⟩
theorem scLLow : FnScope ["one", "other", "first", "second"] ["one", "other"] (defScope sLLow) := ⟨rfl, rfl, rfl, by decide +kernel, rfl, by decide +kernel, by decide +kernel⟩
theorem scLPlus : FnScope ["one", "other"] ["one", "other"] (defScope sLPlus) := ⟨rfl, rfl, rfl, by decide +kernel, rfl, by decide +kernel, by decide +kernel⟩
theorem scLTimes : FnScope ["one", "other"] ["one", "other"] (defScope sLTimes) := ⟨rfl, rfl, rfl, by decide +kernel, rfl, by decide +kernel, by decide +kernel⟩
theorem scLMinus : FnScope ["one", "other"] ["one", "other"] (defScope sLMinus) := ⟨rfl, rfl, rfl, by decide +kernel, rfl, by decide +kernel, by decide +kernel⟩
theorem scLOver : FnScope ["one", "other"] ["one", "other"] (defScope sLOver) := ⟨rfl, rfl, rfl, by decide +kernel, rfl, by decide +kernel, by decide +kernel⟩
theorem scLLess : FnScope ["one", "other"] ["one", "other"] (defScope sLLess) := ⟨rfl, rfl, rfl, by decide +kernel, rfl, by decide +kernel, by decide +kernel⟩
theorem dropLast_map (ns : List Int) : (ns.map V.int).dropLast = ns.dropLast.map V.int := by rw [List.map_dropLast]
theorem ok_lTake {f : Addr} {fd : FuncData} (F : Fun K "_law_take" "_law_take" sLTake f fd) (T : Txt K mg) : FnOk P w K mg base CX0 1 f fd ["draws", "bound"] spTake := by
  refine F.ok scLTake (fun vs H Q E h => ?_) (fun cdv A outer s H vs Q E hr h => ?_)
  · obtain ⟨D, b, rfl, _⟩ := h
    rfl
  · obtain ⟨D, b, rfl, hb, ⟨ns, hD⟩, k⟩ := h
    refine ⟨_, pss_cons (ps_if (pt_cmpR op_eq (pe_callB (lenK K) (by rfl) T.len PySem.boot_len (pa_cons (pv 0) pa_nil)) pe_int (nomark _)) (pss_one (ps_ret pe_int)) pss_nil)
      (pss_one (ps_ret (pe_op op_mod (pe_callTy call_int1 (by rfl) T.int (by decide +kernel) (pa_cons (pe_bm0 PySem.F.plainAttrs_list PySem.F.slot_list_pop PySem.F.type_list_pop mt_pop (pv 0)) pa_nil)) (pv 1)))), ?_⟩
    refine ⟨_, rfl, D, _, rfl, .inl (SqL.of hD), rfl, _, rfl, ?_⟩
    cases ns with
    | nil =>
      refine iteT ?_
      exact k 0 H (Int.le_refl _) hb (Gw.refl _) ⟨[], hD⟩
    | cons n ns =>
      rw [decide_eq_false (show ¬ V.int ((((n :: ns).map V.int).length : Nat) : Int) = V.int 0 from fun z => by
        have := V.int.inj z
        simp only [List.map_cons, List.length_cons] at this
        omega)]
      refine iteF ?_
      obtain ⟨z, hz⟩ : ∃ z, (n :: ns)[(n :: ns).length - 1]? = some z := ⟨_, List.getElem?_eq_getElem (by simp only [List.length_cons]; omega)⟩
      have hx : ((n :: ns).map V.int)[((n :: ns).map V.int).length - 1]? = some (V.int z) := by
        rw [List.length_map, List.getElem?_map, hz]
        rfl
      refine ⟨_, rfl, .inl ⟨rfl, _, SqL.of hD⟩, D, _, _, rfl, rfl, hD, hx, .inl ⟨_, rfl, _, rfl, _, _, rfl, rfl, hb, ?_⟩⟩
      refine k _ _ (Int.emod_nonneg _ (by omega)) (Int.emod_lt_of_pos _ hb) (by rw [rm_upd]; exact Gw.refl _) ⟨(n :: ns).dropLast, by rw [dropLast_map]; exact upd_same⟩
theorem ok_lSays {f : Addr} {fd : FuncData} (F : Fun K "_law_says" "_law_says" sLSays f fd) (T : Txt K mg) : FnOk P w K mg base CX0 1 f fd ["found", "due"] spSays := by
  refine F.ok scLSays (fun vs H Q E h => ?_) (fun cdv A outer s H vs Q E hr h => ?_)
  · obtain ⟨a, b, rfl, _⟩ := h
    rfl
  · obtain ⟨a, b, rfl, k⟩ := h
    refine ⟨_, pss_one (ps_ret (pe_and (pe_callB (isiK K) (by rfl) T.isi (by decide +kernel) (pa_cons (pv 0) (pa_cons (pe_bltn (v := .ty "bool") (by rfl) T.bool (by decide +kernel) rfl) pa_nil))) (pe_one (pe_cmpR op_eq (pv 0) (pv 1) (nomark _))))), ?_⟩
    refine ⟨_, rfl, _, _, _, _, _, rfl, .ty _, .base (.bl _), kit_ty (r := true) (by decide +kernel), _, rfl, iteT ?_⟩
    refine ⟨_, rfl, _, rfl, rfl, ?_⟩
    rw [show decide (V.bl a = V.bl b) = decide (a = b) from decide_eq_decide.mpr ⟨fun z => V.bl.inj z, fun z => by rw [z]⟩]
    exact k
theorem ok_lLow {f : Addr} {fd : FuncData} (F : Fun K "_law_low" "_law_low" sLLow f fd) (T : Txt K mg) : FnOk P w K mg base CX0 1 f fd ["one", "other"] (spLow K) := by
  refine F.ok scLLow (fun vs H Q E h => ?_) (fun cdv A outer s H vs Q E hr h => ?_)
  · obtain ⟨a, d, rfl, _⟩ := h
    rfl
  · obtain ⟨a, d, rfl, hd, hdb, hfit, k⟩ := h
    refine ⟨_, pss_cons (ps_par (i := 2) (j := 3) rfl scLLow.nd rfl rfl (by decide) rfl rfl (pa_cons (pe_callB call_abs (by rfl) T.abs (by decide +kernel) (pa_cons (pv 0) pa_nil)) (pa_cons (pv 1) pa_nil)) rfl)
      (pss_cons (ps_while PassesOwn.never (pt_cmpR op_gt (pv 3) pe_int (nomark _))
        (pss_one (ps_par (i := 2) (j := 3) rfl scLLow.nd rfl rfl (by decide) rfl rfl (pa_cons (pv 3) (pa_cons (pe_op op_mod (pe_callTy call_int1 (by rfl) T.int (by decide +kernel) (pa_cons (pv 2) pa_nil)) (pv 3)) pa_nil)) rfl)))
      (pss_one (ps_ret (pe_tup (pa_cons (pe_op op_fdivX (pv 0) (pv 2)) (pa_cons (pe_op op_fdivX (pv 1) (pv 2)) pa_nil)))))), ?_⟩
    refine ⟨_, rfl, _, rfl, _, rfl, _, _, rfl, ?_⟩
    refine ⟨fun m σ H' => H' = H ∧ ∃ f : Nat, σ = [some (.int a), some (.int d), some (.int (f : Nat)), some (.int (m : Nat))] ∧ Nat.gcd f m = Nat.gcd a.natAbs d.natAbs, ⟨d.natAbs, rfl, a.natAbs, ?_, rfl⟩, ?_⟩
    · rw [show (if a < 0 then -a else a) = ((a.natAbs : Nat) : Int) by split <;> omega, show (V.int d) = V.int ((d.natAbs : Nat) : Int) by rw [show ((d.natAbs : Nat) : Int) = d by omega]]
      rw [show ((d.natAbs : Nat) : Int) = d by omega]
      rfl
    · rintro m σ H1 ⟨rfl, f, rfl, hg⟩
      refine ⟨_, rfl, _, _, rfl, rfl, _, rfl, ?_⟩
      by_cases hm : 0 < m
      · rw [decide_eq_true (show (0 : Int) < (m : Nat) by omega)]
        refine iteT ⟨fun σ' H' => ∃ m', m' < m ∧ H' = H1 ∧ ∃ f : Nat, σ' = [some (.int a), some (.int d), some (.int (f : Nat)), some (.int (m' : Nat))] ∧ Nat.gcd f m' = Nat.gcd a.natAbs d.natAbs, fun _ _ h => h, ?_⟩
        refine ⟨_, rfl, _, rfl, .inl ⟨_, rfl, _, rfl, _, _, rfl, rfl, by omega, _, _, rfl, f % m, Nat.mod_lt _ hm, rfl, m, rfl, ?_⟩⟩
        rw [← hg, Nat.gcd_comm f m, Nat.gcd_rec m f, Nat.gcd_comm]
      · rw [decide_eq_false (show ¬ (0 : Int) < (m : Nat) by omega)]
        refine iteF ?_
        have : m = 0 := by omega
        subst this
        rw [Nat.gcd_zero_right] at hg
        obtain ⟨m1, m2⟩ := mk_eq (a := a) (d := d) (by omega) f hg
        rw [if_pos hd] at m1 m2
        have hg0 : 0 < f := by rw [hg]; exact Nat.gcd_pos_of_pos_right _ (by omega)
        have hfl : f < 2 ^ 1000 := Nat.lt_of_le_of_lt (by rw [hg]; exact Nat.le_of_dvd (by omega) (Nat.gcd_dvd_right _ _)) hdb
        have hf2 : f.log2 < 9000 := Nat.lt_trans (PySem.Flt.log2_lt_of (by decide) hfl) (by decide)
        have cd : ∀ i, CDivX i ((f : Nat) : Int) := fun i => ⟨by omega, by rw [Int.natAbs_natCast]; exact hf2⟩
        refine ⟨_, rfl, _, rfl, _, _, rfl, rfl, cd _, _, rfl, _, rfl, _, _, rfl, rfl, cd _, (show 2 ≤ sizeLine by decide), fun p hp => ?_⟩
        dsimp only
        rw [m1, m2]
        exact k _ _ (Gw.new _ hp) ⟨⟨p, rfl, SqT.of upd_same⟩, hfit⟩
abbrev CLow (P : Program) (w : World) (K : PySem.W.Frag) (mg : Str → Option Value) (base : Heap) := Cal P w K mg base "_law_low" 1 ["one", "other"] (spLow K)
theorem den_pos' (a b : Rat) : (0 : Int) < (a.den : Int) * (b.den : Int) := by
  have h1 := a.den_pos
  have h2 := b.den_pos
  exact Int.mul_pos (by omega) (by omega)
theorem ok_lPlus {f : Addr} {fd : FuncData} (F : Fun K "_law_plus" "_law_plus" sLPlus f fd) (C : CLow P w K mg base) : FnOk P w K mg base CX0 2 f fd ["one", "other"] (sp2 K (· + ·)) := by
  refine F.ok scLPlus (fun vs H Q E h => ?_) (fun cdv A outer s H vs Q E hr h => ?_)
  · obtain ⟨x, y, a, b, rfl, _⟩ := h
    rfl
  · obtain ⟨x, y, a, b, rfl, ⟨⟨p, rfl, hp⟩, fa⟩, ⟨⟨q, rfl, hq⟩, fb⟩, hfit, k⟩ := h
    refine ⟨_, pss_one (ps_ret (pe_call C.ok hr rfl C.hm C.kp C.b .nil pass0 (pa_cons (pe_op op_add (pe_op op_mulW (pe_ix ix_tup (pv 0) pe_int (fun _ _ => rfl)) (pe_ix ix_tup (pv 1) pe_int (fun _ _ => rfl)))
      (pe_op op_mulW (pe_ix ix_tup (pv 1) pe_int (fun _ _ => rfl)) (pe_ix ix_tup (pv 0) pe_int (fun _ _ => rfl))))
      (pa_cons (pe_op op_mulW (pe_ix ix_tup (pv 0) pe_int (fun _ _ => rfl)) (pe_ix ix_tup (pv 1) pe_int (fun _ _ => rfl))) pa_nil)))), ?_⟩
    refine ⟨_, rfl, _, _, _, _, rfl, rfl, hp, atI_nat (j := 0) rfl, _, rfl, _, _, _, _, rfl, rfl, hq, atI_nat (j := 1) rfl, _, _, rfl, rfl, wide_nd fa fb,
      _, rfl, _, _, _, _, rfl, rfl, hq, atI_nat (j := 0) rfl, _, rfl, _, _, _, _, rfl, rfl, hp, atI_nat (j := 1) rfl, _, _, rfl, rfl, wide_nd fb fa, _, _, rfl, rfl,
      _, rfl, _, _, _, _, rfl, rfl, hp, atI_nat (j := 1) rfl, _, rfl, _, _, _, _, rfl, rfl, hq, atI_nat (j := 1) rfl, _, _, rfl, rfl, wide_dd fa fb,
      _, _, rfl, den_pos' a b, lt_1000 (wide_lt (Fit.den_lt fa) (Fit.den_lt fb)), (by rw [add_mk]; exact hfit), fun v H' g r => k v H' g ?_⟩
    rw [add_mk] at r
    exact r
theorem ok_lTimes {f : Addr} {fd : FuncData} (F : Fun K "_law_times" "_law_times" sLTimes f fd) (C : CLow P w K mg base) : FnOk P w K mg base CX0 2 f fd ["one", "other"] (sp2 K (· * ·)) := by
  refine F.ok scLTimes (fun vs H Q E h => ?_) (fun cdv A outer s H vs Q E hr h => ?_)
  · obtain ⟨x, y, a, b, rfl, _⟩ := h
    rfl
  · obtain ⟨x, y, a, b, rfl, ⟨⟨p, rfl, hp⟩, fa⟩, ⟨⟨q, rfl, hq⟩, fb⟩, hfit, k⟩ := h
    refine ⟨_, pss_one (ps_ret (pe_call C.ok hr rfl C.hm C.kp C.b .nil pass0 (pa_cons (pe_op op_mulW (pe_ix ix_tup (pv 0) pe_int (fun _ _ => rfl)) (pe_ix ix_tup (pv 1) pe_int (fun _ _ => rfl)))
      (pa_cons (pe_op op_mulW (pe_ix ix_tup (pv 0) pe_int (fun _ _ => rfl)) (pe_ix ix_tup (pv 1) pe_int (fun _ _ => rfl))) pa_nil)))), ?_⟩
    refine ⟨_, rfl, _, _, _, _, rfl, rfl, hp, atI_nat (j := 0) rfl, _, rfl, _, _, _, _, rfl, rfl, hq, atI_nat (j := 0) rfl, _, _, rfl, rfl, wide_nn fa fb,
      _, rfl, _, _, _, _, rfl, rfl, hp, atI_nat (j := 1) rfl, _, rfl, _, _, _, _, rfl, rfl, hq, atI_nat (j := 1) rfl, _, _, rfl, rfl, wide_dd fa fb,
      _, _, rfl, den_pos' a b, lt_1000 (wide_lt (Fit.den_lt fa) (Fit.den_lt fb)), (by rw [mul_mk]; exact hfit), fun v H' g r => k v H' g ?_⟩
    rw [mul_mk] at r
    exact r
theorem fit_negR {b : Rat} (h : Fit b) : Fit (-b) := ⟨by rw [Rat.neg_num]; have := h.1; omega, by rw [Rat.neg_den]; exact h.2⟩
theorem ok_lMinus {f : Addr} {fd : FuncData} (F : Fun K "_law_minus" "_law_minus" sLMinus f fd) (C : C2 P w K mg base "_law_plus" (· + ·)) : FnOk P w K mg base CX0 3 f fd ["one", "other"] (sp2 K (· - ·)) := by
  refine F.ok scLMinus (fun vs H Q E h => ?_) (fun cdv A outer s H vs Q E hr h => ?_)
  · obtain ⟨x, y, a, b, rfl, _⟩ := h
    rfl
  · obtain ⟨x, y, a, b, rfl, pa, ⟨⟨q, rfl, hq⟩, fb⟩, hfit, k⟩ := h
    refine ⟨_, pss_one (ps_ret (pe_call C.ok hr rfl C.hm C.kp C.b .nil pass0 (pa_cons (pv 0) (pa_cons (pe_tup (pa_cons (pe_op op_sub pe_int (pe_ix ix_tup (pv 1) pe_int (fun _ _ => rfl))) (pa_cons (pe_ix ix_tup (pv 1) pe_int (fun _ _ => rfl)) pa_nil))) pa_nil)))), ?_⟩
    refine ⟨_, rfl, _, rfl, _, _, _, _, rfl, rfl, hq, atI_nat (j := 0) rfl, _, _, rfl, rfl, _, rfl, _, _, _, _, rfl, rfl, hq, atI_nat (j := 1) rfl, (show 2 ≤ sizeLine by decide), fun p hp => ?_⟩
    dsimp only
    have gp := Gw.new (.tup [V.int (0 - b.num), V.int (b.den : Int)]) hp
    have e1 : a + (-b) = a - b := by rw [Rat.sub_eq_add_neg]
    refine ⟨_, _, a, -b, rfl, pa.gw gp, ⟨⟨p, rfl, ?_⟩, fit_negR fb⟩, by show Fit (a + -b); rw [e1]; exact hfit, fun v H' g r => k v H' (gp.trans g) ?_⟩
    · rw [Rat.neg_num, Rat.neg_den, ← Int.zero_sub]
      exact SqT.of upd_same
    · have r : PAt K H' v (a + -b) := r
      rw [e1] at r; exact r
theorem ok_lOver {f : Addr} {fd : FuncData} (F : Fun K "_law_over" "_law_over" sLOver f fd) (C : CLow P w K mg base) : FnOk P w K mg base CX0 2 f fd ["one", "other"] (sp2o K) := by
  refine F.ok scLOver (fun vs H Q E h => ?_) (fun cdv A outer s H vs Q E hr h => ?_)
  · obtain ⟨x, y, a, b, rfl, _⟩ := h
    rfl
  · obtain ⟨x, y, a, b, rfl, ⟨⟨p, rfl, hp⟩, fa⟩, ⟨⟨q, rfl, hq⟩, fb⟩, hb, hfit, k⟩ := h
    refine ⟨_, pss_one (ps_ret (pe_ifExp (pt_cmpR op_gt (pe_ix ix_tup (pv 1) pe_int (fun _ _ => rfl)) pe_int (nomark _))
      (pe_call C.ok hr rfl C.hm C.kp C.b .nil pass0 (pa_cons (pe_op op_mulW (pe_ix ix_tup (pv 0) pe_int (fun _ _ => rfl)) (pe_ix ix_tup (pv 1) pe_int (fun _ _ => rfl)))
        (pa_cons (pe_op op_mulW (pe_ix ix_tup (pv 0) pe_int (fun _ _ => rfl)) (pe_ix ix_tup (pv 1) pe_int (fun _ _ => rfl))) pa_nil)))
      (pe_call C.ok hr rfl C.hm C.kp C.b .nil pass0 (pa_cons (pe_op op_sub pe_int (pe_op op_mulW (pe_ix ix_tup (pv 0) pe_int (fun _ _ => rfl)) (pe_ix ix_tup (pv 1) pe_int (fun _ _ => rfl))))
        (pa_cons (pe_op op_sub pe_int (pe_op op_mulW (pe_ix ix_tup (pv 0) pe_int (fun _ _ => rfl)) (pe_ix ix_tup (pv 1) pe_int (fun _ _ => rfl)))) pa_nil))))), ?_⟩
    refine ⟨_, rfl, _, _, _, _, rfl, rfl, hq, atI_nat (j := 0) rfl, _, _, rfl, rfl, _, rfl, ?_⟩
    have nb := num_ne hb
    have dp := a.den_pos
    by_cases h : 0 < b.num
    · rw [decide_eq_true h]
      refine iteT ?_
      refine ⟨_, rfl, _, _, _, _, rfl, rfl, hp, atI_nat (j := 0) rfl, _, rfl, _, _, _, _, rfl, rfl, hq, atI_nat (j := 1) rfl, _, _, rfl, rfl, wide_nd fa fb,
        _, rfl, _, _, _, _, rfl, rfl, hp, atI_nat (j := 1) rfl, _, rfl, _, _, _, _, rfl, rfl, hq, atI_nat (j := 0) rfl, _, _, rfl, rfl, wide_dn fa fb,
        _, _, rfl, Int.mul_pos (by omega) h, lt_1000 (wide_lt (Fit.den_lt fa) (Fit.num_lt fb)), (by rw [div_mk]; exact hfit), fun v H' g r => k v H' g ?_⟩
      rw [div_mk] at r
      exact r
    · rw [decide_eq_false h]
      refine iteF ?_
      have e1 : Rat.divInt (0 - a.num * (b.den : Int)) (0 - (a.den : Int) * b.num) = a / b := by
        rw [Int.zero_sub, Int.zero_sub, Rat.neg_divInt_neg, div_mk]
      refine ⟨_, rfl, _, _, _, _, rfl, rfl, hp, atI_nat (j := 0) rfl, _, rfl, _, _, _, _, rfl, rfl, hq, atI_nat (j := 1) rfl, _, _, rfl, rfl, wide_nd fa fb, _, _, rfl, rfl,
        _, rfl, _, _, _, _, rfl, rfl, hp, atI_nat (j := 1) rfl, _, rfl, _, _, _, _, rfl, rfl, hq, atI_nat (j := 0) rfl, _, _, rfl, rfl, wide_dn fa fb, _, _, rfl, rfl,
        _, _, rfl, ?_, ?_, (by rw [e1]; exact hfit), fun v H' g r => k v H' g ?_⟩
      · have : 0 < (a.den : Int) * (-b.num) := Int.mul_pos (by omega) (by omega)
        rw [Int.mul_neg] at this
        omega
      · rw [Int.zero_sub, Int.natAbs_neg]
        exact lt_1000 (wide_lt (Fit.den_lt fa) (Fit.num_lt fb))
      · rw [e1] at r
        exact r
theorem ok_lLess {f : Addr} {fd : FuncData} (F : Fun K "_law_less" "_law_less" sLLess f fd) : FnOk P w K mg base CX0 1 f fd ["one", "other"] (spLess K) := by
  refine F.ok scLLess (fun vs H Q E h => ?_) (fun cdv A outer s H vs Q E hr h => ?_)
  · obtain ⟨x, y, a, b, rfl, _⟩ := h
    rfl
  · obtain ⟨x, y, a, b, rfl, ⟨⟨p, rfl, hp⟩, fa⟩, ⟨⟨q, rfl, hq⟩, fb⟩, k⟩ := h
    refine ⟨_, pss_one (ps_ret (pe_cmpR op_lt (pe_op op_mulW (pe_ix ix_tup (pv 0) pe_int (fun _ _ => rfl)) (pe_ix ix_tup (pv 1) pe_int (fun _ _ => rfl)))
      (pe_op op_mulW (pe_ix ix_tup (pv 1) pe_int (fun _ _ => rfl)) (pe_ix ix_tup (pv 0) pe_int (fun _ _ => rfl))) (nomark _))), ?_⟩
    refine ⟨_, rfl, _, _, _, _, rfl, rfl, hp, atI_nat (j := 0) rfl, _, rfl, _, _, _, _, rfl, rfl, hq, atI_nat (j := 1) rfl, _, _, rfl, rfl, wide_nd fa fb,
      _, rfl, _, _, _, _, rfl, rfl, hq, atI_nat (j := 0) rfl, _, rfl, _, _, _, _, rfl, rfl, hp, atI_nat (j := 1) rfl, _, _, rfl, rfl, wide_nd fb fa, _, _, rfl, rfl, ?_⟩
    dsimp only
    rw [show decide (a.num * (b.den : Int) < b.num * (a.den : Int)) = decide (a < b) from decide_eq_decide.mpr (Rat.lt_iff a b).symm]
    exact k
end
end K44


set_option Elab.async false
set_option linter.all false
set_option maxRecDepth 100000
set_option maxHeartbeats 4000000
set_option exponentiation.threshold 3000
/-! The law's draws. -/
namespace K44
open PySem L2
open LP (Fit lim S)
abbrev sLDraws : Stmt := top 73
def spDraws (K : PySem.W.Frag) : Sp := fun vs H Q _ => ∃ (a : Addr) (ns : List Int), vs = [.ref a] ∧ SqL K H a (ns.map V.int) ∧ ns.length ≤ 1000 ∧ ∀ (D : Addr) (H' : Hp), H D = none → Gw H (rm H' D) → Draws H' D → Q (.ref D) H'
/-- a list of at most N whole numbers at L, the rest grown -/
def Nums (H0 : Hp) (L : Addr) (N : Nat) (H : Hp) : Prop := ∃ ns : List Int, H L = some (.lst (ns.map V.int)) ∧ ns.length ≤ N ∧ Gw H0 (rm H L)
theorem Nums.app {H0 H : Hp} {L : Addr} {N : Nat} {ns : List Int} {z : Int} (h1 : H L = some (.lst (ns.map V.int))) (h2 : ns.length ≤ N) (h3 : Gw H0 (rm H L)) : Nums H0 L (N + 1) (upd H L (.lst (ns.map V.int ++ [V.int z]))) :=
  ⟨ns ++ [z], by rw [List.map_append]; exact upd_same, by rw [List.length_append]; exact Nat.add_le_add h2 (Nat.le_refl 1), by rw [rm_upd]; exact h3⟩
theorem Nums.mono {H0 H : Hp} {L : Addr} {N M : Nat} (h : Nums H0 L N H) (hm : N ≤ M) : Nums H0 L M H := let ⟨ns, a, b, c⟩ := h; ⟨ns, a, Nat.le_trans b hm, c⟩
section
variable {P : Program} {w : World} {K : PySem.W.Frag} {mg : Str → Option Value} {base : Heap}
theorem scLDraws : FnScope ["script", "draws", "cell", "number", "first", "k", "seed"] ["script"] (defScope sLDraws) := ⟨rfl, rfl, rfl, by decide +kernel, rfl, by decide +kernel, by decide +kernel⟩
theorem mulR {i j : Int} (h : -(2 ^ 64) < j ∧ j < 2 ^ 64) : CMul i j := .inr h
theorem ok_lDraws {f : Addr} {fd : FuncData} (F : Fun K "_law_draws" "_law_draws" sLDraws f fd) (T : Txt K mg) : FnOk P w K mg base CX0 1 f fd ["script"] (spDraws K) := by
  refine F.ok scLDraws (fun vs H Q E h => ?_) (fun cdv A outer s H vs Q E hr h => ?_)
  · obtain ⟨a, ns, rfl, _⟩ := h
    rfl
  · obtain ⟨a, ns, rfl, hs, hn, k⟩ := h
    refine ⟨_, pss_cons (ps_set (i := 1) scLDraws.nd rfl (Or.inl rfl) (pe_lst pa_nil))
      (pss_cons (ps_for PassesOwn.never rfl (pi_list (pv 0)) (pg_name (i := 2) scLDraws.nd rfl (Or.inl rfl))
        (pss_cons (ps_set (i := 3) scLDraws.nd rfl (Or.inl rfl) (pe_callB call_abs (by rfl) T.abs (by decide +kernel) (pa_cons (pv 2) pa_nil)))
        (pss_cons (ps_if (pt_cmpR op_lt (pv 3) (pe_op op_pow pe_int pe_int) (nomark _))
          (pss_cons (ps_set (i := 4) scLDraws.nd rfl (Or.inl rfl) (pe_op op_mod (pe_callTy call_int1 (by rfl) T.int (by decide +kernel) (pa_cons (pe_op op_add (pe_op op_mul (pv 3) pe_int) pe_int) pa_nil)) pe_int))
          (pss_cons (ps_expr (pe_bm PySem.F.plainAttrs_list PySem.F.slot_list_append PySem.F.type_list_append mt_append (pv 1) (pa_cons (pe_op op_mod (pe_callTy call_int1 (by rfl) T.int (by decide +kernel) (pa_cons (pe_op op_add (pe_op op_mul (pv 4) pe_int) (pv 3)) pa_nil)) pe_int) pa_nil)))
          (pss_cons (ps_expr (pe_bm PySem.F.plainAttrs_list PySem.F.slot_list_append PySem.F.type_list_append mt_append (pv 1) (pa_cons (pe_op op_mod (pe_callTy call_int1 (by rfl) T.int (by decide +kernel) (pa_cons (pe_op op_add (pv 4) (pe_op op_fdiv (pv 3) pe_int)) pa_nil)) pe_int) pa_nil)))
          (pss_one (ps_set (i := 3) scLDraws.nd rfl (Or.inl rfl) pe_int))))) pss_nil)
        (pss_one (ps_for PassesOwn.never rfl (pi_range1 rfl T.range (pa_cons pe_int pa_nil)) (pg_name (i := 5) scLDraws.nd rfl (Or.inl rfl))
          (pss_one (ps_if (pt_cmpR op_gt (pv 3) pe_int (nomark _))
            (pss_cons (ps_expr (pe_bm PySem.F.plainAttrs_list PySem.F.slot_list_append PySem.F.type_list_append mt_append (pv 1) (pa_cons (pe_op op_mod (pe_callTy call_int1 (by rfl) T.int (by decide +kernel) (pa_cons (pv 3) pa_nil)) pe_int) pa_nil)))
            (pss_one (ps_set (i := 3) scLDraws.nd rfl (Or.inl rfl) (pe_op op_fdiv (pv 3) pe_int)))) pss_nil)))))))
      (pss_cons (ps_set (i := 6) scLDraws.nd rfl (Or.inl rfl) pe_int)
      (pss_cons (ps_if (pt_cmpR op_gt (pe_callB (lenK K) (by rfl) T.len PySem.boot_len (pa_cons (pv 0) pa_nil)) pe_int (nomark _))
        (pss_one (ps_set (i := 6) scLDraws.nd rfl (Or.inl rfl) (pe_op op_add pe_int (pe_callB call_abs (by rfl) T.abs (by decide +kernel) (pa_cons (pe_ix (ixL K) (pv 0) pe_int (fun _ _ => rfl)) pa_nil))))) pss_nil)
      (pss_cons (ps_for PassesOwn.never rfl (pi_range1 rfl T.range (pa_cons pe_int pa_nil)) (pg_name (i := 5) scLDraws.nd rfl (Or.inl rfl))
        (pss_cons (ps_set (i := 6) scLDraws.nd rfl (Or.inl rfl) (pe_op op_mod (pe_callTy call_int1 (by rfl) T.int (by decide +kernel) (pa_cons (pe_op op_add (pe_op op_mul (pv 6) pe_int) pe_int) pa_nil)) pe_int))
        (pss_one (ps_expr (pe_bm PySem.F.plainAttrs_list PySem.F.slot_list_append PySem.F.type_list_append mt_append (pv 1) (pa_cons (pe_op op_fdiv (pv 6) pe_int) pa_nil))))))
      (pss_one (ps_ret (LRev.pe_lstRev rfl rfl T.list rfl T.rev (pv 1)))))))), ?_⟩
    have szl : ∀ n : Nat, n ≤ 100000 → n < sizeLine := fun n h => Nat.lt_of_le_of_lt h (by decide)
    refine ⟨(show 0 ≤ sizeLine by decide), fun L hL => ?_⟩
    have n0 : Nums H L 0 (upd H L (.lst [])) := ⟨[], upd_same, Nat.le_refl _, by rw [rm_upd, rm_none hL]; exact Gw.refl _⟩
    refine ⟨_, rfl, a, rfl, ⟨_, (Gw.new _ hL).sqL hs⟩, ?_⟩
    refine for_it (walk_listY (K := K) (List.length_map (as := ns) V.int)) (fun i σ H' => Nums H L (62 * i) H' ∧ ∃ u2 u3 u4 u5 u6, σ = [some (.ref a), some (.ref L), u2, u3, u4, u5, u6])
      ⟨n0, none, none, none, none, none, rfl⟩ (fun i σ H' _ h => let ⟨_, _, _, g⟩ := h.1; (g.trans Gw.rm_le).sqL hs) ?_ ?_
    · rintro i x σ H1 H' hi ⟨⟨ms, m1, m2, m3⟩, u2, u3, u4, u5, u6, rfl⟩ ⟨rfl, hx⟩
      obtain ⟨z, rfl⟩ : ∃ z, x = V.int z := by
        rw [List.getElem?_map] at hx
        cases e : ns[i]? with
        | none => rw [e] at hx; cases hx
        | some z => rw [e] at hx; exact ⟨z, (Option.some.inj hx).symm⟩
      refine ⟨_, rfl, _, rfl, _, rfl, _, _, rfl, rfl, (show CPow 10 18 from ⟨by decide, by decide, by decide⟩), _, _, rfl, rfl, _, rfl, ?_⟩
      generalize (if z < 0 then -z else z) = nz
      by_cases hb : nz < 10 ^ 18
      case' pos =>
        rw [decide_eq_true (show nz < (10 : Int) ^ (18 : Int).toNat from hb)]
        refine iteT ?_
        refine ⟨_, rfl, _, _, rfl, rfl, mulR (by decide), _, _, rfl, rfl, .inl ⟨_, rfl, _, _, rfl, rfl, (show (0 : Int) < 2147483647 by decide), ?_⟩⟩
        refine ⟨_, rfl, .inl ⟨rfl, _, SqL.of m1⟩, _, rfl, _, _, rfl, rfl, mulR (by decide), _, rfl, _, _, rfl, rfl, .inl ⟨_, rfl, _, _, rfl, rfl, (show (0 : Int) < 2147483629 by decide), L, _, _, rfl, rfl, m1, szl _ (by rw [List.length_map]; omega), ?_⟩⟩
        obtain ⟨ms', m1', m2', m3'⟩ := Nums.app m1 m2 m3
        refine ⟨_, rfl, .inl ⟨rfl, _, SqL.of m1'⟩, _, rfl, _, rfl, _, _, rfl, rfl, ⟨by decide, by decide⟩, _, _, rfl, rfl, .inl ⟨_, rfl, _, _, rfl, rfl, (show (0 : Int) < 1000003 by decide), L, _, _, rfl, rfl, m1', szl _ (by rw [List.length_map]; omega), ?_⟩⟩
        have nm := Nums.app (z := ((nz * 48271 + 11) % 2147483647 + nz / 7) % 1000003) m1' m2' m3'
      case' neg =>
        rw [decide_eq_false (show ¬ nz < (10 : Int) ^ (18 : Int).toNat from hb)]
        refine iteF ?_
        have nm : Nums H L (62 * i + 2) _ := Nums.mono ⟨ms, m1, m2, m3⟩ (by omega)
      all_goals
        refine ⟨60, rfl, by decide, by decide, ?_⟩
        refine for_it (walk_rangeN (N := 60) rfl) (fun j σ H' => Nums H L (62 * i + 2 + j) H' ∧ ∃ u2 nz u4 u5 u6, σ = [some (.ref a), some (.ref L), u2, some (.int nz), u4, u5, u6])
          ⟨nm, _, _, _, _, _, rfl⟩ (fun _ _ _ _ _ => True.intro) ?_ (fun σ H' ⟨h, u2, nz, u4, u5, u6, e⟩ => ⟨h.mono (by omega), u2, _, u4, u5, u6, e⟩)
        rintro j y σ H2 H3 hj ⟨⟨ms, m1, m2, m3⟩, u2, nz, u4, u5, u6, rfl⟩ ⟨rfl, rfl⟩
        refine ⟨_, rfl, _, _, rfl, rfl, _, rfl, ?_⟩
        by_cases h : 0 < nz
        · rw [decide_eq_true h]
          refine iteT ?_
          refine ⟨_, rfl, .inl ⟨rfl, _, SqL.of m1⟩, _, rfl, .inl ⟨_, rfl, _, _, rfl, rfl, (show (0 : Int) < 997 by decide), L, _, _, rfl, rfl, m1, szl _ (by rw [List.length_map]; omega), ?_⟩⟩
          exact ⟨_, rfl, _, _, rfl, rfl, ⟨by decide, by decide⟩, Nums.app m1 m2 m3, _, _, _, _, _, rfl⟩
        · rw [decide_eq_false h]
          exact iteF ⟨Nums.mono ⟨ms, m1, m2, m3⟩ (by omega), _, _, _, _, _, rfl⟩
    · rintro σ H1 ⟨nm, u2, u3, u4, u5, u6, rfl⟩
      obtain ⟨ms, m1, m2, m3⟩ := id nm
      have g3 := m3.trans Gw.rm_le
      refine ⟨_, rfl, a, _, rfl, .inl (g3.sqL hs), _, _, rfl, rfl, _, rfl, ?_⟩
      rw [List.length_map]
      by_cases h : 0 < ns.length
      case' pos =>
        rw [decide_eq_true (show (0 : Int) < ((ns.length : Nat) : Int) by omega)]
        refine iteT ?_
        have e0 : (ns.map V.int)[0]? = some (V.int ns[0]) := by rw [List.getElem?_map, List.getElem?_eq_getElem h]; rfl
        refine ⟨_, rfl, _, _, _, _, rfl, rfl, g3.sqL hs, atZ e0, _, rfl, _, _, rfl, rfl, ?_⟩
      case' neg =>
        rw [decide_eq_false (show ¬ (0 : Int) < ((ns.length : Nat) : Int) by omega)]
        refine iteF ?_
      all_goals
        refine ⟨900, rfl, by decide, by decide, ?_⟩
        refine for_it (walk_rangeN (N := 900) rfl) (fun j σ H' => Nums H L (62 * ns.length + j) H' ∧ ∃ u2 u3 u4 u5 sd, σ = [some (.ref a), some (.ref L), u2, u3, u4, u5, some (.int sd)])
          ⟨nm, _, _, _, _, _, rfl⟩ (fun _ _ _ _ _ => True.intro) ?_ ?_
        · rintro j y σ H2 H3 hj ⟨⟨ms, m1, m2, m3⟩, u2, u3, u4, u5, sd, rfl⟩ ⟨rfl, rfl⟩
          refine ⟨_, rfl, _, _, rfl, rfl, mulR (by decide), _, _, rfl, rfl, .inl ⟨_, rfl, _, _, rfl, rfl, (show (0 : Int) < 2147483647 by decide), ?_⟩⟩
          refine ⟨_, rfl, .inl ⟨rfl, _, SqL.of m1⟩, _, rfl, _, _, rfl, rfl, ⟨by decide, by decide⟩, L, _, _, rfl, rfl, m1, szl _ (by rw [List.length_map]; omega), ?_⟩
          exact ⟨Nums.app m1 m2 m3, _, _, _, _, _, rfl⟩
        · rintro σ H2 ⟨⟨ms, m1, m2, m3⟩, u2, u3, u4, u5, sd, rfl⟩
          refine ⟨_, rfl, L, _, rfl, SqL.of m1, fun q hq => ?_⟩
          have gq := m3.trans Gw.rm_le
          refine k q _ (gq.free hq) (by rw [rm_upd, rm_none hq]; exact gq) ⟨ms.reverse, by rw [List.map_reverse]; exact upd_same⟩
end
end K44


set_option Elab.async false
set_option linter.all false
set_option maxRecDepth 100000
set_option maxHeartbeats 4000000
set_option exponentiation.threshold 3000
/-! The market; node_of, children, prices_of, way_to. -/
namespace K44
open PySem L2
open LP (Fit lim S Tr)
abbrev natV (n : Nat) : V := .int (n : Nat)
def parV (T : Tr) (i : Nat) : V := if i = 0 then .non else .int (T.par i : Nat)
/-- the market at v -/
def MktAt (K : PySem.W.Frag) (H : Hp) (v : V) (T : Tr) : Prop := ∃ (a na nd : Addr) (vs : List V), v = .ref a ∧ SqT K H a [.ref na, .ref nd] ∧ SqT K H na [.str "coin", .str "oil"] ∧ SqT K H nd vs ∧ vs.length = T.N ∧ ∀ i, i < T.N → ∃ (t : Addr) (pt : V), vs[i]? = some (.ref t) ∧ SqT K H t [parV T i, pt] ∧ VT K H pt 2 (T.pr i)
theorem MktAt.gw {K : PySem.W.Frag} {H H' : Hp} {v : V} {T : Tr} (h : MktAt K H v T) (g : Gw H H') : MktAt K H' v T := by
  obtain ⟨a, na, nd, vs, e, h1, h2, h3, h4, h5⟩ := h
  exact ⟨a, na, nd, vs, e, g.sqT h1, g.sqT h2, g.sqT h3, h4, fun i hi => let ⟨t, pt, e, s, p⟩ := h5 i hi; ⟨t, pt, e, g.sqT s, p.gw g⟩⟩
abbrev sNodeOf : Stmt := top 35
abbrev sChildren : Stmt := top 36
abbrev sWayTo : Stmt := top 37
abbrev sPricesOf : Stmt := top 38
def spNodeOf (K : PySem.W.Frag) : Sp := fun vs H Q _ => ∃ (v : V) (T : Tr) (i : Nat), vs = [v, .int (i : Nat)] ∧ MktAt K H v T ∧ i < T.N ∧ ∀ (t : Addr) (pt : V), SqT K H t [parV T i, pt] → VT K H pt 2 (T.pr i) → Q (.ref t) H
def spPricesOf (K : PySem.W.Frag) : Sp := fun vs H Q _ => ∃ (v : V) (T : Tr) (i : Nat), vs = [v, .int (i : Nat)] ∧ MktAt K H v T ∧ i < T.N ∧ ∀ pt, VT K H pt 2 (T.pr i) → Q pt H
/-- a tuple, a list of numbers -/
def NatT (K : PySem.W.Frag) (H : Hp) (v : V) (l : List Nat) : Prop := ∃ a, v = .ref a ∧ SqT K H a (l.map natV)
theorem NatT.gw {K : PySem.W.Frag} {H H' : Hp} {v : V} {l : List Nat} (h : NatT K H v l) (g : Gw H H') : NatT K H' v l := let ⟨a, e, s⟩ := h; ⟨a, e, g.sqT s⟩
def spChildren (K : PySem.W.Frag) : Sp := fun vs H Q _ => ∃ (v : V) (T : Tr) (i : Nat), vs = [v, .int (i : Nat)] ∧ MktAt K H v T ∧ i < T.N ∧ T.N ≤ 12 ∧ Ans H (fun v H' => NatT K H' v (T.kids i)) Q
/-- the way up -/
def wayUp (T : Tr) : Nat → Nat → List Nat
  | 0, i => [i]
  | n + 1, i => if i = 0 then [0] else i :: wayUp T n (T.par i)
section
variable {P : Program} {w : World} {K : PySem.W.Frag} {mg : Str → Option Value} {base : Heap}
theorem scNodeOf : FnScope ["market", "node"] ["market", "node"] (defScope sNodeOf) := ⟨rfl, rfl, rfl, by decide +kernel, rfl, by decide +kernel, by decide +kernel⟩
theorem scPricesOf : FnScope ["market", "node"] ["market", "node"] (defScope sPricesOf) := ⟨rfl, rfl, rfl, by decide +kernel, rfl, by decide +kernel, by decide +kernel⟩
theorem scChildren : FnScope ["market", "node", "number", "one"] ["market", "node"] (defScope sChildren) := ⟨rfl, rfl, rfl, by decide +kernel, rfl, by decide +kernel, by decide +kernel⟩
theorem ok_nodeOf {f : Addr} {fd : FuncData} (F : Fun K "node_of" "node_of" sNodeOf f fd) (T : Txt K mg) (C : Cal P w K mg base "is_number" 1 ["value", "least", "most"] spIsNumber) : FnOk P w K mg base CX0 2 f fd ["market", "node"] (spNodeOf K) := by
  refine F.ok scNodeOf (fun vs H Q E h => ?_) (fun cdv A outer s H vs Q E hr h => ?_)
  · obtain ⟨v, T, i, rfl, _⟩ := h
    rfl
  · obtain ⟨v, M, i, rfl, ⟨a, na, nd, ns, rfl, h1, h2, h3, h4, h5⟩, hi, k⟩ := h
    refine ⟨_, pss_cons (ps_if (pt_not (pt_val (pe_call C.ok hr rfl C.hm C.kp C.b .nil pass0 (pa_cons (pv 1) (pa_cons pe_int (pa_cons (pe_op op_sub (pe_callB (lenK K) (by rfl) T.len PySem.boot_len (pa_cons (pe_ix (ixT K) (pv 0) pe_int (fun _ _ => rfl)) pa_nil)) pe_int) pa_nil)))))) (pss_one ps_never) pss_nil)
      (pss_one (ps_ret (pe_ix (ixT K) (pe_ix (ixT K) (pv 0) pe_int (fun _ _ => rfl)) (pv 1) (fun _ _ => rfl)))), ?_⟩
    have e1 : atI [V.ref na, V.ref nd] 1 = some (V.ref nd) := atI_nat (j := 1) rfl
    refine ⟨_, rfl, _, rfl, _, _, _, _, rfl, rfl, h1, e1, nd, ns, rfl, .inr h3, _, _, rfl, rfl, _, _, _, rfl, _, rfl, ?_⟩
    rw [decide_eq_true (show (0 : Int) ≤ (i : Nat) by omega), decide_eq_true (show ((i : Nat) : Int) ≤ (ns.length : Nat) - 1 by omega)]
    refine iteF ?_
    obtain ⟨t, pt, et, st, sp⟩ := h5 i hi
    exact ⟨_, rfl, _, _, _, _, rfl, rfl, h1, e1, _, rfl, _, _, _, _, rfl, rfl, h3, at_of rfl et, k t pt st sp⟩
theorem ok_pricesOf {f : Addr} {fd : FuncData} (F : Fun K "prices_of" "prices_of" sPricesOf f fd) (T : Txt K mg) (C : Cal P w K mg base "node_of" 2 ["market", "node"] (spNodeOf K)) : FnOk P w K mg base CX0 3 f fd ["market", "node"] (spPricesOf K) := by
  refine F.ok scPricesOf (fun vs H Q E h => ?_) (fun cdv A outer s H vs Q E hr h => ?_)
  · obtain ⟨v, T, i, rfl, _⟩ := h
    rfl
  · obtain ⟨v, M, i, rfl, hM, hi, k⟩ := h
    refine ⟨_, pss_one (ps_ret (pe_ix (ixT K) (pe_call C.ok hr rfl C.hm C.kp C.b .nil pass0 (pa_cons (pv 0) (pa_cons (pv 1) pa_nil))) pe_int (fun _ _ => rfl))), ?_⟩
    exact ⟨_, rfl, _, rfl, v, M, i, rfl, hM, hi, fun t pt st sp => ⟨_, _, _, _, rfl, rfl, st, atI_nat (j := 1) rfl, k pt sp⟩⟩
theorem kids_take {T : Tr} {i : Nat} (n : Nat) : ((List.range (n + 1)).filter fun j => decide (0 < j ∧ T.par j = i)) = ((List.range n).filter fun j => decide (0 < j ∧ T.par j = i)) ++ if 0 < n ∧ T.par n = i then [n] else [] := by
  rw [List.range_succ, List.filter_append]
  by_cases h : 0 < n ∧ T.par n = i
  · rw [if_pos h]; simp [h]
  · rw [if_neg h]; simp [h]
theorem ok_children {f : Addr} {fd : FuncData} (F : Fun K "children" "children" sChildren f fd) (T : Txt K mg) (C : Cal P w K mg base "node_of" 2 ["market", "node"] (spNodeOf K)) : FnOk P w K mg base CX0 3 f fd ["market", "node"] (spChildren K) := by
  refine F.ok scChildren (fun vs H Q E h => ?_) (fun cdv A outer s H vs Q E hr h => ?_)
  · obtain ⟨v, T, i, rfl, _⟩ := h
    rfl
  · obtain ⟨v, M, i, rfl, hM, hi, n12, k⟩ := h
    refine ⟨_, pss_cons (ps_expr (pe_call C.ok hr rfl C.hm C.kp C.b .nil pass0 (pa_cons (pv 0) (pa_cons (pv 1) pa_nil))))
      (pss_one (ps_ret (pe_callTy call_tuple_of (by rfl) T.tuple (by decide +kernel) (pa_cons
        (pe_lc (own := [("number", 2), ("one", 3)]) (g := gTup K 2 (gCons (gName 2) (gCons (gName 3) gNil))) rfl scChildren.nd (enumTK K rfl T.enum (pa_cons (pe_ix (ixT K) (pv 0) pe_int (fun _ _ => rfl)) pa_nil)) (blkOk_by (N := ["market", "node", "number", "one"]) (by kernel_rfl))
          (fun _ _ _ _ _ => pg_tup rfl (pgs_cons (pg_name (i := 2) scChildren.nd rfl (Or.inl rfl)) (pgs_cons (pg_name (i := 3) scChildren.nd rfl (Or.inl rfl)) pgs_nil)))
          (fun _ _ _ _ _ => pts_one (PW.pt (pw_and (pt_cmpR op_gt (pv 2) pe_int (nomark _)) (pw_and1 (pt_cmpR op_eq (pe_ix (ixT K) (pv 3) pe_int (fun _ _ => rfl)) (pv 1) (nomark _)))))) (fun _ _ _ _ _ => pv 2)) pa_nil)))), ?_⟩
    obtain ⟨a, na, nd, ns, rfl, h1, h2, h3, h4, h5⟩ := id hM
    refine ⟨_, rfl, _, rfl, _, M, i, rfl, hM, hi, fun t pt _ _ => ?_⟩
    have e1 : atI [V.ref na, V.ref nd] 1 = some (V.ref nd) := atI_nat (j := 1) rfl
    refine ⟨_, rfl, _, _, _, _, rfl, rfl, h1, e1, nd, ns, rfl, h3, fun D hD => ?_⟩
    refine lc_it (walk_enumT (K := K) (a := nd) (xs := ns) (n := M.N) h4) (fun j H' => H' D = some (.lst (((List.range j).filter fun j => decide (0 < j ∧ M.par j = i)).map natV)) ∧ Gw H (rm H' D))
      ⟨upd_same, by rw [rm_upd, rm_none hD]; exact Gw.refl _⟩ (fun j H' _ h => (h.2.trans Gw.rm_le).sqT h3) ?_ ?_
    · rintro j y H1 H2 hj ⟨d1, g1⟩ ⟨q, x, rfl, hq, rfl, hx⟩
      have gq := Gw.new (.tup [V.int (j : Nat), x]) hq
      obtain ⟨t, pt, et, st, sp⟩ := h5 j hj
      rw [hx] at et; cases et
      have g2 := g1.trans (Gw.rm_le.trans gq)
      have hl : (((List.range j).filter fun j => decide (0 < j ∧ M.par j = i)).map natV).length ≤ 12 := by
        rw [List.length_map]
        have := List.length_filter_le (fun j => decide (0 < j ∧ M.par j = i)) (List.range j)
        rw [List.length_range] at this
        omega
      have no : ¬ (0 < j ∧ M.par j = i) → upd H1 q (.tup [V.int (j : Nat), V.ref t]) D = some (.lst (((List.range (j + 1)).filter fun j => decide (0 < j ∧ M.par j = i)).map natV)) ∧ Gw H (rm (upd H1 q (.tup [V.int (j : Nat), V.ref t])) D) := fun z => by
        rw [kids_take, if_neg z, List.append_nil]
        exact ⟨gq.at d1, g1.trans gq.rm⟩
      refine ⟨q, _, rfl, SqT.of upd_same, rfl, _, _, rfl, _, _, rfl, rfl, rfl, ?_⟩
      refine ⟨_, rfl, _, _, rfl, rfl, _, rfl, ?_⟩
      by_cases hj0 : 0 < j
      · rw [decide_eq_true (show (0 : Int) < ((j : Nat) : Int) by omega)]
        have pj : parV M j = .int (M.par j : Nat) := if_neg (by omega)
        rw [pj] at st
        refine iteT ⟨_, rfl, _, _, _, _, rfl, rfl, g2.sqT st, atI_nat (j := 0) rfl, _, rfl, rfl, _, rfl, ?_⟩
        by_cases hp : M.par j = i
        · rw [decide_eq_true (show V.int ((M.par j : Nat) : Int) = V.int ((i : Nat) : Int) by rw [hp])]
          refine iteT ⟨_, rfl, _, gq.at d1, small1000 (by omega), ?_, ?_⟩
          · rw [kids_take, if_pos ⟨hj0, hp⟩, List.map_append]; exact upd_same
          · rw [rm_upd]; exact g1.trans gq.rm
        · rw [decide_eq_false (show ¬ V.int ((M.par j : Nat) : Int) = V.int ((i : Nat) : Int) from fun z => hp (by have := V.int.inj z; omega))]
          exact iteF (no fun z => hp z.2)
      · rw [decide_eq_false (show ¬ (0 : Int) < ((j : Nat) : Int) by omega)]
        exact iteF (iteF (no fun z => hj0 z.1))
    · rintro H1 ⟨d1, g1⟩
      refine ⟨D, _, rfl, .inl ⟨SqL.of d1, fun l hl => ?_⟩⟩
      exact k _ _ ((g1.trans Gw.rm_le).trans (Gw.new _ hl)) ⟨l, rfl, SqT.of upd_same⟩
end
end K44


set_option Elab.async false
set_option linter.all false
set_option maxRecDepth 100000
set_option maxHeartbeats 4000000
set_option exponentiation.threshold 3000
/-! brought, brought_at. -/
namespace K44
open PySem L2
open LP (Fit lim S Tr)
theorem slT {X : Cx} (K : PySem.W.Frag) (h : X.K = K := by rfl) : SlR X (rSlT K) := by subst h; exact sl_tup
theorem VT.rmD {K : PySem.W.Frag} {H : Hp} {D : Addr} {v : V} {n : Nat} {f : Nat → Rat} {ys : List V} (h : VT K H v n f) (hD : H D = some (.lst ys)) : VT K (rm H D) v n f := by
  obtain ⟨a, vs, e, s, l, i⟩ := h
  exact ⟨a, vs, e, sqT_rm s hD, l, fun j hj => let ⟨x, e, p⟩ := i j hj; ⟨x, e, p.rm hD⟩⟩
theorem siz_of {m : Nat} {col : Nat → Nat → Rat} {want c : Nat → Rat} {d : Rat} (sc : LP.Scl m col want d) (hc : ∀ j, j < m → LP.Wz (c j)) : Siz 2 m col want c (LP.Xz m) LP.Yz := by
  have c1 : ∀ j, j < m + 2 → LP.Wz (LP.w1 m j) := fun j _ => by
    unfold LP.w1; split
    · exact LP.Wz.zero
    · exact LP.Wz.m1
  have c2 : ∀ j, j < m + 2 → LP.Wz (LP.w2 m c j) := fun j _ => by
    unfold LP.w2; split
    · exact hc j (by assumption)
    · exact LP.Wz.zero
  have fa : ∀ w, (∀ j, j < m + 2 → LP.Wz (w j)) → FitAll 2 m (LP.mat 2 m col want) w := fun w hw s I h0 => by
    obtain ⟨D, dn⟩ := sc.den I h0
    exact ⟨⟨fun j hj => ⟨fun i hi => dn.prod I.bl hw hi hj, dn.fsum I.bl hw hj⟩, fun j hj => dn.fred I.bl hw hj⟩, fun i e hi he hp => dn.fit_ratio hi (by omega) (by grind) hi (Nat.le_refl _),
      fun r e hr he hne => ⟨fun j hj => dn.fit_ratio hr (by omega) hne hr hj, fun i j hi hj => dn.fit_piv hr (by omega) hne hi hj⟩⟩
  have fs : ∀ w, (∀ j, j < m + 2 → LP.Wz (w j)) → ∀ s, Good 2 m (LP.mat 2 m col want) s → FitS 2 m want w s := fun w hw s g k hk => by
    obtain ⟨D, dn⟩ := sc.den g.inv g.det
    have := dn.side g.inv.bl hw (fun k hk => (sc.wn k hk).1) hk
    exact ⟨this.1, this.2.1⟩
  refine ⟨by decide, sc.fit0, fa _ c1, fa _ c2, fs _ c1, fs _ c2, fun s g i e hi he => ?_, fun s g => ?_, fun s g => ?_⟩
  · obtain ⟨D, dn⟩ := sc.den g.inv g.det
    exact dn.fit_neg hi he
  · obtain ⟨D, dn⟩ := sc.den g.inv g.det
    exact dn.wt fun i k hi hk e => g.inv.inj hi hk e
  · obtain ⟨D, dn⟩ := sc.den g.inv g.det
    exact dn.sides g.inv.bl c2 fun k hk => (sc.wn k hk).1
/-- what is brought -/
structure BroOk (m : Nat) (col : Nat → Nat → Rat) (want c : Nat → Rat) (q : Rat) (x y : Nat → Rat) : Prop where
  leaf : m = 0 → q = 0 ∧ ∀ k, k < 2 → y k = 0
  sx : 0 < m → LP.Xz m x
  sy : 0 < m → LP.Yz y
  x0 : 0 < m → ∀ j, j < m → 0 ≤ x j
  xw : 0 < m → ∀ k, k < 2 → (S m fun j => x j * col j k) = want k
  yc : 0 < m → ∀ j, j < m → c j ≤ S 2 fun k => col j k * y k
  qx : 0 < m → (S m fun j => c j * x j) = q
  qy : 0 < m → (S 2 fun k => want k * y k) = q
theorem BroOk.val {m : Nat} {col : Nat → Nat → Rat} {want c : Nat → Rat} {q : Rat} {x y : Nat → Rat} (h : BroOk m col want c q x y) (hm : 0 < m) : LP.IsVal 2 m col want c q :=
  ⟨⟨x, h.x0 hm, h.xw hm, h.qx hm⟩, ⟨y, h.yc hm, h.qy hm⟩⟩
def BroR (K : PySem.W.Frag) (H : Hp) (v : V) (m : Nat) (col : Nat → Nat → Rat) (want c : Nat → Rat) : Prop := ∃ (a : Addr) (qv yv xv : V) (q : Rat) (x y : Nat → Rat), v = .ref a ∧ SqT K H a [qv, yv, xv] ∧ PAt K H qv q ∧ VT K H yv 2 y ∧ VT K H xv m x ∧ BroOk m col want c q x y
def spBrought (K : PySem.W.Frag) (t : Tabs) : Sp := fun vs H Q _ => ∃ (pv bv wv : V) (m : Nat) (col : Nat → Nat → Rat) (want c : Nat → Rat), vs = [pv, bv, wv] ∧ VT K H pv 2 want ∧ VTT K H bv m 2 col ∧ VT K H wv m c ∧ m ≤ 60 ∧ TabsOk t H ∧
  (0 < m → (∃ d, LP.Scl m col want d) ∧ (∀ j, j < m → LP.Wz (c j)) ∧ (∃ x : Nat → Rat, (∀ j, j < m → 0 ≤ x j) ∧ ∀ k, k < 2 → (S m fun j => x j * col j k) = want k) ∧ ∃ y, LP.Feasible 2 m col c y) ∧ Ans H (fun v H' => BroR K H' v m col want c) Q
def spBroughtAt (K : PySem.W.Frag) (t : Tabs) : Sp := fun vs H Q _ => ∃ (v wv : V) (T : Tr) (dep : Nat → Nat) (wt : Nat → Rat) (i : Nat) (c : Nat → Rat), vs = [v, .int (i : Nat), wv] ∧ MktAt K H v T ∧ T.Ok dep wt ∧ i < T.N ∧ VT K H wv (T.m i) c ∧ (∀ j, j < T.m i → LP.Wz (c j)) ∧ TabsOk t H ∧
  Ans H (fun v H' => BroR K H' v (T.m i) (T.col i) (T.pr i) c) Q
abbrev sBrought : Stmt := top 48
abbrev sBroughtAt : Stmt := top 49
section
variable {P : Program} {w : World} {K : PySem.W.Frag} {mg : Str → Option Value} {base : Heap}
theorem scBrought : FnScope ["prices", "below", "wanted", "told"] ["prices", "below", "wanted"] (defScope sBrought) := ⟨rfl, rfl, rfl, by decide +kernel, rfl, by decide +kernel, by decide +kernel⟩
theorem scBroughtAt : FnScope ["market", "node", "wanted", "below", "child"] ["market", "node", "wanted"] (defScope sBroughtAt) := ⟨rfl, rfl, rfl, by decide +kernel, rfl, by decide +kernel, by decide +kernel⟩
theorem ok_brought {t : Tabs} {f : Addr} {fd : FuncData} (F : Fun K "brought" "brought" sBrought f fd) (T : Txt K mg) (C : Cal P w K mg base "least" 8 ["rows", "right", "goal"] (spLeast K t)) : FnOk P w K mg base CX0 9 f fd ["prices", "below", "wanted"] (spBrought K t) := by
  refine F.ok scBrought (fun vs H Q E h => ?_) (fun cdv A outer s H vs Q E hr h => ?_)
  · obtain ⟨pv, bv, wv, m, col, want, c, rfl, _⟩ := h
    rfl
  · obtain ⟨pv', bv, wv, m, col, want, c, rfl, hp, hb, hw, hm, ht, ex, k⟩ := h
    obtain ⟨az, hz, zt⟩ := T.zero
    refine ⟨_, pss_cons (ps_if (pt_cmpR op_eq (pe_callB (lenK K) (by rfl) T.len PySem.boot_len (pa_cons (pv 1) pa_nil)) pe_int (nomark _))
        (pss_one (ps_ret (pe_tup (pa_cons (pe_glob (v := .ref az) rfl hz rfl) (pa_cons (pe_op (op_rep1 K) (pe_tup (pa_cons (pe_glob (v := .ref az) rfl hz rfl) pa_nil)) (pe_callB (lenK K) (by rfl) T.len PySem.boot_len (pa_cons (pv 0) pa_nil))) (pa_cons (pe_tup pa_nil) pa_nil)))))) pss_nil)
      (pss_cons (ps_set (i := 3) scBrought.nd rfl (Or.inl rfl) (pe_call C.ok hr rfl C.hm C.kp C.b .nil pass0 (pa_cons (pv 1) (pa_cons (pv 2) (pa_cons (pv 0) pa_nil)))))
      (pss_cons (ps_if (pt_cmpR op_ne (pe_ix (ixT K) (pv 3) pe_int (fun _ _ => rfl)) pe_str (nomark _)) (pss_one ps_never) pss_nil)
      (pss_one (ps_ret (pe_slice (slT K) (pv 3) (po_some pe_int) po_none))))), ?_⟩
    obtain ⟨ap, vp, rfl, hsp, lp, ip⟩ := id hp
    obtain ⟨ab, vb, rfl, hsb, lb, ib⟩ := id hb
    refine ⟨_, rfl, ab, _, rfl, .inr hsb, rfl, _, rfl, ?_⟩
    rw [lb]
    by_cases h0 : m = 0
    · rw [decide_eq_true (show V.int ((m : Nat) : Int) = V.int 0 by rw [h0]; rfl)]
      refine iteT ⟨(show 1 ≤ sizeLine by decide), fun q hq => ?_⟩
      have gq := Gw.new (.tup [.ref az]) hq
      refine ⟨_, rfl, ap, vp, rfl, .inr (gq.sqT hsp), q, _, [.ref az], rfl, rfl, SqT.of upd_same, List.cons_ne_nil _ _, by omega, by omega, (show 1 ≤ 1000 by decide), fun e => by omega, fun l hl => ?_⟩
      have hz0 : VT K (upd (upd H q (.tup [.ref az])) l (.tup (List.replicate ((vp.length : Nat) : Int).toNat [V.ref az]).flatten)) (.ref l) 2 fun _ => 0 := zeros_vt (zt _) (by
        rw [show ((vp.length : Nat) : Int).toNat = 2 by omega, flat1]; exact upd_same)
      have gl := Gw.new (.tup (List.replicate ((vp.length : Nat) : Int).toNat [V.ref az]).flatten) hl
      refine ⟨(show 0 ≤ sizeLine by decide), fun p1 e1 => ⟨(show 3 ≤ sizeLine by decide), fun p2 e2 => ?_⟩⟩
      have k1 := Gw.new (.tup []) e1
      have k2 := Gw.new (.tup [V.ref az, V.ref l, V.ref p1]) e2
      refine k _ _ (gq.trans (gl.trans (k1.trans k2))) ⟨p2, .ref az, .ref l, .ref p1, 0, fun _ => 0, fun _ => 0, rfl, SqT.of upd_same, ⟨⟨az, rfl, zt _⟩, fit_zero⟩, hz0.gw (k1.trans k2), ⟨p1, [], rfl, k2.sqT (SqT.of upd_same), by rw [h0]; rfl, fun i hi => by omega⟩, ⟨fun _ => ⟨rfl, fun _ _ => rfl⟩, ?_, ?_, ?_, ?_, ?_, ?_, ?_⟩⟩
      all_goals exact fun z => by omega
    · rw [decide_eq_false (show ¬ V.int ((m : Nat) : Int) = V.int 0 from fun z => h0 (by have := V.int.inj z; omega))]
      refine iteF ?_
      have hm0 : 0 < m := by omega
      obtain ⟨⟨d, sc⟩, wz, sh, fe⟩ := ex hm0
      refine ⟨_, rfl, _, rfl, _, rfl, _, _, _, m, 2, col, c, want, LP.Xz m, LP.Yz, rfl, ⟨hb, hw, hp, by decide, by omega, by decide⟩, hm, siz_of sc wz, ht, sh, fe, fun v1 H1 g1 r1 => ?_⟩
      obtain ⟨a, qv, xv, yv, q, x, y, rfl, hs, hq, hx, hy, sx, sy, x0, xw, yc, qx, qy⟩ := r1
      refine ⟨_, rfl, _, _, _, _, rfl, rfl, hs, atI_nat (j := 0) rfl, rfl, _, rfl, ?_⟩
      rw [decide_eq_true rfl]
      refine iteF ⟨_, rfl, 1, rfl, a, _, rfl, hs, (fun z => absurd (show HT.sIx 4 0 (some 1) = 0 from z.1) (by decide)), fun l hl => ?_⟩
      have gl := Gw.new (.tup [qv, yv, xv]) hl
      exact k _ _ (g1.trans gl) ⟨l, qv, yv, xv, q, x, y, rfl, SqT.of upd_same, hq.gw gl, hy.gw gl, hx.gw gl, ⟨fun z => by omega, fun _ => sx, fun _ => sy, fun _ => x0, fun _ => xw, fun _ => yc, fun _ => qx, fun _ => qy⟩⟩
/-- some places meet what is wanted -/
theorem feas_ex {T : Tr} {dep : Nat → Nat} {wt : Nat → Rat} (h : T.Ok dep wt) {i : Nat} (hi : i < T.N) (hm : 0 < T.m i) (c : Nat → Rat) : ∃ y, LP.Feasible 2 (T.m i) (T.col i) c y := by
  obtain ⟨s1, s2⟩ := h.shares hi hm
  obtain ⟨q, v⟩ := LP.val_ex (h.told hi) s1 s2 c
  obtain ⟨y, f, _⟩ := v.pl
  exact ⟨y, f⟩
theorem ok_broughtAt {t : Tabs} {f : Addr} {fd : FuncData} (F : Fun K "brought_at" "brought_at" sBroughtAt f fd) (T : Txt K mg) (C1 : Cal P w K mg base "children" 3 ["market", "node"] (spChildren K)) (C2' : Cal P w K mg base "prices_of" 3 ["market", "node"] (spPricesOf K))
    (C3 : Cal P w K mg base "brought" 9 ["prices", "below", "wanted"] (spBrought K t)) : FnOk P w K mg base CX0 10 f fd ["market", "node", "wanted"] (spBroughtAt K t) := by
  refine F.ok scBroughtAt (fun vs H Q E h => ?_) (fun cdv A outer s H vs Q E hr h => ?_)
  · obtain ⟨v, wv, T, dep, wt, i, c, rfl, _⟩ := h
    rfl
  · obtain ⟨v, wv, M, dep, wt, i, c, rfl, hM, ok, hi, hw, wz, ht, k⟩ := h
    refine ⟨_, pss_cons (ps_set (i := 3) scBroughtAt.nd rfl (Or.inl rfl) (pe_callTy call_tuple_of (by rfl) T.tuple (by decide +kernel) (pa_cons
        (pe_lc (own := [("child", 4)]) (g := gName 4) (tt := tYes) rfl scBroughtAt.nd (tupK K (pe_call C1.ok (hr.mono (by decide)) rfl C1.hm C1.kp C1.b .nil pass0 (pa_cons (pv 0) (pa_cons (pv 1) pa_nil)))) (blkOk_by (N := ["market", "node", "wanted", "below", "child"]) (by kernel_rfl))
          (fun _ _ _ _ _ => pg_name (i := 4) scBroughtAt.nd rfl (Or.inl rfl)) (fun _ _ _ _ _ => pts_nil) (fun _ _ _ _ _ => pe_call C2'.ok (hr.mono (by decide)) rfl C2'.hm C2'.kp C2'.b .nil pass0 (pa_cons (pv 0) (pa_cons (pv 4) pa_nil)))) pa_nil)))
      (pss_one (ps_ret (pe_call C3.ok hr rfl C3.hm C3.kp C3.b .nil pass0 (pa_cons (pe_call C2'.ok (hr.mono (by decide)) rfl C2'.hm C2'.kp C2'.b .nil pass0 (pa_cons (pv 0) (pa_cons (pv 1) pa_nil))) (pa_cons (pv 3) (pa_cons (pv 2) pa_nil)))))), ?_⟩
    refine ⟨_, rfl, _, rfl, _, M, i, rfl, hM, hi, ok.n12, fun v1 H1 g1 r1 => ?_⟩
    obtain ⟨a1, rfl, s1⟩ := r1
    have lk : ((M.kids i).map natV).length = M.m i := List.length_map ..
    have m4 := ok.m4 i
    refine ⟨a1, rfl, ⟨_, s1⟩, fun D hD => lc_grow (walk_tupY lk) hD (by omega) (fun j v H => VT K H v 2 (M.pr (M.kid i j))) (fun _ _ _ _ g r => r.gw g) (fun H' g => g.sqT s1) (fun j y H2' H2 hj _ g2 ⟨ws, hw'⟩ hY C9 hC9 => ?_) (fun H2 zs g2 _ hz lz iz => ?_)⟩
    · obtain ⟨rfl, hy⟩ := hY
      have ey : y = natV (M.kid i j) := by
        rw [List.getElem?_map, List.getElem?_eq_getElem hj] at hy
        have := Option.some.inj hy
        rw [← this]
        unfold Tr.kid
        rw [List.getD_eq_getElem?_getD, List.getElem?_eq_getElem hj]; rfl
      subst ey
      exact ⟨rfl, _, rfl, _, rfl, v, M, M.kid i j, rfl, hM.gw (g1.trans g2), (ok.kid hj).1, fun pt hpt => hC9 _ _ (Gw.refl _) (hpt.rmD hw')⟩
    · refine ⟨D, zs, rfl, .inl ⟨SqL.of hz, fun l hl => ?_⟩⟩
      have gl := Gw.new (.tup zs) hl
      have gg := g1.trans (g2.trans gl)
      refine ⟨_, rfl, _, rfl, v, M, i, rfl, hM.gw gg, hi, fun pt hpt => ⟨_, rfl, _, rfl, _, _, _, M.m i, M.col i, M.pr i, c, rfl, hpt, ⟨l, zs, rfl, SqT.of upd_same, lz, fun j hj => let ⟨y, e, r⟩ := iz j hj; ⟨y, e, (r.gw Gw.rm_le).gw gl⟩⟩, hw.gw gg, by omega, ht.gw gg, fun hm => ?_, fun v9 H9 g9 r9 => k _ _ (gg.trans g9) r9⟩⟩
      obtain ⟨s1, s2⟩ := ok.shares hi hm
      exact ⟨⟨_, ok.scl hi hm⟩, wz, ⟨_, s1, s2⟩, feas_ex ok hi hm c⟩
end
end K44


set_option Elab.async false
set_option linter.all false
set_option maxRecDepth 100000
set_option maxHeartbeats 4000000
set_option exponentiation.threshold 3000
/-! most_of, least_of; weights_at, sure_gain, check_gains. -/
namespace K44
open PySem L2
open LP (Fit lim S Tr)
def spWeightsAt (K : PySem.W.Frag) : Sp := fun vs H Q _ => ∃ (v : V) (T : Tr) (dep : Nat → Nat) (wt : Nat → Rat) (i : Nat), vs = [v, .int (i : Nat)] ∧ MktAt K H v T ∧ T.Ok dep wt ∧ i < T.N ∧ Ans H (fun v H' => ∃ (a : Addr) (x : V), v = .ref a ∧ SqT K H' a [x, .non]) Q
def spGain (K : PySem.W.Frag) : Sp := fun vs H Q _ => ∃ (v : V) (T : Tr) (dep : Nat → Nat) (wt : Nat → Rat), vs = [v] ∧ MktAt K H v T ∧ T.Ok dep wt ∧ Ans H (fun v _ => v = .non) Q
abbrev sWeightsAt : Stmt := top 51
abbrev sSureGain : Stmt := top 52
abbrev sCheckGains : Stmt := top 55
theorem BEn_pow {k : Nat} (h : k ≤ 4) : LP.BEn ^ k ≤ 10 ^ 47 := by
  have : k = 0 ∨ k = 1 ∨ k = 2 ∨ k = 3 ∨ k = 4 := by omega
  rcases this with rfl | rfl | rfl | rfl | rfl <;> decide +kernel
/-- sums of weights of several answers -/
theorem sums_hd {m : Nat} {X : Nat → Nat → Rat} {j : Nat} (hj : j < m) : ∀ k, (∀ p, p < k → LP.Xz m (X p)) → ∃ E, LP.IsI E ∧ E ≠ 0 ∧ LP.Bd (LP.BEn ^ k) E ∧ LP.Hd E ((k : Rat) * LP.BEn ^ k) (S k fun p => X p j)
  | 0, _ => ⟨1, LP.isI_one, by decide, by rw [Rat.pow_zero]; constructor <;> decide, by
    show LP.Hd 1 _ 0
    exact LP.Hd.zero (by rw [show ((0 : Nat) : Rat) = 0 from rfl, Rat.zero_mul]; exact Rat.le_refl)⟩
  | k + 1, h => by
    obtain ⟨E, e1, e2, e3, e4⟩ := sums_hd hj k fun p hp => h p (by omega)
    obtain ⟨D, d1, d2, d3, d4⟩ := h k (Nat.lt_succ_self k)
    have d3 : LP.Bd LP.BEn D := LP.bd_mono LP.BDn_le d3
    refine ⟨E * D, e1.mul d1, by grind, by rw [Rat.pow_succ]; exact LP.bd_mul e3 d3, ?_⟩
    have a := e4.scale' (D := E) (E := D) d1 d3
    have b := (d4 j hj).scale (D := D) (E := E) e1 e3
    have c := a.add b
    refine c.mono ?_
    rw [Rat.pow_succ, Rat.natCast_add]
    have : ((1 : Nat) : Rat) = 1 := rfl
    rw [this]
    grind
theorem sums_fit {m : Nat} {X : Nat → Nat → Rat} {j : Nat} (hj : j < m) {k : Nat} (hk : k ≤ 4) (h : ∀ p, p < k → LP.Xz m (X p)) (m4 : m ≤ 4) : Fit (S k fun p => X p j) ∧ Fit (1 / (m : Rat) * S k fun p => X p j) := by
  obtain ⟨E, e1, e2, e3, e4⟩ := sums_hd hj k h
  have b := BEn_pow hk
  have kb : (k : Rat) * LP.BEn ^ k ≤ 4 * 10 ^ 47 := by
    have k4 : (k : Rat) ≤ ((4 : Nat) : Rat) := Rat.natCast_le_natCast.mpr hk
    have k0 : (0 : Rat) ≤ (k : Rat) := by
      have := Rat.natCast_le_natCast.mpr (Nat.zero_le k)
      simpa using this
    have h1 := Rat.mul_le_mul_of_nonneg_left b k0
    have h2 := Rat.mul_le_mul_of_nonneg_right k4 (show (0 : Rat) ≤ 10 ^ 47 by decide +kernel)
    have : ((4 : Nat) : Rat) = 4 := rfl
    rw [this] at h2
    exact Rat.le_trans h1 h2
  refine ⟨LP.fitH e1 e2 e3 (Rat.le_trans b (by decide +kernel)) (Rat.le_trans kb (by decide +kernel)) e4, ?_⟩
  have hm0 : (m : Rat) ≠ 0 := fun z => by
    have : m ≠ 0 := by omega
    exact this (by exact_mod_cast Rat.natCast_inj.mp (z.trans (show (0 : Rat) = ((0 : Nat) : Rat) from rfl)))
  have mI : LP.IsI (m : Rat) := LP.isI_nat m
  have mB : LP.Bd (4 : Rat) (m : Rat) := LP.bd_nat (B := 4) m4
  refine LP.fitH (D := (m : Rat) * E) (K := 4 * 10 ^ 47) (mI.mul e1) (by grind) (LP.bd_mul mB e3) (Rat.le_trans (Rat.mul_le_mul_of_nonneg_left b (by decide)) (by decide +kernel)) (by decide +kernel) ?_
  have : (m : Rat) * E * (1 / (m : Rat) * S k fun p => X p j) = E * S k fun p => X p j := by
    have : (m : Rat) * (1 / (m : Rat)) = 1 := by rw [Rat.mul_comm]; exact Rat.div_mul_cancel hm0
    grind
  unfold LP.Hd
  rw [this]
  exact ⟨e4.1, LP.bd_mono kb e4.2⟩
theorem part1 {K : PySem.W.Frag} {H : Hp} {t : Addr} {m : Nat} (hm : 0 < m) (h4 : m ≤ 4) (h : H t = some (.tup [.int 1, .int (m : Nat)])) : PAt K H (.ref t) (1 / (m : Rat)) := by
  have e : (1 / (m : Rat)).num = 1 ∧ (1 / (m : Rat)).den = m := by
    have : m = 1 ∨ m = 2 ∨ m = 3 ∨ m = 4 := by omega
    rcases this with rfl | rfl | rfl | rfl <;> decide +kernel
  refine ⟨⟨t, rfl, by rw [e.1, e.2]; exact SqT.of h⟩, ⟨by rw [e.1]; decide +kernel, by rw [e.2]; exact Nat.le_trans h4 (by decide +kernel)⟩⟩
section
variable {P : Program} {w : World} {K : PySem.W.Frag} {mg : Str → Option Value} {base : Heap}
theorem scWeightsAt : FnScope ["market", "node", "rows", "child", "wanted", "found", "place", "worths", "other", "told", "share", "row"] ["market", "node"] (defScope sWeightsAt) := ⟨rfl, rfl, rfl, by decide +kernel, rfl, by decide +kernel, by decide +kernel⟩
theorem scSureGain : FnScope ["market", "node", "told"] ["market"] (defScope sSureGain) := ⟨rfl, rfl, rfl, by decide +kernel, rfl, by decide +kernel, by decide +kernel⟩
theorem scCheckGains : FnScope ["market"] ["market"] (defScope sCheckGains) := ⟨rfl, rfl, rfl, by decide +kernel, rfl, by decide +kernel, by decide +kernel⟩
abbrev nmWA : List Str := ["market", "node", "rows", "child", "wanted", "found", "place", "worths", "other", "told", "share", "row"]
theorem ok_weightsAt {f : Addr} {fd : FuncData} (F : Fun K "weights_at" "weights_at" sWeightsAt f fd) (T : Txt K mg) (C1 : Cal P w K mg base "children" 3 ["market", "node"] (spChildren K)) (C2' : Cal P w K mg base "prices_of" 3 ["market", "node"] (spPricesOf K))
    (C3 : Cal P w K mg base "most" 7 ["columns", "wanted", "worths"] (spMostL K)) (C4 : C2 P w K mg base "times" (· * ·)) (C5 : Cal P w K mg base "sum_of" 3 ["rows"] (spSumOf K)) : FnOk P w K mg base CX0 8 f fd ["market", "node"] (spWeightsAt K) := by
  refine F.ok scWeightsAt (fun vs H Q E h => ?_) (fun cdv A outer s H vs Q E hr h => ?_)
  · obtain ⟨v, T, dep, wt, i, rfl, _⟩ := h
    rfl
  · obtain ⟨v, M, dep, wt, i, rfl, hM, ok, hi, k⟩ := h
    obtain ⟨az, hz, zt⟩ := T.zero
    obtain ⟨ao, ho, ot⟩ := T.one
    refine ⟨_, pss_cons (ps_setLc (i := 2) (own := [("child", 3)]) (g := gName 3) (tt := tYes) rfl scWeightsAt.nd rfl rfl (sw_true rfl rfl rfl rfl) (tupK K (pe_call C1.ok (hr.mono (by decide)) rfl C1.hm C1.kp C1.b .nil pass0 (pa_cons (pv 0) (pa_cons (pv 1) pa_nil)))) (blkOk_by (N := nmWA) (by kernel_rfl))
          (fun _ _ _ _ _ => pg_name (i := 3) scWeightsAt.nd rfl (Or.inl rfl)) (fun _ _ _ _ _ => pts_nil) (fun _ _ _ _ _ => pe_call C2'.ok (hr.mono (by decide)) rfl C2'.hm C2'.kp C2'.b .nil pass0 (pa_cons (pv 0) (pa_cons (pv 3) pa_nil))))
      (pss_cons (ps_asg (pe_tup (pa_cons (pe_call C2'.ok (hr.mono (by decide)) rfl C2'.hm C2'.kp C2'.b .nil pass0 (pa_cons (pv 0) (pa_cons (pv 1) pa_nil))) (pa_cons (pe_lst pa_nil) pa_nil))) (pg_tup rfl (pgs_cons (pg_name (i := 4) scWeightsAt.nd rfl (Or.inl rfl)) (pgs_cons (pg_name (i := 5) scWeightsAt.nd rfl (Or.inr rfl)) pgs_nil))))
      (pss_cons (ps_if (pt_cmpR op_eq (pe_callB (lenK K) (by rfl) T.len PySem.boot_len (pa_cons (pv 2) pa_nil)) pe_int (nomark _)) (pss_one (ps_ret (pe_tup (pa_cons (pe_tup pa_nil) (pa_cons pe_non pa_nil))))) pss_nil)
      (pss_cons (ps_for PassesOwn.never rfl (pi_range1 rfl T.range (pa_cons (pe_callB (lenK K) (by rfl) T.len PySem.boot_len (pa_cons (pv 2) pa_nil)) pa_nil)) (pg_name (i := 6) scWeightsAt.nd rfl (Or.inr rfl))
        (pss_cons (ps_setLc (i := 7) (own := [("other", 8)]) (g := gName 8) (tt := tYes) rfl scWeightsAt.nd rfl rfl (sw_true rfl rfl rfl rfl) (pi_range1 rfl T.range (pa_cons (pe_callB (lenK K) (by rfl) T.len PySem.boot_len (pa_cons (pv 2) pa_nil)) pa_nil)) (blkOk_by (N := nmWA) (by kernel_rfl))
            (fun _ _ _ _ _ => pg_name (i := 8) scWeightsAt.nd rfl (Or.inl rfl)) (fun _ _ _ _ _ => pts_nil) (fun _ _ _ _ _ => pe_ifExp (pt_cmpR op_eq (pv 8) (pv 6) (nomark _)) (pe_glob (v := .ref ao) rfl ho rfl) (pe_glob (v := .ref az) rfl hz rfl)))
        (pss_cons (ps_set (i := 9) scWeightsAt.nd rfl (Or.inl rfl) (pe_call C3.ok hr rfl C3.hm C3.kp C3.b .nil pass0 (pa_cons (pv 2) (pa_cons (pv 4) (pa_cons (pv 7) pa_nil)))))
        (pss_cons (ps_if (pt_cmpR op_eq (pe_ix (ixT K) (pv 9) pe_int (fun _ _ => rfl)) pe_str (nomark _)) (pss_one ps_never) pss_nil)
        (pss_cons (ps_if (pt_cmpR (eqK K hr.units) (pe_ix (ixT K) (pv 9) pe_int (fun _ _ => rfl)) (pe_glob (v := .ref az) rfl hz rfl) (nomark _)) (pss_one ps_never) pss_nil)
        (pss_one (ps_expr (pe_bm PySem.F.plainAttrs_list PySem.F.slot_list_append PySem.F.type_list_append mt_append (pv 5) (pa_cons (pe_ix (ixT K) (pv 9) pe_int (fun _ _ => rfl)) pa_nil)))))))))
      (pss_cons (ps_set (i := 10) scWeightsAt.nd rfl (Or.inr rfl) (pe_tup (pa_cons pe_int (pa_cons (pe_callB (lenK K) (by rfl) T.len PySem.boot_len (pa_cons (pv 2) pa_nil)) pa_nil))))
      (pss_one (ps_ret (pe_tup (pa_cons (pe_callTy call_tuple_of (by rfl) T.tuple (by decide +kernel) (pa_cons
          (pe_lc (own := [("place", 6)]) (g := gName 6) (tt := tYes) rfl scWeightsAt.nd (pi_range1 rfl T.range (pa_cons (pe_callB (lenK K) (by rfl) T.len PySem.boot_len (pa_cons (pv 2) pa_nil)) pa_nil)) (blkOk_by (N := nmWA) (by kernel_rfl))
            (fun _ _ _ _ _ => pg_name (i := 6) scWeightsAt.nd rfl (Or.inr rfl)) (fun _ _ _ _ _ => pts_nil)
            (fun _ _ _ _ _ => pe_call C4.ok (hr.mono (by decide)) rfl C4.hm C4.kp C4.b .nil pass0 (pa_cons (pv 10) (pa_cons (pe_call C5.ok (hr.mono (by decide)) rfl C5.hm C5.kp C5.b .nil pass0 (pa_cons
              (pe_lc (own := [("row", 11)]) (g := gName 11) (tt := tYes) rfl scWeightsAt.nd (listK K (pv 5)) (blkOk_by (N := nmWA) (by kernel_rfl))
                (fun _ _ _ _ _ => pg_name (i := 11) scWeightsAt.nd rfl (Or.inl rfl)) (fun _ _ _ _ _ => pts_nil) (fun _ _ _ _ _ => pe_ix (ixT K) (pv 11) (pv 6) (fun _ _ => rfl))) pa_nil)) pa_nil)))) pa_nil)) (pa_cons pe_non pa_nil))))))))), ?_⟩
    refine ⟨_, rfl, _, rfl, _, M, i, rfl, hM, hi, ok.n12, fun v1 H1 g1 r1 => ?_⟩
    obtain ⟨a1, rfl, s1⟩ := r1
    have lk : ((M.kids i).map natV).length = M.m i := List.length_map ..
    have m4 := ok.m4 i
    refine ⟨a1, rfl, ⟨_, s1⟩, fun D hD => lc_grow (walk_tupY lk) hD (by omega) (fun j v H => VT K H v 2 (M.pr (M.kid i j))) (fun _ _ _ _ g r => r.gw g) (fun H' g => g.sqT s1) (fun j y H2' H2 hj _ g2 ⟨ws, hw'⟩ hY C9 hC9 => ?_) (fun H2 zs g2 _ hzs lz iz => ?_)⟩
    · obtain ⟨rfl, hy⟩ := hY
      have ey : y = natV (M.kid i j) := by
        rw [List.getElem?_map, List.getElem?_eq_getElem hj] at hy
        have := Option.some.inj hy
        rw [← this]
        unfold Tr.kid
        rw [List.getD_eq_getElem?_getD, List.getElem?_eq_getElem hj]; rfl
      subst ey
      exact ⟨rfl, _, rfl, _, rfl, v, M, M.kid i j, rfl, hM.gw (g1.trans g2), (ok.kid hj).1, fun pt hpt => hC9 _ _ (Gw.refl _) (hpt.rmD hw')⟩
    have gg := g1.trans g2
    have vlt : VLT K H2 (.ref D) (M.m i) 2 (M.col i) := ⟨D, zs, rfl, SqL.of hzs, lz, fun j hj => let ⟨y, e, r⟩ := iz j hj; ⟨y, e, r.gw Gw.rm_le⟩⟩
    refine ⟨_, rfl, _, rfl, v, M, i, rfl, hM.gw gg, hi, fun pt hpt => ⟨(show 0 ≤ sizeLine by decide), fun L hL => ⟨(show 2 ≤ sizeLine by decide), fun q0 hq0 => ?_⟩⟩⟩
    have gL := Gw.new (.lst []) hL
    have gq0 := Gw.new (.tup [pt, V.ref L]) hq0
    refine ⟨q0, _, rfl, SqT.of upd_same, rfl, _, _, rfl, _, _, rfl, rfl, ?_⟩
    refine ⟨_, rfl, D, zs, rfl, .inl ((gL.trans gq0).sqL (SqL.of hzs)), rfl, _, rfl, ?_⟩
    rw [lz]
    by_cases h0 : M.m i = 0
    · rw [decide_eq_true (show V.int ((M.m i : Nat) : Int) = V.int 0 by rw [h0]; rfl)]
      refine iteT ⟨(show 0 ≤ sizeLine by decide), fun p1 e1 => ⟨(show 2 ≤ sizeLine by decide), fun p2 e2 => ?_⟩⟩
      have k1 := Gw.new (.tup []) e1
      exact k _ _ ((gg.trans (gL.trans gq0)).trans (k1.trans (Gw.new _ e2))) ⟨p2, .ref p1, rfl, SqT.of upd_same⟩
    rw [decide_eq_false (show ¬ V.int ((M.m i : Nat) : Int) = V.int 0 from fun z => h0 (by have := V.int.inj z; omega))]
    refine iteF ?_
    have hm : 0 < M.m i := by omega
    have sc := ok.scl hi hm
    obtain ⟨sh1, sh2⟩ := ok.shares hi hm
    refine ⟨_, rfl, D, zs, rfl, .inl ((gL.trans gq0).sqL (SqL.of hzs)), ?_⟩
    rw [lz]
    refine ⟨_, rfl, (by omega), (by omega), ?_⟩
    -- the heap without found
    have b0 : Gw H2 (rm (upd (upd H2 L (.lst [])) q0 (.tup [pt, V.ref L])) L) := (gL.trans gq0).rm_free hL
    have x0L := gq0.at (o := .lst []) upd_same
    generalize upd (upd H2 L (.lst [])) q0 (.tup [pt, V.ref L]) = H3 at b0 x0L ⊢
    refine for_it (walk_rangeN (N := M.m i) (by omega)) (fun p σ H' => (∃ u6 u7 u9, σ = [some v, some (.int (i : Nat)), some (.ref D), none, some pt, some (.ref L), u6, u7, none, u9, none, none]) ∧ Gw H2 (rm H' L) ∧
        ∃ (xs : List V) (X : Nat → Nat → Rat), H' L = some (.lst xs) ∧ xs.length = p ∧ (∀ q, q < p → LP.Xz (M.m i) (X q)) ∧ ∀ q, q < p → ∃ y, xs[q]? = some y ∧ VT K (rm H' L) y (M.m i) (X q))
      ⟨⟨_, _, _, rfl⟩, b0, [], fun _ _ => 0, x0L, rfl, fun q hq => absurd hq (Nat.not_lt_zero _), fun q hq => absurd hq (Nat.not_lt_zero _)⟩ (fun _ _ _ _ _ => True.intro) ?_ ?_
    · rintro p y σ H4' H4 hp ⟨⟨u6, u7, u9, rfl⟩, g4, xs, X, x1, x2, x3, x4⟩ ⟨rfl, rfl⟩
      have g4' := g4.trans Gw.rm_le
      refine ⟨_, rfl, D, zs, rfl, .inl (g4'.sqL (SqL.of hzs)), ?_⟩
      rw [lz]
      refine ⟨_, rfl, (by omega), (by omega), fun D2 hD2 => lc_grow (walk_rangeN (N := M.m i) (by omega)) hD2 (by omega) (fun j v H => PAt K H v (if j = p then 1 else 0)) (fun _ _ _ _ g r => r.gw g) (fun _ _ => True.intro) (fun j y H5' H5 hj _ g5 ⟨ws, hw'⟩ hY C9 hC9 => ?_) (fun H5 ws g5 _ hws lw iw => ?_)⟩
      · obtain ⟨rfl, rfl⟩ := hY
        refine ⟨rfl, _, rfl, _, rfl, rfl, _, rfl, ?_⟩
        by_cases e : j = p
        · rw [decide_eq_true (show V.int ((j : Nat) : Int) = V.int ((p : Nat) : Int) by rw [e])]
          refine iteT (hC9 _ _ (Gw.refl _) ?_)
          rw [if_pos e]; exact ⟨⟨ao, rfl, ot _⟩, fit_one⟩
        · rw [decide_eq_false (show ¬ V.int ((j : Nat) : Int) = V.int ((p : Nat) : Int) from fun z => e (by have := V.int.inj z; omega))]
          refine iteF (hC9 _ _ (Gw.refl _) ?_)
          rw [if_neg e]; exact ⟨⟨az, rfl, zt _⟩, fit_zero⟩
      have g25 := g4'.trans g5
      refine ⟨_, rfl, _, rfl, _, rfl, _, _, _, 2, M.m i, M.col i, M.pr i, (fun j => if j = p then 1 else 0), LP.Xz (M.m i), LP.Yz, rfl, vlt.gw g25, hpt.gw g25, ⟨D2, ws, rfl, SqL.of hws, lw, fun j hj => let ⟨y, e, r⟩ := iw j hj; ⟨y, e, r.gw Gw.rm_le⟩⟩, by omega, siz_of sc (fun j _ => by
        split
        · exact LP.Wz.one
        · exact LP.Wz.zero), fun v6 H6 g6 r6 => ?_⟩
      cases r6 with
      | none e s hy h1 h2 => exact (LP.not_down sh1 sh2 h1 h2).elim
      | endless e s hx hd x0 xw d0 dw dc =>
        obtain ⟨y, hy⟩ := feas_ex ok hi hm (fun j => if j = p then 1 else 0)
        exact (LP.not_none hy d0 dw dc).elim
      | most e s hq hx hy sx sy x0 xw yc qx qy =>
        subst e
        rename_i am qv xv yv q x yy
        have qne : q ≠ 0 := by
          have h1 := LP.weak yc sh1 sh2
          rw [qy] at h1
          have h2 : (S (M.m i) fun j => (if j = p then (1 : Rat) else 0) * wt (M.kid i j)) = wt (M.kid i p) := by
            rw [LP.S_one hp]
            · rw [if_pos rfl, Rat.one_mul]
            · intro j _ hne
              rw [if_neg hne, Rat.zero_mul]
          rw [h2] at h1
          obtain ⟨ka, kb, _⟩ := ok.kid hp
          have := ok.wp _ kb ka
          grind
        refine ⟨_, rfl, _, _, _, _, rfl, rfl, s, atI_nat (j := 0) rfl, rfl, _, rfl, ?_⟩
        rw [decide_eq_false (fun z => by have := V.str.inj z; revert this; decide +kernel)]
        refine iteF ?_
        refine ⟨_, rfl, _, _, _, _, rfl, rfl, s, atI_nat (j := 1) rfl, _, _, hq.dp, (show PAt K H6 (.ref az) 0 from ⟨⟨az, rfl, zt _⟩, fit_zero⟩).dp, part_shaped _, part_shaped _, _, rfl, ?_⟩
        rw [part_eqv, decide_eq_false qne]
        refine iteF ?_
        have g46 := g5.trans g6
        have x16 := g46.at x1
        refine ⟨_, rfl, .inl ⟨rfl, xs, SqL.of x16⟩, _, rfl, _, _, _, _, rfl, rfl, s, atI_nat (j := 2) rfl, L, xs, xv, rfl, rfl, x16, small1000 (by omega), ⟨_, _, _, rfl⟩, ?_, xs ++ [xv], fun q => if q = p then x else X q, upd_same, by rw [List.length_append, x2]; rfl, fun q hq => ?_, fun q hq => ?_⟩
        · rw [rm_upd]; exact g4.trans g46.rm
        · by_cases e : q = p
          · simp only [e, if_true]; exact sx
          · simp only [e, if_false]; exact x3 q (by omega)
        · rw [rm_upd]
          by_cases e : q = p
          · subst e
            exact ⟨xv, by rw [List.getElem?_append_right (by omega), x2, Nat.sub_self]; rfl, by simp only [if_true]; exact hx.rmD x16⟩
          · obtain ⟨y, ey, vy⟩ := x4 q (by omega)
            exact ⟨y, by rw [List.getElem?_append_left (by omega)]; exact ey, by simp only [e, if_false]; exact vy.gw g46.rm⟩
    · rintro σ H4 ⟨⟨u6, u7, u9, rfl⟩, g4, xs, X, x1, x2, x3, x4⟩
      have g4' := g4.trans Gw.rm_le
      refine ⟨_, rfl, D, zs, rfl, .inl (g4'.sqL (SqL.of hzs)), (show 2 ≤ sizeLine by decide), fun t ht => ?_⟩
      rw [lz]
      have gt := Gw.new (.tup [V.int 1, V.int ((M.m i : Nat) : Int)]) ht
      have hsh := part1 (K := K) hm m4 (upd_same (H := H4) (a := t) (o := .tup [V.int 1, V.int ((M.m i : Nat) : Int)]))
      refine ⟨_, rfl, D, zs, rfl, .inl ((g4'.trans gt).sqL (SqL.of hzs)), ?_⟩
      rw [lz]
      have xL := gt.at x1
      refine ⟨_, rfl, (by omega), (by omega), fun D3 hD3 => lc_grow (walk_rangeN (N := M.m i) (by omega)) hD3 (by omega) (fun _ _ _ => True) (fun _ _ _ _ _ _ => True.intro) (fun _ _ => True.intro) (fun j y H5' H5 hj _ g5 ⟨ws, hw'⟩ hY C9 hC9 => ?_) (fun H5 ws g5 _ hws lw iw => ?_)⟩
      · obtain ⟨rfl, rfl⟩ := hY
        have xL5 := g5.at xL
        refine ⟨rfl, _, rfl, _, rfl, L, rfl, ⟨xs, SqL.of xL5⟩, fun D4 hD4 => lc_grow (walk_listY x2) hD4 (by omega) (fun q v H => PAt K H v (X q j)) (fun _ _ _ _ g r => r.gw g) (fun H' g => SqL.of (g.at xL5)) (fun q y H6' H6 hq _ g6 ⟨us, hu'⟩ hY C8 hC8 => ?_) (fun H6 us g6 _ hus lu iu => ?_)⟩
        · obtain ⟨rfl, hy⟩ := hY
          obtain ⟨y', ey, ⟨ay, vy, rfl, sy, ly, iy⟩⟩ := x4 q hq
          rw [hy] at ey; cases ey
          obtain ⟨yj, ej, pj⟩ := iy j hj
          have gy := (Gw.rm_le (H := H4) (D := L)).trans (gt.trans (g5.trans g6))
          exact ⟨rfl, _, rfl, _, rfl, _, _, _, _, rfl, rfl, gy.sqT sy, at_of rfl ej, hC8 _ _ (Gw.refl _) ((pj.gw gy).rm hu')⟩
        · have fs := fun kk (hk : kk ≤ M.m i) => sums_fit (X := X) hj (k := kk) (by omega) (fun q hq => x3 q (by omega)) m4
          refine ⟨_, M.m i, fun q => X q j, rfl, ⟨D4, us, rfl, SqL.of hus, lu, fun q hq => let ⟨y, e, r⟩ := iu q hq; ⟨y, e, r.gw Gw.rm_le⟩⟩, fun kk hk => (fs kk hk).1, fun v7 H7 g7 r7 => ?_⟩
          exact ⟨_, _, _, _, rfl, hsh.gw (g5.trans (g6.trans g7)), r7, (fs _ (Nat.le_refl _)).2, fun v8 H8 g8 _ => hC9 _ _ (g6.trans (g7.trans g8)) True.intro⟩
      · refine ⟨D3, ws, rfl, .inl ⟨SqL.of hws, fun l hl => ⟨(show 2 ≤ sizeLine by decide), fun p2 e2 => ?_⟩⟩⟩
        have gl := Gw.new (.tup ws) hl
        exact k _ _ (gg.trans (g4'.trans (gt.trans (g5.trans (gl.trans (Gw.new _ e2)))))) ⟨p2, .ref l, rfl, SqT.of upd_same⟩
theorem ok_sureGain {f : Addr} {fd : FuncData} (F : Fun K "sure_gain" "sure_gain" sSureGain f fd) (T : Txt K mg) (C : Cal P w K mg base "weights_at" 8 ["market", "node"] (spWeightsAt K)) : FnOk P w K mg base CX0 9 f fd ["market"] (spGain K) := by
  refine F.ok scSureGain (fun vs H Q E h => ?_) (fun cdv A outer s H vs Q E hr h => ?_)
  · obtain ⟨v, T, dep, wt, rfl, _⟩ := h
    rfl
  · obtain ⟨v, M, dep, wt, rfl, hM, ok, k⟩ := h
    refine ⟨_, pss_cons (ps_for PassesOwn.never rfl (pi_range1 rfl T.range (pa_cons (pe_callB (lenK K) (by rfl) T.len PySem.boot_len (pa_cons (pe_ix (ixT K) (pv 0) pe_int (fun _ _ => rfl)) pa_nil)) pa_nil)) (pg_name (i := 1) scSureGain.nd rfl (Or.inl rfl))
        (pss_cons (ps_set (i := 2) scSureGain.nd rfl (Or.inl rfl) (pe_ix (ixT K) (pe_call C.ok hr rfl C.hm C.kp C.b .nil pass0 (pa_cons (pv 0) (pa_cons (pv 1) pa_nil))) pe_int (fun _ _ => rfl)))
        (pss_one (ps_if (pt_cmp (pc_notN (pv 2))) (pss_one ps_never) pss_nil))))
      (pss_one (ps_ret pe_non)), ?_⟩
    obtain ⟨a, na, nd, ns, rfl, h1, h2, h3, h4, h5⟩ := id hM
    refine ⟨_, rfl, _, _, _, _, rfl, rfl, h1, atI_nat (j := 1) rfl, nd, ns, rfl, .inr h3, ?_⟩
    rw [h4]
    have n12 := ok.n12
    refine ⟨_, rfl, (by omega), (by omega), ?_⟩
    refine for_it (walk_rangeN (N := M.N) (by omega)) (fun i σ H' => (∃ u1 u2, σ = [some (.ref a), u1, u2]) ∧ Gw H H') ⟨⟨_, _, rfl⟩, Gw.refl _⟩ (fun _ _ _ _ _ => True.intro) ?_ ?_
    · rintro i y σ H1' H1 hi ⟨⟨u1, u2, rfl⟩, g1⟩ ⟨rfl, rfl⟩
      refine ⟨_, rfl, _, rfl, _, M, dep, wt, i, rfl, hM.gw g1, ok, hi, fun v2 H2 g2 ⟨a2, x2, e2, s2⟩ => ?_⟩
      subst e2
      exact ⟨_, _, _, _, rfl, rfl, s2, atI_nat (j := 1) rfl, _, rfl, _, rfl, iteF ⟨⟨_, _, rfl⟩, g1.trans g2⟩⟩
    · rintro σ H1 ⟨_, g1⟩
      exact k _ _ g1 rfl
theorem ok_checkGains {f : Addr} {fd : FuncData} (F : Fun K "check_gains" "check_gains" sCheckGains f fd) (T : Txt K mg) (C : Cal P w K mg base "sure_gain" 9 ["market"] (spGain K)) : FnOk P w K mg base CX0 10 f fd ["market"] (spGain K) := by
  refine F.ok scCheckGains (fun vs H Q E h => ?_) (fun cdv A outer s H vs Q E hr h => ?_)
  · obtain ⟨v, T, dep, wt, rfl, _⟩ := h
    rfl
  · obtain ⟨v, M, dep, wt, rfl, hM, ok, k⟩ := h
    refine ⟨_, pss_one (ps_if (pt_cmp (pc_notN (pe_call C.ok hr rfl C.hm C.kp C.b .nil pass0 (pa_cons (pv 0) pa_nil)))) (pss_one ps_never) pss_nil), ?_⟩
    refine ⟨_, rfl, _, M, dep, wt, rfl, hM, ok, fun v1 H1 g1 e => ?_⟩
    subst e
    exact ⟨_, rfl, iteF (k _ _ g1 rfl)⟩
end
end K44


set_option Elab.async false
set_option linter.all false
set_option maxRecDepth 100000
set_option maxHeartbeats 4000000
set_option exponentiation.threshold 3000
/-! least_of, most_of; takes, needed; costs. -/
namespace K44
open PySem L2
open LP (Fit lim S Tr)
abbrev sLeastOf : Stmt := top 23
abbrev sMostOf : Stmt := top 24
abbrev sTakes : Stmt := top 56
abbrev sNeeded : Stmt := top 57
abbrev sCostsOf : Stmt := top 58
abbrev sUncalled : Stmt := top 65
abbrev sCostsWith : Stmt := top 66
abbrev sDues : Stmt := top 68
abbrev sCostsFor : Stmt := top 71
/-- of a list of two -/
def spTwoOf (K : PySem.W.Frag) (f : Rat → Rat → Rat) : Sp := fun vs H Q _ => ∃ (l : Addr) (x y : V) (a b : Rat), vs = [.ref l] ∧ SqL K H l [x, y] ∧ PAt K H x a ∧ PAt K H y b ∧ Ans H (fun v H' => PAt K H' v (f a b)) Q
theorem sqT_rmK {K : PySem.W.Frag} {H : Hp} {D a : Addr} {xs : List V} {kvs : List (Key × V)} (h : SqT K H a xs) (hD : H D = some (.dK kvs)) : SqT K (rm H D) a xs := by
  have ne : ∀ o, H a = some o → (∀ l, o ≠ .dK l) → a ≠ D := fun o e n z => by
    rw [z, hD] at e
    exact n kvs (Option.some.inj e).symm
  rcases h with (h | ⟨o, h⟩) | h
  · exact .inl (.inl (by rw [rm_ne (ne _ h fun l z => by cases z)]; exact h))
  · exact .inl (.inr ⟨o, by rw [rm_ne (ne _ h fun l z => by cases z)]; exact h⟩)
  · exact .inr h
theorem PAt.rmK {K : PySem.W.Frag} {H : Hp} {D : Addr} {v : V} {q : Rat} {kvs : List (Key × V)} (h : PAt K H v q) (hD : H D = some (.dK kvs)) : PAt K (K44.rm H D) v q := by
  obtain ⟨⟨a, e, s⟩, f⟩ := h
  exact ⟨⟨a, e, sqT_rmK s hD⟩, f⟩
abbrev ky (j : Nat) : Key := Sum.inl ((j : Nat) : Int)
/-- costs from node lo on -/
def CostsAt (K : PySem.W.Frag) (H : Hp) (d : Addr) (N lo : Nat) (f : Nat → Rat) : Prop := ∃ kvs, H d = some (.dK kvs) ∧ kvs.length ≤ 100 ∧ ∀ j, lo ≤ j → j < N → ∃ x, valV kvs (ky j) = some x ∧ PAt K (rm H d) x (f j)
theorem CostsAt.gw {K : PySem.W.Frag} {H H' : Hp} {d : Addr} {N lo : Nat} {f : Nat → Rat} (h : CostsAt K H d N lo f) (g : Gw H H') : CostsAt K H' d N lo f :=
  let ⟨kvs, a, b, c⟩ := h; ⟨kvs, g.at a, b, fun j h1 h2 => let ⟨x, e, p⟩ := c j h1 h2; ⟨x, e, p.gw g.rm⟩⟩
theorem CostsAt.congr {K : PySem.W.Frag} {H : Hp} {d : Addr} {N lo : Nat} {f g : Nat → Rat} (h : CostsAt K H d N lo f) (e : ∀ j, lo ≤ j → j < N → f j = g j) : CostsAt K H d N lo g :=
  let ⟨kvs, a, b, c⟩ := h; ⟨kvs, a, b, fun j h1 h2 => by rw [← e j h1 h2]; exact c j h1 h2⟩
theorem CostsAt.mono {K : PySem.W.Frag} {H : Hp} {d : Addr} {N lo lo' : Nat} {f : Nat → Rat} (h : CostsAt K H d N lo f) (e : lo ≤ lo') : CostsAt K H d N lo' f :=
  let ⟨kvs, a, b, c⟩ := h; ⟨kvs, a, b, fun j h1 h2 => c j (by omega) h2⟩
theorem putK_le {kvs : List (Key × V)} {k : Key} {v : V} : (putK kvs k v).length ≤ kvs.length + 1 := by
  unfold putK
  split
  · rw [List.length_map]; omega
  · rw [List.length_append]; exact Nat.le_refl _
theorem ky_inj {i j : Nat} (h : ky i = ky j) : i = j := by
  have := Sum.inl.inj h
  omega
/-- one more -/
theorem cost_put {K : PySem.W.Frag} {H : Hp} {d : Addr} {N i : Nat} {f : Nat → Rat} {kvs : List (Key × V)} {x : V} (hk : H d = some (.dK kvs)) (hl : kvs.length ≤ 99) (c : ∀ j, i + 1 ≤ j → j < N → ∃ x, valV kvs (ky j) = some x ∧ PAt K (rm H d) x (f j)) (hx : PAt K H x (f i)) :
    CostsAt K (upd H d (.dK (putK kvs (ky i) x))) d N i f := by
  refine ⟨_, upd_same, Nat.le_trans putK_le (by omega), fun j h1 h2 => ?_⟩
  rw [rm_upd, valV_put]
  by_cases e : j = i
  · subst e
    rw [if_pos rfl]
    exact ⟨x, rfl, hx.rmK hk⟩
  · rw [if_neg (fun z => e (ky_inj z))]
    exact c j (by omega) h2
def spTakes (K : PySem.W.Frag) (t : Tabs) : Sp := fun vs H Q _ => ∃ (v wv : V) (T : Tr) (dep : Nat → Nat) (wt : Nat → Rat) (i : Nat) (f : Nat → Rat), vs = [v, .int (i : Nat), wv] ∧ MktAt K H v T ∧ T.Ok dep wt ∧ i < T.N ∧ VT K H wv (T.m i) (fun j => f (T.kid i j)) ∧ (∀ j, j < T.m i → LP.Wz (f (T.kid i j))) ∧ TabsOk t H ∧
  Ans H (fun v H' => PAt K H' v (LP.tkv T i f)) Q
def spNeeded (K : PySem.W.Frag) (t : Tabs) : Sp := fun vs H Q _ => ∃ (v : V) (d : Addr) (T : Tr) (dep : Nat → Nat) (wt : Nat → Rat) (i : Nat) (f : Nat → Rat), vs = [v, .int (i : Nat), .ref d] ∧ MktAt K H v T ∧ T.Ok dep wt ∧ i < T.N ∧ CostsAt K H d T.N (i + 1) f ∧ (∀ j, i < j → j < T.N → LP.Cz (dep j) (T.pr j 0) (f j)) ∧ TabsOk t H ∧
  Ans H (fun v H' => PAt K H' v (LP.tkv T i f)) Q
theorem BroR.tkv {T : Tr} {dep : Nat → Nat} {wt : Nat → Rat} (ok : T.Ok dep wt) {i : Nat} (hi : i < T.N) {c f : Nat → Rat} (hc : ∀ j, j < T.m i → c j = f (T.kid i j)) {q : Rat} {x y : Nat → Rat} (b : BroOk (T.m i) (T.col i) (T.pr i) c q x y) : q = LP.tkv T i f := by
  by_cases hm : T.m i = 0
  · rw [(b.leaf hm).1, LP.tkv_leaf ok hi hm]
  · exact (LP.tkv_eq ok hi (by omega) hc (b.val (by omega))).symm
section
variable {P : Program} {w : World} {K : PySem.W.Frag} {mg : Str → Option Value} {base : Heap}
theorem scLeastOf : FnScope ["rows", "found", "one"] ["rows"] (defScope sLeastOf) := ⟨rfl, rfl, rfl, by decide +kernel, rfl, by decide +kernel, by decide +kernel⟩
theorem scMostOf : FnScope ["rows", "found", "one"] ["rows"] (defScope sMostOf) := ⟨rfl, rfl, rfl, by decide +kernel, rfl, by decide +kernel, by decide +kernel⟩
theorem scTakes : FnScope ["market", "node", "parts"] ["market", "node", "parts"] (defScope sTakes) := ⟨rfl, rfl, rfl, by decide +kernel, rfl, by decide +kernel, by decide +kernel⟩
theorem scNeeded : FnScope ["market", "node", "costs", "child"] ["market", "node", "costs"] (defScope sNeeded) := ⟨rfl, rfl, rfl, by decide +kernel, rfl, by decide +kernel, by decide +kernel⟩
theorem cut1 (x y : V) : cutV [x, y] (some 1) none = [y] := rfl
theorem ok_leastOf {f : Addr} {fd : FuncData} (F : Fun K "least_of" "least_of" sLeastOf f fd) (T : Txt K mg) (C : CLess P w K mg base) : FnOk P w K mg base CX0 2 f fd ["rows"] (spTwoOf K LP.mn) := by
  refine F.ok scLeastOf (fun vs H Q E h => ?_) (fun cdv A outer s H vs Q E hr h => ?_)
  · obtain ⟨l, x, y, a, b, rfl, _⟩ := h
    rfl
  · obtain ⟨l, x, y, a, b, rfl, hl, ha, hb, k⟩ := h
    refine ⟨_, pss_cons (ps_set (i := 1) scLeastOf.nd rfl (Or.inl rfl) (pe_ix (ixL K) (pv 0) pe_int (fun _ _ => rfl)))
      (pss_cons (ps_for PassesOwn.never rfl (pi_list (pe_slice (slL K) (pv 0) (po_some pe_int) po_none)) (pg_name (i := 2) scLeastOf.nd rfl (Or.inl rfl))
        (pss_one (ps_set (i := 1) scLeastOf.nd rfl (Or.inl rfl) (pe_ifExp (pt_val (pe_call C.ok hr rfl C.hm C.kp C.b .nil pass0 (pa_cons (pv 2) (pa_cons (pv 1) pa_nil)))) (pv 2) (pv 1)))))
      (pss_one (ps_ret (pv 1)))), ?_⟩
    refine ⟨_, rfl, _, _, _, _, rfl, rfl, hl, atI_nat (j := 0) rfl, _, rfl, 1, rfl, l, _, rfl, hl, fun p hp => ⟨p, rfl, ⟨_, SqL.of upd_same⟩, ?_⟩⟩
    rw [cut1]
    have gp := Gw.new (.lst [y]) hp
    refine for_it (walk_listY (K := K) (xs := [y]) (n := 1) rfl) (fun i σ H' => H' = upd H p (.lst [y]) ∧ ∃ v u2, σ = [some (.ref l), some v, u2] ∧ PAt K H' v (if i = 0 then a else LP.mn a b)) ⟨rfl, x, none, rfl, ha.gw gp⟩ (fun i σ H' _ h => by rw [h.1]; exact SqL.of upd_same) ?_ ?_
    · rintro i z σ H1' H1 hi ⟨e0, v, u2, rfl, pv'⟩ ⟨rfl, hz⟩
      subst e0
      have : i = 0 := by omega
      subst this
      cases hz
      rw [if_pos rfl] at pv'
      refine ⟨_, rfl, _, rfl, _, _, b, a, rfl, hb.gw gp, pv', _, rfl, ?_⟩
      rw [if_neg (show ¬ (0 + 1 = 0) by omega)]
      unfold LP.mn
      by_cases h : b < a
      · rw [decide_eq_true h, if_pos h]
        exact iteT ⟨_, rfl, rfl, _, _, rfl, hb.gw gp⟩
      · rw [decide_eq_false h, if_neg h]
        exact iteF ⟨_, rfl, rfl, _, _, rfl, pv'⟩
    · rintro σ H1 ⟨rfl, v, u2, rfl, pv'⟩
      exact ⟨_, rfl, k _ _ gp pv'⟩
theorem ok_mostOf {f : Addr} {fd : FuncData} (F : Fun K "most_of" "most_of" sMostOf f fd) (T : Txt K mg) (C : CLess P w K mg base) : FnOk P w K mg base CX0 2 f fd ["rows"] (spTwoOf K LP.mx) := by
  refine F.ok scMostOf (fun vs H Q E h => ?_) (fun cdv A outer s H vs Q E hr h => ?_)
  · obtain ⟨l, x, y, a, b, rfl, _⟩ := h
    rfl
  · obtain ⟨l, x, y, a, b, rfl, hl, ha, hb, k⟩ := h
    refine ⟨_, pss_cons (ps_set (i := 1) scMostOf.nd rfl (Or.inl rfl) (pe_ix (ixL K) (pv 0) pe_int (fun _ _ => rfl)))
      (pss_cons (ps_for PassesOwn.never rfl (pi_list (pe_slice (slL K) (pv 0) (po_some pe_int) po_none)) (pg_name (i := 2) scMostOf.nd rfl (Or.inl rfl))
        (pss_one (ps_set (i := 1) scMostOf.nd rfl (Or.inl rfl) (pe_ifExp (pt_val (pe_call C.ok hr rfl C.hm C.kp C.b .nil pass0 (pa_cons (pv 1) (pa_cons (pv 2) pa_nil)))) (pv 2) (pv 1)))))
      (pss_one (ps_ret (pv 1)))), ?_⟩
    refine ⟨_, rfl, _, _, _, _, rfl, rfl, hl, atI_nat (j := 0) rfl, _, rfl, 1, rfl, l, _, rfl, hl, fun p hp => ⟨p, rfl, ⟨_, SqL.of upd_same⟩, ?_⟩⟩
    rw [cut1]
    have gp := Gw.new (.lst [y]) hp
    refine for_it (walk_listY (K := K) (xs := [y]) (n := 1) rfl) (fun i σ H' => H' = upd H p (.lst [y]) ∧ ∃ v u2, σ = [some (.ref l), some v, u2] ∧ PAt K H' v (if i = 0 then a else LP.mx a b)) ⟨rfl, x, none, rfl, ha.gw gp⟩ (fun i σ H' _ h => by rw [h.1]; exact SqL.of upd_same) ?_ ?_
    · rintro i z σ H1' H1 hi ⟨e0, v, u2, rfl, pv'⟩ ⟨rfl, hz⟩
      subst e0
      have : i = 0 := by omega
      subst this
      cases hz
      rw [if_pos rfl] at pv'
      refine ⟨_, rfl, _, rfl, _, _, a, b, rfl, pv', hb.gw gp, _, rfl, ?_⟩
      rw [if_neg (show ¬ (0 + 1 = 0) by omega)]
      unfold LP.mx
      by_cases h : a < b
      · rw [decide_eq_true h, if_pos h]
        exact iteT ⟨_, rfl, rfl, _, _, rfl, hb.gw gp⟩
      · rw [decide_eq_false h, if_neg h]
        exact iteF ⟨_, rfl, rfl, _, _, rfl, pv'⟩
    · rintro σ H1 ⟨rfl, v, u2, rfl, pv'⟩
      exact ⟨_, rfl, k _ _ gp pv'⟩
theorem ok_takes {t : Tabs} {f : Addr} {fd : FuncData} (F : Fun K "takes" "takes" sTakes f fd) (T : Txt K mg) (C1 : Cal P w K mg base "check_gains" 10 ["market"] (spGain K)) (C2' : CIsPlaces P w K mg base t) (C3 : Cal P w K mg base "children" 3 ["market", "node"] (spChildren K))
    (C4 : Cal P w K mg base "brought_at" 10 ["market", "node", "wanted"] (spBroughtAt K t)) : FnOk P w K mg base CX0 11 f fd ["market", "node", "parts"] (spTakes K t) := by
  refine F.ok scTakes (fun vs H Q E h => ?_) (fun cdv A outer s H vs Q E hr h => ?_)
  · obtain ⟨v, wv, T, dep, wt, i, f, rfl, _⟩ := h
    rfl
  · obtain ⟨v, wv, M, dep, wt, i, g, rfl, hM, ok, hi, hw, wz, ht, k⟩ := h
    refine ⟨_, pss_cons (ps_expr (pe_call C1.ok hr rfl C1.hm C1.kp C1.b .nil pass0 (pa_cons (pv 0) pa_nil)))
      (pss_cons (ps_if (pt_not (pt_val (pe_call C2'.ok (hr.mono (by decide)) rfl C2'.hm C2'.kp C2'.b .nil pass0 (pa_cons (pv 2) (pa_cons (pe_callB (lenK K) (by rfl) T.len PySem.boot_len (pa_cons (pe_call C3.ok (hr.mono (by decide)) rfl C3.hm C3.kp C3.b .nil pass0 (pa_cons (pv 0) (pa_cons (pv 1) pa_nil))) pa_nil)) pa_nil))))) (pss_one ps_never) pss_nil)
      (pss_one (ps_ret (pe_ix (ixT K) (pe_call C4.ok hr rfl C4.hm C4.kp C4.b .nil pass0 (pa_cons (pv 0) (pa_cons (pv 1) (pa_cons (pv 2) pa_nil)))) pe_int (fun _ _ => rfl))))), ?_⟩
    refine ⟨_, rfl, _, M, dep, wt, rfl, hM, ok, fun v1 H1 g1 e1 => ?_⟩
    refine ⟨_, rfl, _, rfl, _, rfl, _, M, i, rfl, hM.gw g1, hi, ok.n12, fun v2 H2 g2 ⟨a2, e2, s2⟩ => ?_⟩
    subst e2
    have g12 := g1.trans g2
    refine ⟨a2, _, rfl, .inr s2, _, M.m i, _, by rw [List.length_map]; rfl, hw.gw g12, ht.gw g12, fun v3 H3 g3 e3 => ?_⟩
    subst e3
    have g13 := g12.trans g3
    refine ⟨_, rfl, iteF ⟨_, rfl, _, rfl, _, rfl, _, _, M, dep, wt, i, _, rfl, hM.gw g13, ok, hi, hw.gw g13, wz, ht.gw g13, fun v4 H4 g4 r4 => ?_⟩⟩
    obtain ⟨a, qv, yv, xv, q, x, y, rfl, hs, hq, hy, hx, b⟩ := r4
    refine ⟨_, _, _, _, rfl, rfl, hs, atI_nat (j := 0) rfl, k _ _ (g13.trans g4) ?_⟩
    rw [← BroR.tkv ok hi (fun j hj => rfl) b]; exact hq
theorem ok_needed {t : Tabs} {f : Addr} {fd : FuncData} (F : Fun K "needed" "needed" sNeeded f fd) (T : Txt K mg) (C3 : Cal P w K mg base "children" 3 ["market", "node"] (spChildren K))
    (C4 : Cal P w K mg base "brought_at" 10 ["market", "node", "wanted"] (spBroughtAt K t)) : FnOk P w K mg base CX0 11 f fd ["market", "node", "costs"] (spNeeded K t) := by
  refine F.ok scNeeded (fun vs H Q E h => ?_) (fun cdv A outer s H vs Q E hr h => ?_)
  · obtain ⟨v, d, T, dep, wt, i, f, rfl, _⟩ := h
    rfl
  · obtain ⟨v, d, M, dep, wt, i, g, rfl, hM, ok, hi, hd, cz, ht, k⟩ := h
    have hu := hu_of hr
    refine ⟨_, pss_one (ps_ret (pe_ix (ixT K) (pe_call C4.ok hr rfl C4.hm C4.kp C4.b .nil pass0 (pa_cons (pv 0) (pa_cons (pv 1) (pa_cons (pe_callTy call_tuple_of (by rfl) T.tuple (by decide +kernel) (pa_cons
        (pe_lc (own := [("child", 3)]) (g := gName 3) (tt := tYes) rfl scNeeded.nd (tupK K (pe_call C3.ok (hr.mono (by decide)) rfl C3.hm C3.kp C3.b .nil pass0 (pa_cons (pv 0) (pa_cons (pv 1) pa_nil)))) (blkOk_by (N := ["market", "node", "costs", "child"]) (by kernel_rfl))
          (fun _ _ _ _ _ => pg_name (i := 3) scNeeded.nd rfl (Or.inl rfl)) (fun _ _ _ _ _ => pts_nil) (fun _ _ _ _ _ => pe_dget hu (pv 2) (pv 3) (fun _ _ => rfl))) pa_nil)) pa_nil)))) pe_int (fun _ _ => rfl))), ?_⟩
    refine ⟨_, rfl, _, rfl, _, rfl, _, rfl, _, M, i, rfl, hM, hi, ok.n12, fun v1 H1 g1 ⟨a1, e1, s1⟩ => ?_⟩
    subst e1
    have lk : ((M.kids i).map natV).length = M.m i := List.length_map ..
    have m4 := ok.m4 i
    obtain ⟨kvs, k1, k2, k3⟩ := hd.gw g1
    refine ⟨a1, rfl, ⟨_, s1⟩, fun D hD => lc_grow (walk_tupY lk) hD (by omega) (fun j v H => PAt K H v (g (M.kid i j))) (fun _ _ _ _ g r => r.gw g) (fun H' g => g.sqT s1) (fun j y H2' H2 hj _ g2 ⟨ws, hw'⟩ hY C9 hC9 => ?_) (fun H2 zs g2 _ hzs lz iz => ?_)⟩
    · obtain ⟨rfl, hy⟩ := hY
      have ey : y = natV (M.kid i j) := by
        rw [List.getElem?_map, List.getElem?_eq_getElem hj] at hy
        have := Option.some.inj hy
        rw [← this]
        unfold Tr.kid
        rw [List.getD_eq_getElem?_getD, List.getElem?_eq_getElem hj]; rfl
      subst ey
      obtain ⟨c1, c2, c3, c4, _⟩ := ok.kid hj
      obtain ⟨x, ex, px⟩ := k3 _ c4 c1
      have gi : DGet H2 d (.int ((M.kid i j : Nat) : Int)) (valV kvs (ky (M.kid i j))) := DGet.k (k := ky (M.kid i j)) (g2.at k1)
      rw [ex] at gi
      refine ⟨rfl, _, rfl, _, rfl, d, _, rfl, gi, hC9 _ _ (Gw.refl _) (((px.gw Gw.rm_le).gw g2).rm hw')⟩
    · have g12 := g1.trans g2
      refine ⟨D, zs, rfl, .inl ⟨SqL.of hzs, fun l hl => ?_⟩⟩
      have gl := Gw.new (.tup zs) hl
      have gg := g12.trans gl
      refine ⟨_, _, M, dep, wt, i, (fun j => g (M.kid i j)), rfl, hM.gw gg, ok, hi, ⟨l, zs, rfl, SqT.of upd_same, lz, fun j hj => let ⟨y, e, r⟩ := iz j hj; ⟨y, e, (r.gw Gw.rm_le).gw gl⟩⟩, ok.kidW cz, ht.gw gg, fun v4 H4 g4 r4 => ?_⟩
      obtain ⟨a, qv, yv, xv, q, x, y, rfl, hs, hq, hy, hx, b⟩ := r4
      refine ⟨_, _, _, _, rfl, rfl, hs, atI_nat (j := 0) rfl, k _ _ (gg.trans g4) ?_⟩
      rw [← BroR.tkv ok hi (fun j hj => rfl) b]; exact hq
end
end K44


set_option Elab.async false
set_option linter.all false
set_option maxRecDepth 100000
set_option maxHeartbeats 4000000
set_option exponentiation.threshold 3000
/-! costs_of, uncalled, costs_with, costs_of_dues, costs_for. -/
namespace K44
open PySem L2
open LP (Fit lim S Tr)
def OptP (K : PySem.W.Frag) (H : Hp) (x : V) : Option Rat → Prop
  | none => x = .non
  | some q => PAt K H x q
theorem OptP.gw {K : PySem.W.Frag} {H H' : Hp} {x : V} {o : Option Rat} (h : OptP K H x o) (g : Gw H H') : OptP K H' x o := by
  cases o with
  | none => exact h
  | some q => exact PAt.gw h g
/-- a tuple of parts and None -/
def OptT (K : PySem.W.Frag) (H : Hp) (v : V) (N : Nat) (o : Nat → Option Rat) : Prop := ∃ a vs, v = .ref a ∧ SqT K H a vs ∧ vs.length = N ∧ ∀ i, i < N → ∃ x, vs[i]? = some x ∧ OptP K H x (o i)
theorem OptT.gw {K : PySem.W.Frag} {H H' : Hp} {v : V} {N : Nat} {o : Nat → Option Rat} (h : OptT K H v N o) (g : Gw H H') : OptT K H' v N o := let ⟨a, vs, e, s, l, i⟩ := h; ⟨a, vs, e, g.sqT s, l, fun j hj => let ⟨x, e, p⟩ := i j hj; ⟨x, e, p.gw g⟩⟩
theorem walk_down {N : Nat} : Walk (Itc ((N : Int) - 1) (-1) N) N (fun _ => True) (YFn fun s => .int ((N - 1 - s : Nat) : Int)) :=
  Walk.mono (walk_rangeC (lo := (N : Int) - 1) (c := -1) (n := N)) (fun _ h => h) fun i H x H' hi _ y => ⟨y.1, y.2.trans (by
    show V.int ((N : Int) - 1 + (i : Nat) * -1) = _
    congr 1; omega)⟩
theorem rg_down {N : Nat} (h : N ≤ 1000) : RgC ((N : Int) - 1) (-1) (-1) N := by
  have := RgC.neg (i := (N : Int) - 1) (j := -1) (by omega) (by omega) (by decide) (by decide)
  rwa [show ((N : Int) - 1 - -1).toNat = N by omega] at this
def spCostsOf (K : PySem.W.Frag) (t : Tabs) : Sp := fun vs H Q _ => ∃ (v ov : V) (T : Tr) (dep : Nat → Nat) (wt : Nat → Rat) (o : Nat → Option Rat), vs = [v, ov] ∧ MktAt K H v T ∧ T.Ok dep wt ∧ OptT K H ov T.N o ∧ LP.DuO T.N o ∧ TabsOk t H ∧ Ans H (fun v H' => VT K H' v T.N (LP.offF T o fun _ => none)) Q
def spUncalled (K : PySem.W.Frag) (t : Tabs) : Sp := fun vs H Q _ => ∃ (v ov : V) (d : Addr) (T : Tr) (dep : Nat → Nat) (wt : Nat → Rat) (o : Nat → Option Rat) (i : Nat) (f : Nat → Rat), vs = [v, ov, .int (i : Nat), .ref d] ∧ MktAt K H v T ∧ T.Ok dep wt ∧ OptT K H ov T.N o ∧ i < T.N ∧
  CostsAt K H d T.N (i + 1) f ∧ (∀ j, i < j → j < T.N → LP.Cz (dep j) (T.pr j 0) (f j)) ∧ TabsOk t H ∧ Ans H (fun v H' => PAt K H' v (LP.uncG T o i f)) Q
def spCostsWith (K : PySem.W.Frag) (t : Tabs) : Sp := fun vs H Q _ => ∃ (v ov cv : V) (T : Tr) (dep : Nat → Nat) (wt : Nat → Rat) (o cl : Nat → Option Rat), vs = [v, ov, cv] ∧ MktAt K H v T ∧ T.Ok dep wt ∧ OptT K H ov T.N o ∧ LP.DuO T.N o ∧ OptT K H cv T.N cl ∧ LP.DuO T.N cl ∧ TabsOk t H ∧ Ans H (fun v H' => VT K H' v T.N (LP.offF T o cl)) Q
def spDues (K : PySem.W.Frag) (t : Tabs) : Sp := fun vs H Q _ => ∃ (v dv : V) (T : Tr) (dep : Nat → Nat) (wt : Nat → Rat) (du : Nat → Rat), vs = [v, dv] ∧ MktAt K H v T ∧ T.Ok dep wt ∧ VT K H dv T.N du ∧ (∀ i, i < T.N → LP.Du (du i)) ∧ TabsOk t H ∧ Ans H (fun v H' => VT K H' v T.N (LP.dueF T du)) Q
section
variable {P : Program} {w : World} {K : PySem.W.Frag} {mg : Str → Option Value} {base : Heap}
abbrev CCheck (P : Program) (w : World) (K : PySem.W.Frag) (mg : Str → Option Value) (base : Heap) := Cal P w K mg base "check_gains" 10 ["market"] (spGain K)
abbrev CNeeded (P : Program) (w : World) (K : PySem.W.Frag) (mg : Str → Option Value) (base : Heap) (t : Tabs) := Cal P w K mg base "needed" 11 ["market", "node", "costs"] (spNeeded K t)
abbrev CMostOf (P : Program) (w : World) (K : PySem.W.Frag) (mg : Str → Option Value) (base : Heap) := Cal P w K mg base "most_of" 2 ["rows"] (spTwoOf K LP.mx)
theorem scCostsOf : FnScope ["market", "offer", "costs", "node", "found"] ["market", "offer"] (defScope sCostsOf) := ⟨rfl, rfl, rfl, by decide +kernel, rfl, by decide +kernel, by decide +kernel⟩
theorem scUncalled : FnScope ["market", "offer", "node", "costs", "found"] ["market", "offer", "node", "costs"] (defScope sUncalled) := ⟨rfl, rfl, rfl, by decide +kernel, rfl, by decide +kernel, by decide +kernel⟩
theorem scCostsWith : FnScope ["market", "offer", "call", "costs", "node", "found"] ["market", "offer", "call"] (defScope sCostsWith) := ⟨rfl, rfl, rfl, by decide +kernel, rfl, by decide +kernel, by decide +kernel⟩
theorem scDues : FnScope ["market", "dues", "costs", "node"] ["market", "dues"] (defScope sDues) := ⟨rfl, rfl, rfl, by decide +kernel, rfl, by decide +kernel, by decide +kernel⟩
theorem ok_costsOf {t : Tabs} {f : Addr} {fd : FuncData} (F : Fun K "costs_of" "costs_of" sCostsOf f fd) (T : Txt K mg) (C1 : CCheck P w K mg base) (C2' : CNeeded P w K mg base t) (C3 : CMostOf P w K mg base) : FnOk P w K mg base CX0 12 f fd ["market", "offer"] (spCostsOf K t) := by
  refine F.ok scCostsOf (fun vs H Q E h => ?_) (fun cdv A outer s H vs Q E hr h => ?_)
  · obtain ⟨v, ov, T, dep, wt, o, rfl, _⟩ := h
    rfl
  · obtain ⟨v, ov, M, dep, wt, o, rfl, hM, ok, ho, hdu, ht, k⟩ := h
    have hu := hu_of hr
    refine ⟨_, pss_cons (ps_expr (pe_call C1.ok (hr.mono (by decide)) rfl C1.hm C1.kp C1.b .nil pass0 (pa_cons (pv 0) pa_nil)))
      (pss_cons (ps_set (i := 2) scCostsOf.nd rfl (Or.inr rfl) pe_dnewK)
      (pss_cons (ps_for PassesOwn.never rfl (pi_range3 rfl T.range (pa_cons (pe_op op_sub (pe_callB (lenK K) (by rfl) T.len PySem.boot_len (pa_cons (pv 1) pa_nil)) pe_int) (pa_cons (pe_un un_neg pe_int) (pa_cons (pe_un un_neg pe_int) pa_nil)))) (pg_name (i := 3) scCostsOf.nd rfl (Or.inl rfl))
        (pss_cons (ps_set (i := 4) scCostsOf.nd rfl (Or.inl rfl) (pe_call C2'.ok hr rfl C2'.hm C2'.kp C2'.b .nil pass0 (pa_cons (pv 0) (pa_cons (pv 3) (pa_cons (pv 2) pa_nil)))))
        (pss_one (ps_dput hu (pv 2) (pv 3) (pe_ifExp (pt_cmp (pc_isN (pe_ix (ixT K) (pv 1) (pv 3) (fun _ _ => rfl)))) (pv 4) (pe_call C3.ok (hr.mono (by decide)) rfl C3.hm C3.kp C3.b .nil pass0 (pa_cons (pe_lst (pa_cons (pv 4) (pa_cons (pe_ix (ixT K) (pv 1) (pv 3) (fun _ _ => rfl)) pa_nil))) pa_nil))) rfl))))
      (pss_one (ps_ret (pe_callTy call_tuple_of (by rfl) T.tuple (by decide +kernel) (pa_cons
        (pe_lc (own := [("node", 3)]) (g := gName 3) (tt := tYes) rfl scCostsOf.nd (pi_range1 rfl T.range (pa_cons (pe_callB (lenK K) (by rfl) T.len PySem.boot_len (pa_cons (pv 1) pa_nil)) pa_nil)) (blkOk_by (N := ["market", "offer", "costs", "node", "found"]) (by kernel_rfl))
          (fun _ _ _ _ _ => pg_name (i := 3) scCostsOf.nd rfl (Or.inl rfl)) (fun _ _ _ _ _ => pts_nil) (fun _ _ _ _ _ => pe_dget hu (pv 2) (pv 3) (fun _ _ => rfl))) pa_nil)))))), ?_⟩
    obtain ⟨ao, vo, rfl, so, lo, io⟩ := id ho
    have n12 := ok.n12
    have cz := LP.off_cz ok (cl := fun _ => none) hdu (fun i q _ h => by cases h)
    refine ⟨_, rfl, _, M, dep, wt, rfl, hM, ok, fun v1 H1 g1 _ d hd => ?_⟩
    have so1 := (g1.trans (Gw.new (.dK []) hd)).sqT so
    refine ⟨_, rfl, ao, vo, rfl, .inr so1, _, _, rfl, rfl, 1, rfl, 1, rfl, ?_⟩
    rw [lo]
    refine ⟨_, _, _, M.N, rfl, rg_down (by omega), ?_⟩
    refine for_it walk_down (fun s σ H' => (∃ u3 u4, σ = [some v, some (.ref ao), some (.ref d), u3, u4]) ∧ Gw H1 (rm H' d) ∧ (∃ kvs, H' d = some (.dK kvs) ∧ kvs.length ≤ s) ∧ CostsAt K H' d M.N (M.N - s) (LP.offF M o fun _ => none))
      ⟨⟨_, _, rfl⟩, by rw [rm_upd, rm_none hd]; exact Gw.refl _, ⟨[], upd_same, Nat.le_refl _⟩, [], upd_same, by decide, fun j h1 h2 => by omega⟩ (fun _ _ _ _ _ => True.intro) ?_ ?_
    · rintro s y σ H2' H2 hs ⟨⟨u3, u4, rfl⟩, g2, ⟨kv0, kq, kl⟩, co⟩ ⟨rfl, rfl⟩
      dsimp only
      have gg := g1.trans (g2.trans Gw.rm_le)
      have hi : M.N - 1 - s < M.N := by omega
      have e1 : M.N - 1 - s + 1 = M.N - s := by omega
      have e2 : M.N - (s + 1) = M.N - 1 - s := by omega
      rw [e2]
      generalize M.N - 1 - s = i at hi e1
      rw [← e1] at co
      refine ⟨_, rfl, _, rfl, _, rfl, _, d, M, dep, wt, i, _, rfl, hM.gw gg, ok, hi, co, fun j _ hj => cz j hj, ht.gw gg, fun v3 H3 g3 r3 => ?_⟩
      obtain ⟨kvs, k1, k2, k3⟩ := co.gw g3
      have kl : kvs.length ≤ s := by
        have := g3.at kq
        rw [k1] at this; cases this; exact kl
      obtain ⟨x, ex, px⟩ := io i hi
      have g13 := gg.trans g3
      have so3 := g13.sqT so
      have fe := LP.off_eq ok o (fun _ => none) hi
      have g4 : Gw H1 (rm H3 d) := g2.trans g3.rm
      have fin : ∀ (x : V) (H' : Hp), Gw H3 H' → PAt K H' x (LP.offF M o (fun _ => none) i) → sDPut (tVar 2) (tVar 3) (fun _ H Q => Q x H) { nx := fun σ H' => (∃ u3 u4, σ = [some v, some (.ref ao), some (.ref d), u3, u4]) ∧ Gw H1 (rm H' d) ∧ (∃ kvs, H' d = some (.dK kvs) ∧ kvs.length ≤ s + 1) ∧ CostsAt K H' d M.N i (LP.offF M o fun _ => none), rt := Q } [some v, some (.ref ao), some (.ref d), some (.int (i : Nat)), some v3] H' := fun x H' g px => by
        refine ⟨_, rfl, _, rfl, d, _, rfl, DPut.k (k := ky i) (g.at k1) (small1000 (by omega)), ⟨_, _, rfl⟩, by rw [rm_upd]; exact g4.trans g.rm, ⟨_, upd_same, Nat.le_trans putK_le (by omega)⟩, cost_put (g.at k1) (by omega) (fun j h1 h2 => let ⟨x, e, p⟩ := k3 j h1 h2; ⟨x, e, p.gw g.rm⟩) px⟩
      refine ⟨_, rfl, _, rfl, _, _, _, _, rfl, rfl, so3, at_of rfl ex, _, rfl, ?_⟩
      cases eo : o i with
      | none =>
        rw [eo] at px
        have px : x = .non := px
        subst px
        refine iteT ⟨_, rfl, fin v3 H3 (Gw.refl _) ?_⟩
        rw [fe]; unfold LP.offG LP.uncG; rw [eo]; exact r3
      | some q =>
        rw [eo] at px
        obtain ⟨⟨ax, rfl, _⟩, _⟩ := id px
        refine iteF ⟨_, rfl, _, rfl, _, rfl, _, _, _, _, rfl, rfl, so3, at_of rfl ex, (show 2 ≤ sizeLine by decide), fun l hl => ?_⟩
        have gl := Gw.new (.lst [v3, V.ref ax]) hl
        refine ⟨l, _, _, _, _, rfl, SqL.of upd_same, PAt.gw r3 gl, PAt.gw px (g13.trans gl), fun v5 H5 g5 r5 => fin v5 H5 (gl.trans g5) ?_⟩
        rw [fe]; unfold LP.offG LP.uncG; rw [eo]; exact r5
    · rintro σ H2 ⟨⟨u3, u4, rfl⟩, g2, _, kvs, k1, k2, k3⟩
      have gg := g1.trans (g2.trans Gw.rm_le)
      refine ⟨_, rfl, ao, vo, rfl, .inr (gg.sqT so), ?_⟩
      rw [lo]
      refine ⟨_, rfl, (by omega), (by omega), fun D hD => lc_grow (walk_rangeN (N := M.N) (by omega)) hD (by omega) (fun j v H => PAt K H v (LP.offF M o (fun _ => none) j)) (fun _ _ _ _ g r => r.gw g) (fun _ _ => True.intro) (fun j y H3' H3 hj _ g3 ⟨ws, hw'⟩ hY C9 hC9 => ?_) (fun H3 zs g3 _ hzs lz iz => ?_)⟩
      · obtain ⟨rfl, rfl⟩ := hY
        obtain ⟨x, ex, px⟩ := k3 j (by omega) hj
        have gi : DGet H3 d (.int ((j : Nat) : Int)) (valV kvs (ky j)) := DGet.k (k := ky j) (g3.at k1)
        rw [ex] at gi
        exact ⟨rfl, _, rfl, _, rfl, d, _, rfl, gi, hC9 _ _ (Gw.refl _) (((px.gw Gw.rm_le).gw g3).rm hw')⟩
      · refine ⟨D, zs, rfl, .inl ⟨SqL.of hzs, fun l hl => ?_⟩⟩
        have gl := Gw.new (.tup zs) hl
        exact k _ _ (gg.trans (g3.trans gl)) ⟨l, zs, rfl, SqT.of upd_same, lz, fun j hj => let ⟨y, e, r⟩ := iz j hj; ⟨y, e, (r.gw Gw.rm_le).gw gl⟩⟩
end
end K44


set_option Elab.async false
set_option linter.all false
set_option maxRecDepth 100000
set_option maxHeartbeats 4000000
set_option exponentiation.threshold 3000
/-! uncalled, costs_with, costs_of_dues. -/
namespace K44
open PySem L2
open LP (Fit lim S Tr)
section
variable {P : Program} {w : World} {K : PySem.W.Frag} {mg : Str → Option Value} {base : Heap}
theorem ok_uncalled {t : Tabs} {f : Addr} {fd : FuncData} (F : Fun K "uncalled" "uncalled" sUncalled f fd) (T : Txt K mg) (C2' : CNeeded P w K mg base t) (C3 : CMostOf P w K mg base) : FnOk P w K mg base CX0 12 f fd ["market", "offer", "node", "costs"] (spUncalled K t) := by
  refine F.ok scUncalled (fun vs H Q E h => ?_) (fun cdv A outer s H vs Q E hr h => ?_)
  · obtain ⟨v, ov, d, T, dep, wt, o, i, f, rfl, _⟩ := h
    rfl
  · obtain ⟨v, ov, d, M, dep, wt, o, i, g, rfl, hM, ok, ho, hi, co, cz, ht, k⟩ := h
    refine ⟨_, pss_cons (ps_set (i := 4) scUncalled.nd rfl (Or.inl rfl) (pe_call C2'.ok hr rfl C2'.hm C2'.kp C2'.b .nil pass0 (pa_cons (pv 0) (pa_cons (pv 2) (pa_cons (pv 3) pa_nil)))))
      (pss_one (ps_ret (pe_ifExp (pt_cmp (pc_isN (pe_ix (ixT K) (pv 1) (pv 2) (fun _ _ => rfl)))) (pv 4) (pe_call C3.ok (hr.mono (by decide)) rfl C3.hm C3.kp C3.b .nil pass0 (pa_cons (pe_lst (pa_cons (pv 4) (pa_cons (pe_ix (ixT K) (pv 1) (pv 2) (fun _ _ => rfl)) pa_nil))) pa_nil))))), ?_⟩
    obtain ⟨ao, vo, rfl, so, lo, io⟩ := id ho
    refine ⟨_, rfl, _, rfl, _, rfl, _, d, M, dep, wt, i, _, rfl, hM, ok, hi, co, cz, ht, fun v3 H3 g3 r3 => ?_⟩
    obtain ⟨x, ex, px⟩ := io i hi
    have so3 := g3.sqT so
    refine ⟨_, rfl, _, rfl, _, _, _, _, rfl, rfl, so3, at_of rfl ex, _, rfl, ?_⟩
    cases eo : o i with
    | none =>
      rw [eo] at px
      have px : x = .non := px
      subst px
      refine iteT ⟨_, rfl, k _ _ g3 ?_⟩
      unfold LP.uncG; rw [eo]; exact r3
    | some q =>
      rw [eo] at px
      obtain ⟨⟨ax, rfl, _⟩, _⟩ := id px
      refine iteF ⟨_, rfl, _, rfl, _, rfl, _, _, _, _, rfl, rfl, so3, at_of rfl ex, (show 2 ≤ sizeLine by decide), fun l hl => ?_⟩
      have gl := Gw.new (.lst [v3, V.ref ax]) hl
      refine ⟨l, _, _, _, _, rfl, SqL.of upd_same, PAt.gw r3 gl, PAt.gw px (g3.trans gl), fun v5 H5 g5 r5 => k _ _ (g3.trans (gl.trans g5)) ?_⟩
      unfold LP.uncG; rw [eo]; exact r5
abbrev CUncalled (P : Program) (w : World) (K : PySem.W.Frag) (mg : Str → Option Value) (base : Heap) (t : Tabs) := Cal P w K mg base "uncalled" 12 ["market", "offer", "node", "costs"] (spUncalled K t)
abbrev CLeastOf (P : Program) (w : World) (K : PySem.W.Frag) (mg : Str → Option Value) (base : Heap) := Cal P w K mg base "least_of" 2 ["rows"] (spTwoOf K LP.mn)
theorem ok_costsWith {t : Tabs} {f : Addr} {fd : FuncData} (F : Fun K "costs_with" "costs_with" sCostsWith f fd) (T : Txt K mg) (C1 : CCheck P w K mg base) (C2' : CUncalled P w K mg base t) (C3 : CLeastOf P w K mg base) : FnOk P w K mg base CX0 13 f fd ["market", "offer", "call"] (spCostsWith K t) := by
  refine F.ok scCostsWith (fun vs H Q E h => ?_) (fun cdv A outer s H vs Q E hr h => ?_)
  · obtain ⟨v, ov, cv, T, dep, wt, o, cl, rfl, _⟩ := h
    rfl
  · obtain ⟨v, ov, cv, M, dep, wt, o, cl, rfl, hM, ok, ho, hdu, hc, hdc, ht, k⟩ := h
    have hu := hu_of hr
    refine ⟨_, pss_cons (ps_expr (pe_call C1.ok (hr.mono (by decide)) rfl C1.hm C1.kp C1.b .nil pass0 (pa_cons (pv 0) pa_nil)))
      (pss_cons (ps_set (i := 3) scCostsWith.nd rfl (Or.inr rfl) pe_dnewK)
      (pss_cons (ps_for PassesOwn.never rfl (pi_range3 rfl T.range (pa_cons (pe_op op_sub (pe_callB (lenK K) (by rfl) T.len PySem.boot_len (pa_cons (pv 1) pa_nil)) pe_int) (pa_cons (pe_un un_neg pe_int) (pa_cons (pe_un un_neg pe_int) pa_nil)))) (pg_name (i := 4) scCostsWith.nd rfl (Or.inl rfl))
        (pss_cons (ps_set (i := 5) scCostsWith.nd rfl (Or.inl rfl) (pe_call C2'.ok hr rfl C2'.hm C2'.kp C2'.b .nil pass0 (pa_cons (pv 0) (pa_cons (pv 1) (pa_cons (pv 4) (pa_cons (pv 3) pa_nil))))))
        (pss_one (ps_dput hu (pv 3) (pv 4) (pe_ifExp (pt_cmp (pc_isN (pe_ix (ixT K) (pv 2) (pv 4) (fun _ _ => rfl)))) (pv 5) (pe_call C3.ok (hr.mono (by decide)) rfl C3.hm C3.kp C3.b .nil pass0 (pa_cons (pe_lst (pa_cons (pv 5) (pa_cons (pe_ix (ixT K) (pv 2) (pv 4) (fun _ _ => rfl)) pa_nil))) pa_nil))) rfl))))
      (pss_one (ps_ret (pe_callTy call_tuple_of (by rfl) T.tuple (by decide +kernel) (pa_cons
        (pe_lc (own := [("node", 4)]) (g := gName 4) (tt := tYes) rfl scCostsWith.nd (pi_range1 rfl T.range (pa_cons (pe_callB (lenK K) (by rfl) T.len PySem.boot_len (pa_cons (pv 1) pa_nil)) pa_nil)) (blkOk_by (N := ["market", "offer", "call", "costs", "node", "found"]) (by kernel_rfl))
          (fun _ _ _ _ _ => pg_name (i := 4) scCostsWith.nd rfl (Or.inl rfl)) (fun _ _ _ _ _ => pts_nil) (fun _ _ _ _ _ => pe_dget hu (pv 3) (pv 4) (fun _ _ => rfl))) pa_nil)))))), ?_⟩
    obtain ⟨ao, vo, rfl, so, lo, io⟩ := id ho
    obtain ⟨ac, vc, rfl, sc', lc', ic⟩ := id hc
    have n12 := ok.n12
    have cz := LP.off_cz ok (cl := cl) hdu hdc
    refine ⟨_, rfl, _, M, dep, wt, rfl, hM, ok, fun v1 H1 g1 _ d hd => ?_⟩
    have so1 := (g1.trans (Gw.new (.dK []) hd)).sqT so
    refine ⟨_, rfl, ao, vo, rfl, .inr so1, _, _, rfl, rfl, 1, rfl, 1, rfl, ?_⟩
    rw [lo]
    refine ⟨_, _, _, M.N, rfl, rg_down (by omega), ?_⟩
    refine for_it walk_down (fun s σ H' => (∃ u3 u4, σ = [some v, some (.ref ao), some (.ref ac), some (.ref d), u3, u4]) ∧ Gw H1 (rm H' d) ∧ (∃ kvs, H' d = some (.dK kvs) ∧ kvs.length ≤ s) ∧ CostsAt K H' d M.N (M.N - s) (LP.offF M o cl))
      ⟨⟨_, _, rfl⟩, by rw [rm_upd, rm_none hd]; exact Gw.refl _, ⟨[], upd_same, Nat.le_refl _⟩, [], upd_same, by decide, fun j h1 h2 => by omega⟩ (fun _ _ _ _ _ => True.intro) ?_ ?_
    · rintro s y σ H2' H2 hs ⟨⟨u3, u4, rfl⟩, g2, ⟨kv0, kq, kl⟩, co⟩ ⟨rfl, rfl⟩
      dsimp only
      have gg := g1.trans (g2.trans Gw.rm_le)
      have hi : M.N - 1 - s < M.N := by omega
      have e1 : M.N - 1 - s + 1 = M.N - s := by omega
      have e2 : M.N - (s + 1) = M.N - 1 - s := by omega
      rw [e2]
      generalize M.N - 1 - s = i at hi e1
      rw [← e1] at co
      refine ⟨_, rfl, _, rfl, _, rfl, _, rfl, _, _, d, M, dep, wt, o, i, _, rfl, hM.gw gg, ok, ho.gw gg, hi, co, fun j _ hj => cz j hj, ht.gw gg, fun v3 H3 g3 r3 => ?_⟩
      obtain ⟨kvs, k1, k2, k3⟩ := co.gw g3
      have kl : kvs.length ≤ s := by
        have := g3.at kq
        rw [k1] at this; cases this; exact kl
      obtain ⟨x, ex, px⟩ := ic i hi
      have g13 := gg.trans g3
      have so3 := g13.sqT sc'
      have fe := LP.off_eq ok o cl hi
      have g4 : Gw H1 (rm H3 d) := g2.trans g3.rm
      have fin : ∀ (x : V) (H' : Hp), Gw H3 H' → PAt K H' x (LP.offF M o cl i) → sDPut (tVar 3) (tVar 4) (fun _ H Q => Q x H) { nx := fun σ H' => (∃ u3 u4, σ = [some v, some (.ref ao), some (.ref ac), some (.ref d), u3, u4]) ∧ Gw H1 (rm H' d) ∧ (∃ kvs, H' d = some (.dK kvs) ∧ kvs.length ≤ s + 1) ∧ CostsAt K H' d M.N i (LP.offF M o cl), rt := Q } [some v, some (.ref ao), some (.ref ac), some (.ref d), some (.int (i : Nat)), some v3] H' := fun x H' g px => by
        refine ⟨_, rfl, _, rfl, d, _, rfl, DPut.k (k := ky i) (g.at k1) (small1000 (by omega)), ⟨_, _, rfl⟩, by rw [rm_upd]; exact g4.trans g.rm, ⟨_, upd_same, Nat.le_trans putK_le (by omega)⟩, cost_put (g.at k1) (by omega) (fun j h1 h2 => let ⟨x, e, p⟩ := k3 j h1 h2; ⟨x, e, p.gw g.rm⟩) px⟩
      refine ⟨_, rfl, _, rfl, _, _, _, _, rfl, rfl, so3, at_of rfl ex, _, rfl, ?_⟩
      cases eo : cl i with
      | none =>
        rw [eo] at px
        have px : x = .non := px
        subst px
        refine iteT ⟨_, rfl, fin v3 H3 (Gw.refl _) ?_⟩
        rw [fe]; unfold LP.offG; rw [eo]; exact r3
      | some q =>
        rw [eo] at px
        obtain ⟨⟨ax, rfl, _⟩, _⟩ := id px
        refine iteF ⟨_, rfl, _, rfl, _, rfl, _, _, _, _, rfl, rfl, so3, at_of rfl ex, (show 2 ≤ sizeLine by decide), fun l hl => ?_⟩
        have gl := Gw.new (.lst [v3, V.ref ax]) hl
        refine ⟨l, _, _, _, _, rfl, SqL.of upd_same, PAt.gw r3 gl, PAt.gw px (g13.trans gl), fun v5 H5 g5 r5 => fin v5 H5 (gl.trans g5) ?_⟩
        rw [fe]; unfold LP.offG; rw [eo]; exact r5
    · rintro σ H2 ⟨⟨u3, u4, rfl⟩, g2, _, kvs, k1, k2, k3⟩
      have gg := g1.trans (g2.trans Gw.rm_le)
      refine ⟨_, rfl, ao, vo, rfl, .inr (gg.sqT so), ?_⟩
      rw [lo]
      refine ⟨_, rfl, (by omega), (by omega), fun D hD => lc_grow (walk_rangeN (N := M.N) (by omega)) hD (by omega) (fun j v H => PAt K H v (LP.offF M o cl j)) (fun _ _ _ _ g r => r.gw g) (fun _ _ => True.intro) (fun j y H3' H3 hj _ g3 ⟨ws, hw'⟩ hY C9 hC9 => ?_) (fun H3 zs g3 _ hzs lz iz => ?_)⟩
      · obtain ⟨rfl, rfl⟩ := hY
        obtain ⟨x, ex, px⟩ := k3 j (by omega) hj
        have gi : DGet H3 d (.int ((j : Nat) : Int)) (valV kvs (ky j)) := DGet.k (k := ky j) (g3.at k1)
        rw [ex] at gi
        exact ⟨rfl, _, rfl, _, rfl, d, _, rfl, gi, hC9 _ _ (Gw.refl _) (((px.gw Gw.rm_le).gw g3).rm hw')⟩
      · refine ⟨D, zs, rfl, .inl ⟨SqL.of hzs, fun l hl => ?_⟩⟩
        have gl := Gw.new (.tup zs) hl
        exact k _ _ (gg.trans (g3.trans gl)) ⟨l, zs, rfl, SqT.of upd_same, lz, fun j hj => let ⟨y, e, r⟩ := iz j hj; ⟨y, e, (r.gw Gw.rm_le).gw gl⟩⟩
abbrev CPlus (P : Program) (w : World) (K : PySem.W.Frag) (mg : Str → Option Value) (base : Heap) := C2 P w K mg base "plus" (· + ·)
theorem ok_dues {t : Tabs} {f : Addr} {fd : FuncData} (F : Fun K "costs_of_dues" "costs_of_dues" sDues f fd) (T : Txt K mg) (C1 : CCheck P w K mg base) (C2' : CNeeded P w K mg base t) (C3 : CPlus P w K mg base) : FnOk P w K mg base CX0 12 f fd ["market", "dues"] (spDues K t) := by
  refine F.ok scDues (fun vs H Q E h => ?_) (fun cdv A outer s H vs Q E hr h => ?_)
  · obtain ⟨v, dv, T, dep, wt, du, rfl, _⟩ := h
    rfl
  · obtain ⟨v, dv, M, dep, wt, du, rfl, hM, ok, ho, hdu, ht, k⟩ := h
    have hu := hu_of hr
    refine ⟨_, pss_cons (ps_expr (pe_call C1.ok (hr.mono (by decide)) rfl C1.hm C1.kp C1.b .nil pass0 (pa_cons (pv 0) pa_nil)))
      (pss_cons (ps_set (i := 2) scDues.nd rfl (Or.inr rfl) pe_dnewK)
      (pss_cons (ps_for PassesOwn.never rfl (pi_range3 rfl T.range (pa_cons (pe_op op_sub (pe_callB (lenK K) (by rfl) T.len PySem.boot_len (pa_cons (pv 1) pa_nil)) pe_int) (pa_cons (pe_un un_neg pe_int) (pa_cons (pe_un un_neg pe_int) pa_nil)))) (pg_name (i := 3) scDues.nd rfl (Or.inl rfl))
        (pss_one (ps_dput hu (pv 2) (pv 3) (pe_call C3.ok (hr.mono (by decide)) rfl C3.hm C3.kp C3.b .nil pass0 (pa_cons (pe_ix (ixT K) (pv 1) (pv 3) (fun _ _ => rfl)) (pa_cons (pe_call C2'.ok hr rfl C2'.hm C2'.kp C2'.b .nil pass0 (pa_cons (pv 0) (pa_cons (pv 3) (pa_cons (pv 2) pa_nil)))) pa_nil))) rfl)))
      (pss_one (ps_ret (pe_callTy call_tuple_of (by rfl) T.tuple (by decide +kernel) (pa_cons
        (pe_lc (own := [("node", 3)]) (g := gName 3) (tt := tYes) rfl scDues.nd (pi_range1 rfl T.range (pa_cons (pe_callB (lenK K) (by rfl) T.len PySem.boot_len (pa_cons (pv 1) pa_nil)) pa_nil)) (blkOk_by (N := ["market", "dues", "costs", "node"]) (by kernel_rfl))
          (fun _ _ _ _ _ => pg_name (i := 3) scDues.nd rfl (Or.inl rfl)) (fun _ _ _ _ _ => pts_nil) (fun _ _ _ _ _ => pe_dget hu (pv 2) (pv 3) (fun _ _ => rfl))) pa_nil)))))), ?_⟩
    obtain ⟨ao, vo, rfl, so, lo, io⟩ := id ho
    have n12 := ok.n12
    have cz := LP.due_cz ok hdu
    refine ⟨_, rfl, _, M, dep, wt, rfl, hM, ok, fun v1 H1 g1 _ d hd => ?_⟩
    have so1 := (g1.trans (Gw.new (.dK []) hd)).sqT so
    refine ⟨_, rfl, ao, vo, rfl, .inr so1, _, _, rfl, rfl, 1, rfl, 1, rfl, ?_⟩
    rw [lo]
    refine ⟨_, _, _, M.N, rfl, rg_down (by omega), ?_⟩
    refine for_it walk_down (fun s σ H' => (∃ u3, σ = [some v, some (.ref ao), some (.ref d), u3]) ∧ Gw H1 (rm H' d) ∧ (∃ kvs, H' d = some (.dK kvs) ∧ kvs.length ≤ s) ∧ CostsAt K H' d M.N (M.N - s) (LP.dueF M du))
      ⟨⟨_, rfl⟩, by rw [rm_upd, rm_none hd]; exact Gw.refl _, ⟨[], upd_same, Nat.le_refl _⟩, [], upd_same, by decide, fun j h1 h2 => by omega⟩ (fun _ _ _ _ _ => True.intro) ?_ ?_
    · rintro s y σ H2' H2 hs ⟨⟨u3, rfl⟩, g2, ⟨kv0, kq, kl⟩, co⟩ ⟨rfl, rfl⟩
      dsimp only
      have gg := g1.trans (g2.trans Gw.rm_le)
      have hi : M.N - 1 - s < M.N := by omega
      have e1 : M.N - 1 - s + 1 = M.N - s := by omega
      have e2 : M.N - (s + 1) = M.N - 1 - s := by omega
      rw [e2]
      generalize M.N - 1 - s = i at hi e1
      rw [← e1] at co
      obtain ⟨x, ex, px⟩ := io i hi
      refine ⟨_, rfl, _, rfl, _, _, _, _, rfl, rfl, gg.sqT so, at_of rfl ex, _, rfl, _, rfl, _, rfl, _, d, M, dep, wt, i, _, rfl, hM.gw gg, ok, hi, co, fun j _ hj => cz j hj, ht.gw gg, fun v3 H3 g3 r3 => ?_⟩
      obtain ⟨kvs, k1, k2, k3⟩ := co.gw g3
      have kl : kvs.length ≤ s := by
        have := g3.at kq
        rw [k1] at this; cases this; exact kl
      have g13 := gg.trans g3
      have fe : LP.dueF M du i = du i + LP.tkv M i (LP.dueF M du) := LP.due_eq ok du hi
      have g4 : Gw H1 (rm H3 d) := g2.trans g3.rm
      refine ⟨_, _, _, _, rfl, px.gw g13, r3, ?_, fun v5 H5 g r5 => ?_⟩
      · show Fit (du i + LP.tkv M i (LP.dueF M du))
        rw [← fe]; exact ok.fitz hi (cz i hi)
      · refine ⟨_, rfl, _, rfl, d, _, rfl, DPut.k (k := ky i) (g.at k1) (small1000 (by omega)), ⟨_, rfl⟩, by rw [rm_upd]; exact g4.trans g.rm, ⟨_, upd_same, Nat.le_trans putK_le (by omega)⟩, cost_put (g.at k1) (by omega) (fun j h1 h2 => let ⟨x, e, p⟩ := k3 j h1 h2; ⟨x, e, p.gw g.rm⟩) (by rw [fe]; exact r5)⟩
    · rintro σ H2 ⟨⟨u3, rfl⟩, g2, _, kvs, k1, k2, k3⟩
      have gg := g1.trans (g2.trans Gw.rm_le)
      refine ⟨_, rfl, ao, vo, rfl, .inr (gg.sqT so), ?_⟩
      rw [lo]
      refine ⟨_, rfl, (by omega), (by omega), fun D hD => lc_grow (walk_rangeN (N := M.N) (by omega)) hD (by omega) (fun j v H => PAt K H v (LP.dueF M du j)) (fun _ _ _ _ g r => r.gw g) (fun _ _ => True.intro) (fun j y H3' H3 hj _ g3 ⟨ws, hw'⟩ hY C9 hC9 => ?_) (fun H3 zs g3 _ hzs lz iz => ?_)⟩
      · obtain ⟨rfl, rfl⟩ := hY
        obtain ⟨x, ex, px⟩ := k3 j (by omega) hj
        have gi : DGet H3 d (.int ((j : Nat) : Int)) (valV kvs (ky j)) := DGet.k (k := ky j) (g3.at k1)
        rw [ex] at gi
        exact ⟨rfl, _, rfl, _, rfl, d, _, rfl, gi, hC9 _ _ (Gw.refl _) (((px.gw Gw.rm_le).gw g3).rm hw')⟩
      · refine ⟨D, zs, rfl, .inl ⟨SqL.of hzs, fun l hl => ?_⟩⟩
        have gl := Gw.new (.tup zs) hl
        exact k _ _ (gg.trans (g3.trans gl)) ⟨l, zs, rfl, SqT.of upd_same, lz, fun j hj => let ⟨y, e, r⟩ := iz j hj; ⟨y, e, (r.gw Gw.rm_le).gw gl⟩⟩
end
end K44


set_option Elab.async false
set_option linter.all false
set_option maxRecDepth 100000
set_option maxHeartbeats 4000000
set_option exponentiation.threshold 3000
/-! costs_for. -/
namespace K44
open PySem L2
open LP (Fit lim S Tr)
theorem dc_it {J : It} {n : Nat} {G : Hp → Prop} {Y : Nat → Hp → V → Hp → Prop} (w : Walk J n G Y) {g : TG} {tt : TT} {tk tv : TE} {vs : List Nat} {σ : L2.St} {H1 : Hp} {D : Addr} {Qd : Hp → Prop} (Pv : Nat → Hp → Prop) (h0 : Pv 0 (upd H1 D (.dK []))) (hG : ∀ i H, i ≤ n → Pv i H → G H)
    (hs : ∀ i x H H', i < n → Pv i H → Y i H x H' → g x (wipe σ vs) H' fun σ2 H2 => wipe σ2 vs = wipe σ vs ∧ tt σ2 H2 fun b H3 =>
      if b = true then tk σ2 H3 fun y H4 => tv σ2 H4 fun z H5 => ∃ kvs k, y = kV k ∧ H5 D = some (.dK kvs) ∧ kvs.length < sizeLine ∧ Pv (i + 1) (upd H5 D (.dK (putK kvs k z))) else Pv (i + 1) H3) (hd : ∀ H, Pv n H → Qd H) :
    ∃ W : Nat → Nat → Hp → Prop, (∃ m, W 0 m (upd H1 D (.dK []))) ∧ ∀ i m H, W i m H →
      (J.stop i H ∧ Qd H) ∨ (J.go i H ∧ ∃ Nx : Hp → Prop, (∀ H', Nx H' → ∃ m', m' < m ∧ W (i + 1) m' H') ∧ ∀ x H', J.yld i H x H' → g x (wipe σ vs) H' fun σ2 H2 => wipe σ2 vs = wipe σ vs ∧ tt σ2 H2 fun b H3 =>
        if b = true then tk σ2 H3 fun y H4 => tv σ2 H4 fun z H5 => ∃ kvs k, y = kV k ∧ H5 D = some (.dK kvs) ∧ kvs.length < sizeLine ∧ Nx (upd H5 D (.dK (putK kvs k z))) else Nx H3) := by
  refine ⟨fun i m H => m = n - i ∧ i ≤ n ∧ Pv i H, ⟨n, by simp, Nat.zero_le _, h0⟩, ?_⟩
  rintro i m H ⟨rfl, hi, p⟩
  have q := hG i H hi p
  by_cases hlt : i < n
  · refine .inr ⟨w.goes i H hlt q, Pv (i + 1), fun H' p' => ⟨n - (i + 1), by omega, rfl, hlt, p'⟩, fun x H' y => hs i x H H' hlt p (w.yields i H x H' hlt q y)⟩
  · have e : i = n := by omega
    subst e
    exact .inl ⟨w.stops H q, hd H p⟩
theorem ctoK {X : Cx} (K : PySem.W.Frag) (h : X.K = K := by rfl) : CallR X (.type "tuple") (fun xs H Q => ∃ p ys, xs = [V.ref p] ∧ ((SqL K H p ys ∧ ∀ (l : Addr), H l = none → Q (V.ref l) (upd H l (HO.tup ys))) ∨ SqT K H p ys ∧ Q (V.ref p) H)) := by subst h; exact call_tuple_of
theorem rm_comm {H : Hp} {a b : Addr} : rm (rm H a) b = rm (rm H b) a := by
  funext c; unfold rm; split <;> split <;> rfl
/-- the dicts found so far -/
def FndAt (K : PySem.W.Frag) (T : Tr) (o : Nat → Option Rat) (H1 H : Hp) (L : Addr) (t : Nat) : Prop := Gw H1 (rm H L) ∧ ∃ ds, H L = some (.lst ds) ∧ ds.length = t ∧ ∀ s, s < t → ∃ d, ds[s]? = some (.ref d) ∧ CostsAt K (rm H L) d T.N 0 (LP.timF T o s)
def spCostsFor (K : PySem.W.Frag) (t : Tabs) : Sp := fun vs H Q _ => ∃ (v ov : V) (T : Tr) (dep : Nat → Nat) (wt : Nat → Rat) (o : Nat → Option Rat) (mo : Nat), vs = [v, ov, .int (mo : Nat)] ∧ mo ≤ 7 ∧ MktAt K H v T ∧ T.Ok dep wt ∧ OptT K H ov T.N o ∧ LP.DuO T.N o ∧ TabsOk t H ∧
  Ans H (fun v H' => ∃ a zs, v = .ref a ∧ SqT K H' a zs ∧ zs.length = mo + 1 ∧ ∀ s, s < mo + 1 → ∃ x, zs[s]? = some x ∧ VT K H' x T.N (LP.timF T o s)) Q
section
variable {P : Program} {w : World} {K : PySem.W.Frag} {mg : Str → Option Value} {base : Heap}
theorem scCostsFor : FnScope ["market", "offer", "most", "found", "_", "costs", "node"] ["market", "offer", "most"] (defScope sCostsFor) := ⟨rfl, rfl, rfl, by decide +kernel, rfl, by decide +kernel, by decide +kernel⟩
theorem ok_costsFor {t : Tabs} {f : Addr} {fd : FuncData} (F : Fun K "costs_for" "costs_for" sCostsFor f fd) (T : Txt K mg) (C0 : Cal P w K mg base "is_number" 1 ["value", "least", "most"] spIsNumber) (C1 : CCheck P w K mg base) (C2' : CNeeded P w K mg base t) (C3 : CMostOf P w K mg base) (C4 : CPlus P w K mg base) : FnOk P w K mg base CX0 12 f fd ["market", "offer", "most"] (spCostsFor K t) := by
  refine F.ok scCostsFor (fun vs H Q E h => ?_) (fun cdv A outer s H vs Q E hr h => ?_)
  · obtain ⟨v, ov, T, dep, wt, o, mo, rfl, _⟩ := h
    rfl
  · obtain ⟨v, ov, M, dep, wt, o, mo, rfl, hmo, hM, ok, ho, hdu, ht, k⟩ := h
    have hu := hu_of hr
    obtain ⟨az, hz, zt⟩ := T.zero
    obtain ⟨tm, hmt⟩ := T.mostTimes
    refine ⟨_, pss_cons (ps_if (pt_not (pt_val (pe_call C0.ok (hr.mono (by decide)) rfl C0.hm C0.kp C0.b .nil pass0 (pa_cons (pv 2) (pa_cons pe_int (pa_cons (pe_glob (v := .int 7) rfl hmt ⟨tm, rfl⟩) pa_nil)))))) (pss_one ps_never) pss_nil)
      (pss_cons (ps_expr (pe_call C1.ok (hr.mono (by decide)) rfl C1.hm C1.kp C1.b .nil pass0 (pa_cons (pv 0) pa_nil)))
      (pss_cons (ps_set (i := 3) scCostsFor.nd rfl (Or.inl rfl) (pe_lst (pa_cons (pe_dc (own := [("node", 6)]) (g := gName 6) (tt := tYes) rfl scCostsFor.nd (pi_range1 rfl T.range (pa_cons (pe_callB (lenK K) (by rfl) T.len PySem.boot_len (pa_cons (pv 1) pa_nil)) pa_nil)) (blkOk_by (N := ["market", "offer", "most", "found", "_", "costs", "node"]) (by kernel_rfl))
          (fun _ _ _ _ _ => pg_name (i := 6) scCostsFor.nd rfl (Or.inl rfl)) (fun _ _ _ _ _ => pts_nil) (fun _ _ _ _ _ => pv 6) (fun _ _ _ _ _ => pe_glob (v := .ref az) rfl hz rfl)) pa_nil)))
      (pss_cons (ps_for PassesOwn.never rfl (pi_range1 rfl T.range (pa_cons (pv 2) pa_nil)) (pg_name (i := 4) scCostsFor.nd rfl (Or.inl rfl))
        (pss_cons (ps_set (i := 5) scCostsFor.nd rfl (Or.inl rfl) pe_dnewK)
        (pss_cons (ps_for PassesOwn.never rfl (pi_range3 rfl T.range (pa_cons (pe_op op_sub (pe_callB (lenK K) (by rfl) T.len PySem.boot_len (pa_cons (pv 1) pa_nil)) pe_int) (pa_cons (pe_un un_neg pe_int) (pa_cons (pe_un un_neg pe_int) pa_nil)))) (pg_name (i := 6) scCostsFor.nd rfl (Or.inl rfl))
          (pss_cons (ps_dput hu (pv 5) (pv 6) (pe_call C2'.ok hr rfl C2'.hm C2'.kp C2'.b .nil pass0 (pa_cons (pv 0) (pa_cons (pv 6) (pa_cons (pv 5) pa_nil)))) rfl)
          (pss_one (ps_if (pt_cmp (pc_notN (pe_ix (ixT K) (pv 1) (pv 6) (fun _ _ => rfl)))) (pss_one (ps_dput hu (pv 5) (pv 6) (pe_call C3.ok (hr.mono (by decide)) rfl C3.hm C3.kp C3.b .nil pass0 (pa_cons (pe_lst (pa_cons (pe_dget hu (pv 5) (pv 6) (fun _ _ => rfl)) (pa_cons
            (pe_call C4.ok (hr.mono (by decide)) rfl C4.hm C4.kp C4.b .nil pass0 (pa_cons (pe_ix (ixT K) (pv 1) (pv 6) (fun _ _ => rfl)) (pa_cons (pe_call C2'.ok hr rfl C2'.hm C2'.kp C2'.b .nil pass0 (pa_cons (pv 0) (pa_cons (pv 6) (pa_cons (pe_ix (ixL K) (pv 3) (pe_un un_neg pe_int) (fun _ _ => rfl)) pa_nil)))) pa_nil))) pa_nil))) pa_nil)) rfl)) pss_nil))))
        (pss_one (ps_expr (pe_bm PySem.F.plainAttrs_list PySem.F.slot_list_append PySem.F.type_list_append mt_append (pv 3) (pa_cons (pv 5) pa_nil))))))
      )
      (pss_one (ps_ret (pe_callTy call_tuple_of (by rfl) T.tuple (by decide +kernel) (pa_cons
        (pe_lc (own := [("costs", 5)]) (g := gName 5) (tt := tYes) rfl scCostsFor.nd (pi_list (pv 3)) (blkOk_by (N := ["market", "offer", "most", "found", "_", "costs", "node"]) (by kernel_rfl))
          (fun _ _ _ _ _ => pg_name (i := 5) scCostsFor.nd rfl (Or.inr rfl)) (fun _ _ _ _ _ => pts_nil) (fun _ _ _ _ _ => pe_callTy (T := "tuple") (ctoK K) (by rfl) T.tuple (by decide +kernel) (pa_cons
            (pe_lc (own := [("node", 6)]) (g := gName 6) (tt := tYes) rfl scCostsFor.nd (pi_range1 rfl T.range (pa_cons (pe_callB (lenK K) (by rfl) T.len PySem.boot_len (pa_cons (pv 1) pa_nil)) pa_nil)) (blkOk_by (N := ["market", "offer", "most", "found", "_", "costs", "node"]) (by kernel_rfl))
              (fun _ _ _ _ _ => pg_name (i := 6) scCostsFor.nd rfl (Or.inl rfl)) (fun _ _ _ _ _ => pts_nil) (fun _ _ _ _ _ => pe_dget hu (pv 5) (pv 6) (fun _ _ => rfl))) pa_nil))) pa_nil))))))), ?_⟩
    obtain ⟨ao, vo, rfl, so, lo, io⟩ := id ho
    have n12 := ok.n12
    refine ⟨_, rfl, _, _, _, rfl, _, rfl, ?_⟩
    rw [decide_eq_true (show (0 : Int) ≤ ((mo : Nat) : Int) by omega), decide_eq_true (show ((mo : Nat) : Int) ≤ 7 by omega)]
    refine iteF ⟨_, rfl, _, M, dep, wt, rfl, hM, ok, fun v1 H1 g1 _ => ?_⟩
    have so1 := g1.sqT so
    refine ⟨_, rfl, ao, vo, rfl, .inr so1, ?_⟩
    rw [lo]
    refine ⟨_, rfl, (by omega), (by omega), fun D hD => ?_⟩
    refine dc_it (walk_rangeN (N := M.N) (by omega)) (fun i H' => Gw H1 (rm H' D) ∧ ∃ kvs, H' D = some (.dK kvs) ∧ kvs.length ≤ i ∧ ∀ j, j < i → ∃ x, valV kvs (ky j) = some x ∧ PAt K (rm H' D) x 0)
      ⟨by rw [rm_upd, rm_none hD]; exact Gw.refl _, [], upd_same, Nat.le_refl _, fun j hj => by omega⟩ (fun _ _ _ _ => True.intro) ?_ ?_
    · rintro i y H2' H2 hi ⟨g2, kvs, q1, q2, q3⟩ ⟨rfl, rfl⟩
      refine ⟨rfl, ?_⟩
      dsimp only [tYes]
      rw [if_pos rfl]
      refine ⟨_, rfl, kvs, ky i, rfl, q1, small1000 (by omega), by rw [rm_upd]; exact g2, _, upd_same, Nat.le_trans putK_le (by omega), fun j hj => ?_⟩
      rw [rm_upd, valV_put]
      by_cases e : j = i
      · subst e
        rw [if_pos rfl]
        exact ⟨_, rfl, ⟨az, rfl, zt _⟩, fit_zero⟩
      · rw [if_neg (fun z => e (ky_inj z))]
        exact q3 j (by omega)
    rintro H2 ⟨g2, kvs, q1, q2, q3⟩
    have c0 : CostsAt K H2 D M.N 0 (LP.timF M o 0) := ⟨kvs, q1, by omega, fun j _ hj => q3 j hj⟩
    refine ⟨(show 1 ≤ sizeLine by decide), fun L hL => ?_⟩
    have fa0 : FndAt K M o H (upd H2 L (.lst [V.ref D])) L 1 := by
      refine ⟨by rw [rm_upd, rm_none hL]; exact g1.trans (g2.trans Gw.rm_le), [V.ref D], upd_same, rfl, fun s hs => ⟨D, ?_, ?_⟩⟩
      · have : s = 0 := by omega
        subst this; rfl
      · have : s = 0 := by omega
        subst this
        rw [rm_upd, rm_none hL]; exact c0
    refine ⟨_, rfl, (mo : Int), rfl, by omega, by omega, ?_⟩
    refine for_it (walk_rangeN (N := mo) (by omega)) (fun tt σ H' => (∃ u4 u5 u6, σ = [some v, some (.ref ao), some (.int (mo : Nat)), some (.ref L), u4, u5, u6]) ∧ FndAt K M o H H' L (tt + 1)) ⟨⟨_, _, _, rfl⟩, fa0⟩ (fun _ _ _ _ _ => True.intro) ?_ ?_
    · rintro tt y σ H3' H3 htt ⟨⟨u4, u5, u6, rfl⟩, gL, ds, l1, l2, l3⟩ ⟨rfl, rfl⟩
      have g3 := gL.trans Gw.rm_le
      intro d hd
      have so3 := (g3.trans (Gw.new (.dK []) hd)).sqT so
      have cz := LP.tim_cz ok hdu
      have neL : d ≠ L := fun z => by rw [z, l1] at hd; cases hd
      refine ⟨_, rfl, ao, vo, rfl, .inr so3, _, _, rfl, rfl, 1, rfl, 1, rfl, ?_⟩
      rw [lo]
      refine ⟨_, _, _, M.N, rfl, rg_down (by omega), ?_⟩
      refine for_it walk_down (fun s σ H' => (∃ u6, σ = [some v, some (.ref ao), some (.int (mo : Nat)), some (.ref L), some (.int (tt : Nat)), some (.ref d), u6]) ∧ Gw H3 (rm H' d) ∧ (∃ kvs, H' d = some (.dK kvs) ∧ kvs.length ≤ 2 * s) ∧ CostsAt K H' d M.N (M.N - s) (LP.timF M o (tt + 1)))
        ⟨⟨_, rfl⟩, by rw [rm_upd, rm_none hd]; exact Gw.refl _, ⟨[], upd_same, Nat.le_refl _⟩, [], upd_same, by decide, fun j h1 h2 => by omega⟩ (fun _ _ _ _ _ => True.intro) ?_ ?_
      · rintro s y σ H4' H4 hs ⟨⟨u6, rfl⟩, g4, ⟨kv0, kq, kl⟩, co⟩ ⟨rfl, rfl⟩
        dsimp only
        have G4 := g4.trans Gw.rm_le
        have gg := g3.trans G4
        have hi : M.N - 1 - s < M.N := by omega
        have e1 : M.N - 1 - s + 1 = M.N - s := by omega
        have e2 : M.N - (s + 1) = M.N - 1 - s := by omega
        rw [e2]
        generalize M.N - 1 - s = i at hi e1
        rw [← e1] at co
        refine ⟨_, rfl, _, rfl, _, rfl, _, d, M, dep, wt, i, _, rfl, hM.gw gg, ok, hi, co, fun j _ hj => cz _ j hj, ht.gw gg, fun v5 H5 g5 r5 => ?_⟩
        obtain ⟨kvs, k1, k2, k3⟩ := co.gw g5
        have kl : kvs.length ≤ 2 * s := by
          have := g5.at kq
          rw [k1] at this; cases this; exact kl
        obtain ⟨x, ex, px⟩ := io i hi
        have r5 : PAt K H5 v5 (LP.tkv M i (LP.timF M o (tt + 1))) := r5
        have fe := LP.tim_eq ok o tt hi
        have c6 := cost_put (f := fun j => if j = i then LP.tkv M i (LP.timF M o (tt + 1)) else LP.timF M o (tt + 1) j) (N := M.N) (i := i) k1 (by omega) (fun j h1 h2 => by rw [if_neg (by omega)]; exact k3 j h1 h2) (by rw [if_pos rfl]; exact r5)
        have k6 : upd H5 d (.dK (putK kvs (ky i) v5)) d = some (.dK (putK kvs (ky i) v5)) := upd_same
        have r6 : PAt K (upd H5 d (.dK (putK kvs (ky i) v5))) v5 (LP.tkv M i (LP.timF M o (tt + 1))) := (r5.rmK k1).gw Gw.rm_up
        have g6 : Gw H3 (rm (upd H5 d (.dK (putK kvs (ky i) v5))) d) := by rw [rm_upd]; exact g4.trans g5.rm
        have gi : DGet (upd H5 d (.dK (putK kvs (ky i) v5))) d (.int ((i : Nat) : Int)) (some v5) := by
          have := DGet.k (k := ky i) k6
          rw [valV_put, if_pos rfl] at this
          exact this
        have lk : (putK kvs (ky i) v5).length ≤ 2 * s + 1 := Nat.le_trans putK_le (by omega)
        refine ⟨_, rfl, _, rfl, d, _, rfl, DPut.k (k := ky i) k1 (small1000 (by omega)), ?_⟩
        generalize upd H5 d (.dK (putK kvs (ky i) v5)) = H6 at c6 k6 r6 g6 gi
        generalize putK kvs (ky i) v5 = kv6 at k6 lk
        have G6 := g6.trans Gw.rm_le
        have gg6 := g3.trans G6
        have so6 := gg6.sqT so
        refine ⟨_, rfl, _, rfl, _, _, _, _, rfl, rfl, so6, at_of rfl ex, _, rfl, ?_⟩
        cases eo : o i with
        | none =>
          rw [eo] at px
          have px : x = .non := px
          subst px
          refine iteF ⟨⟨_, rfl⟩, g6, ⟨_, k6, by omega⟩, c6.congr fun j h1 h2 => ?_⟩
          by_cases e : j = i
          · rw [if_pos e, e, fe]; unfold LP.timG; rw [eo]
          · rw [if_neg e]
        | some q =>
          rw [eo] at px
          obtain ⟨⟨ax, rfl, _⟩, _⟩ := id px
          obtain ⟨dt, dt1, dt2⟩ := l3 tt (by omega)
          have cot := ((dt2.gw Gw.rm_le).gw G6).mono (lo' := i + 1) (Nat.zero_le _)
          have fit := ok.fitz hi (ok.addz hi (LP.tkv_cv ok hi fun j _ hj => cz tt j hj) (hdu i q hi eo))
          refine iteT ⟨_, rfl, _, rfl, d, _, rfl, gi, _, rfl, _, rfl, _, _, _, _, rfl, rfl, so6, at_of rfl ex, _, rfl, _, rfl, _, rfl, 1, rfl, _, _, _, _, rfl, rfl, SqL.of (G6.at l1), at_last l2 dt1, _, dt, M, dep, wt, i, _, rfl, hM.gw gg6, ok, hi, cot, fun j _ hj => cz tt j hj, ht.gw gg6, fun v7 H7 g7 r7 => ?_⟩
          refine ⟨_, _, _, _, rfl, px.gw (gg6.trans g7), r7, fit, fun v8 H8 g8 r8 => ⟨(show 2 ≤ sizeLine by decide), fun l hl => ?_⟩⟩
          have gl := Gw.new (.lst [v5, v8]) hl
          refine ⟨l, _, _, _, _, rfl, SqL.of upd_same, PAt.gw r6 (g7.trans (g8.trans gl)), PAt.gw r8 gl, fun v9 H9 g9 r9 => ?_⟩
          have g69 := g7.trans (g8.trans (gl.trans g9))
          obtain ⟨kvs', p1, p2, p3⟩ := c6.gw g69
          obtain rfl : kvs' = kv6 := by
            have := g69.at k6
            rw [p1] at this; cases this; rfl
          refine ⟨_, rfl, _, rfl, d, _, rfl, DPut.k (k := ky i) p1 (small1000 (by omega)), ⟨_, rfl⟩, by rw [rm_upd]; exact g6.trans g69.rm, ⟨_, upd_same, Nat.le_trans putK_le (by omega)⟩, cost_put p1 (by omega) (fun j h1 h2 => ?_) ?_⟩
          · obtain ⟨x, e, p⟩ := p3 j (by omega) h2
            dsimp only at p
            rw [if_neg (by omega)] at p
            exact ⟨x, e, p⟩
          · rw [fe]; unfold LP.timG; rw [eo]; exact r9
      · rintro σ H4 ⟨⟨u6, rfl⟩, g4, _, kvs, k1, k2, k3⟩
        have G4 := g4.trans Gw.rm_le
        have L4 := G4.at l1
        refine ⟨_, rfl, .inl ⟨rfl, _, SqL.of L4⟩, _, rfl, L, ds, .ref d, rfl, rfl, L4, small1000 (by omega), ⟨_, _, _, rfl⟩, by rw [rm_upd]; exact gL.trans G4.rm, _, upd_same, by rw [List.length_append, l2]; rfl, fun s hs => ?_⟩
        rw [rm_upd]
        by_cases e : s < tt + 1
        · obtain ⟨ds', e1, e2⟩ := l3 s e
          exact ⟨ds', by rw [List.getElem?_append_left (by omega)]; exact e1, e2.gw G4.rm⟩
        · have : s = tt + 1 := by omega
          subst this
          refine ⟨d, by rw [List.getElem?_append_right (by omega), l2, Nat.sub_self]; rfl, kvs, by rw [rm_ne neL]; exact k1, k2, fun j h1 h2 => ?_⟩
          obtain ⟨x, e1, e2⟩ := k3 j (by omega) h2
          refine ⟨x, e1, ?_⟩
          rw [rm_comm]
          exact e2.rm (ys := ds) (by rw [rm_ne (Ne.symm neL)]; exact L4)
    · rintro σ H3 ⟨⟨u4, u5, u6, rfl⟩, gL, ds, l1, l2, l3⟩
      have g3 := gL.trans Gw.rm_le
      refine ⟨_, rfl, L, rfl, ⟨ds, SqL.of l1⟩, fun D hD => lc_grow (walk_listY (K := K) (a := L) (xs := ds) (n := mo + 1) l2) hD (by omega) (fun s v H => VT K H v M.N (LP.timF M o s)) (fun _ _ _ _ g r => r.gw g) (fun H' g => SqL.of (g.at l1)) (fun s y H4' H4 hs _ g4 ⟨ws, hw'⟩ hY C9 hC9 => ?_) (fun H4 zs g4 _ hzs lz iz => ?_)⟩
      · obtain ⟨rfl, hy⟩ := hY
        obtain ⟨d, d1, d2⟩ := l3 s (by omega)
        rw [d1] at hy
        cases hy
        obtain ⟨kvs, k1, k2, k3⟩ := (d2.gw Gw.rm_le).gw g4
        refine ⟨rfl, ?_⟩
        refine ⟨_, rfl, ao, vo, rfl, .inr ((g3.trans g4).sqT so), ?_⟩
        rw [lo]
        refine ⟨_, rfl, (by omega), (by omega), fun D2 hD2 => lc_grow (walk_rangeN (N := M.N) (by omega)) hD2 (by omega) (fun j v H => PAt K H v (LP.timF M o s j)) (fun _ _ _ _ g r => r.gw g) (fun _ _ => True.intro) (fun j y H5' H5 hj _ g5 ⟨ws', hw5⟩ hY C5 hC5 => ?_) (fun H5 zs' g5 _ hzs' lz' iz' => ?_)⟩
        · obtain ⟨rfl, rfl⟩ := hY
          obtain ⟨x, ex, px⟩ := k3 j (by omega) hj
          have gi : DGet H5 d (.int ((j : Nat) : Int)) (valV kvs (ky j)) := DGet.k (k := ky j) (g5.at k1)
          rw [ex] at gi
          exact ⟨rfl, _, rfl, _, rfl, d, _, rfl, gi, hC5 _ _ (Gw.refl _) (((px.gw Gw.rm_le).gw g5).rm hw5)⟩
        · refine ⟨D2, zs', rfl, .inl ⟨SqL.of hzs', fun l hl => ?_⟩⟩
          have gl := Gw.new (.tup zs') hl
          have vt : VT K (upd H5 l (.tup zs')) (.ref l) M.N (LP.timF M o s) := ⟨l, zs', rfl, SqT.of upd_same, lz', fun j hj => let ⟨y, e, r⟩ := iz' j hj; ⟨y, e, (r.gw Gw.rm_le).gw gl⟩⟩
          exact hC9 _ _ (g5.trans gl) (vt.rmD ((g5.trans gl).at hw'))
      · refine ⟨D, zs, rfl, .inl ⟨SqL.of hzs, fun l hl => ?_⟩⟩
        have gl := Gw.new (.tup zs) hl
        exact k _ _ (g3.trans (g4.trans gl)) ⟨l, zs, rfl, SqT.of upd_same, lz, fun j hj => let ⟨y, e, r⟩ := iz j hj; ⟨y, e, (r.gw Gw.rm_le).gw gl⟩⟩
end
end K44


set_option Elab.async false
set_option linter.all false
set_option maxRecDepth 100000
set_option maxHeartbeats 4000000
set_option exponentiation.threshold 3000
/-! is_word, are_names, are_prices, is_offer. -/
namespace K44
open PySem L2
open LP (Fit lim S Tr)
abbrev sIsWord : Stmt := top 11
abbrev sAreNames : Stmt := top 32
abbrev sArePrices : Stmt := top 33
abbrev sIsOffer : Stmt := top 54
def spIsWord (t : Tabs) : Sp := fun vs H Q _ => ∃ z : Str, vs = [.str z] ∧ (z = "coin" ∨ z = "oil") ∧ TabsOk t H ∧ Ans H (fun v _ => v = .bl true) Q
def spAreNames (K : PySem.W.Frag) (t : Tabs) : Sp := fun vs H Q _ => ∃ a : Addr, vs = [.ref a] ∧ SqT K H a [.str "coin", .str "oil"] ∧ TabsOk t H ∧ Ans H (fun v _ => v = .bl true) Q
def spArePrices (K : PySem.W.Frag) (t : Tabs) : Sp := fun vs H Q _ => ∃ (x : V) (n : Nat) (f : Nat → Rat), vs = [x, .int (n : Nat)] ∧ VT K H x n f ∧ 0 < n ∧ (∀ i, i < n → 0 ≤ f i) ∧ 0 < f 0 ∧ TabsOk t H ∧ Ans H (fun v _ => v = .bl true) Q
def spIsOffer (K : PySem.W.Frag) (t : Tabs) : Sp := fun vs H Q _ => ∃ (v ov : V) (T : Tr) (o : Nat → Option Rat), vs = [v, ov] ∧ MktAt K H v T ∧ OptT K H ov T.N o ∧ TabsOk t H ∧ Ans H (fun v _ => v = .bl true) Q
theorem notInK {X : Cx} (K : PySem.W.Frag) (h : X.K = K := by rfl) : OpR X (compareOp .NotIn) (rIn K true) := by subst h; exact op_notIn_seq
theorem inK {X : Cx} (K : PySem.W.Frag) (h : X.K = K := by rfl) : OpR X (compareOp .In) (rIn K false) := by subst h; exact op_in_seq
theorem sign_ok {z : Str} (h : z = "coin" ∨ z = "oil") {i : Nat} {c : Nat} (e : z.cps[i]? = some c) : decide (c ∈ (Str.ofString "abcdefghijklmnopqrstuvwxyz").cps.toList) = true := by
  have key : z.cps.toList.all (fun c => decide (c ∈ (Str.ofString "abcdefghijklmnopqrstuvwxyz").cps.toList)) = true := by
    rcases h with rfl | rfl <;> decide +kernel
  rw [List.all_eq_true] at key
  refine key c ?_
  have : z.cps.toList[i]? = some c := by rw [Array.getElem?_toList]; exact e
  exact List.mem_of_getElem? this
section
variable {P : Program} {w : World} {K : PySem.W.Frag} {mg : Str → Option Value} {base : Heap}
theorem scIsWord : FnScope ["value", "sign"] ["value"] (defScope sIsWord) := ⟨rfl, rfl, rfl, by decide +kernel, rfl, by decide +kernel, by decide +kernel⟩
theorem scAreNames : FnScope ["value", "one", "at"] ["value"] (defScope sAreNames) := ⟨rfl, rfl, rfl, by decide +kernel, rfl, by decide +kernel, by decide +kernel⟩
theorem scArePrices : FnScope ["value", "many", "one"] ["value", "many"] (defScope sArePrices) := ⟨rfl, rfl, rfl, by decide +kernel, rfl, by decide +kernel, by decide +kernel⟩
theorem scIsOffer : FnScope ["market", "value", "one"] ["market", "value"] (defScope sIsOffer) := ⟨rfl, rfl, rfl, by decide +kernel, rfl, by decide +kernel, by decide +kernel⟩
theorem ok_isWord {t : Tabs} {c f : Addr} {fd : FuncData} (F : FunC K "is_word" "is_word" sIsWord c f fd) (T : Txt K mg) (TB : GxR.TabB base mg c t.word) : FnOk P w K mg base CX0 3 f fd ["value"] (spIsWord t) := by
  refine F.ok scIsWord (fun vs H Q E h => ?_) (fun A outer s H vs Q E hr h => ?_)
  · obtain ⟨z, rfl, _⟩ := h
    rfl
  · obtain ⟨z, rfl, hz, ht, k⟩ := h
    obtain ⟨tl, hL⟩ := T.letters
    refine ⟨_, pss_one (ps_ret (pe_and (pe_callB (isiK K) (by rfl) T.isi (by decide +kernel) (pa_cons (pv 0) (pa_cons (pe_bltn (v := .ty "str") (by rfl) T.str (by decide +kernel) rfl) pa_nil)))
      (pe_and (pe_chain op_le op_le pe_int (pe_callB call_len_str (by rfl) T.len PySem.boot_len (pa_cons (pv 0) pa_nil)) pe_int)
      (pe_one (GA.pe_allG (k := 1) (own := [("sign", 1)]) (g := gName 1) (hr.mono (by decide)) rfl scIsWord.nd rfl T.all TB rfl (pi_str (pv 0)) (blkOk_by (N := ["value", "sign"]) (sc := defScope sIsWord) (by decide +kernel)) ⟨rfl, by decide +kernel, rfl⟩
        (fun _ _ _ _ _ _ => pg_name (i := 1) scIsWord.nd rfl (Or.inl rfl)) (fun _ _ _ _ _ _ hr' => pe_cmpR op_inS (pv 1) (pe_glob (v := .str "abcdefghijklmnopqrstuvwxyz") rfl hL ⟨tl, rfl⟩) rfl)))))), ?_⟩
    have hlen : 1 ≤ z.length ∧ z.length ≤ 6 := by rcases hz with rfl | rfl <;> decide +kernel
    refine ⟨_, rfl, _, _, _, _, _, rfl, .ty _, .base (.str _), kit_ty (r := true) (by decide +kernel), _, rfl, iteT ?_⟩
    refine ⟨_, rfl, z, rfl, Nat.le_trans hlen.2 (by decide), _, _, rfl, rfl, _, rfl, ?_⟩
    rw [decide_eq_true (show (1 : Int) ≤ (z.length : Nat) by omega)]
    refine iteT ⟨_, _, rfl, rfl, _, rfl, ?_⟩
    rw [decide_eq_true (show ((z.length : Nat) : Int) ≤ 6 by omega)]
    refine iteT ⟨_, rfl, z, rfl, ht.word, fun H2 tb => ?_⟩
    refine plan_it walk_str (H0 := H2) (fun _ => true) (fun H' g => True.intro) (fun i x H1 H' hi g y C hC => ?_) (fun _ _ _ _ z => by cases z) (fun H' _ g => k _ _ ((Gw.tab ht.word tb).trans g) rfl)
    obtain ⟨rfl, cc, hx, rfl⟩ := y
    refine ⟨rfl, _, rfl, cc, _, rfl, rfl, ?_⟩
    rw [sign_ok hz hx]
    exact hC _ (Gw.refl _)
theorem ok_areNames {t : Tabs} {c f : Addr} {fd : FuncData} (F : FunC K "are_names" "are_names" sAreNames c f fd) (T : Txt K mg) (TB : GxR.TabB base mg c t.names) (C : Cal P w K mg base "is_word" 3 ["value"] (spIsWord t)) : FnOk P w K mg base CX0 5 f fd ["value"] (spAreNames K t) := by
  refine F.ok scAreNames (fun vs H Q E h => ?_) (fun A outer s H vs Q E hr h => ?_)
  · obtain ⟨a, rfl, _⟩ := h
    rfl
  · obtain ⟨a, rfl, hs, ht, k⟩ := h
    obtain ⟨tn, hN⟩ := T.mostNames
    refine ⟨_, pss_cons (ps_if (PW.pt (pw_or (pt_not (pt_val (pe_callB (isiK K) (by rfl) T.isi (by decide +kernel) (pa_cons (pv 0) (pa_cons (pe_bltn (v := .ty "tuple") (by rfl) T.tuple (by decide +kernel) rfl) pa_nil)))))
        (pw_or1 (pt_not (pt_chain op_le op_le pe_int (pe_callB (lenK K) (by rfl) T.len PySem.boot_len (pa_cons (pv 0) pa_nil)) (pe_glob (v := .int 3) rfl hN ⟨tn, rfl⟩)))))) (pss_one ps_never) pss_nil)
      (pss_one (ps_ret (pe_and (GA.pe_allG (k := 3) (own := [("one", 1)]) (g := gName 1) hr rfl scAreNames.nd rfl T.all TB rfl (pi_tup (pv 0)) (blkOk_by (N := ["value", "one", "at"]) (sc := defScope sAreNames) (by decide +kernel)) ⟨rfl, by decide +kernel, rfl⟩
          (fun _ _ _ _ _ _ => pg_name (i := 1) scAreNames.nd rfl (Or.inl rfl)) (fun _ _ _ _ _ _ hr' => pe_call C.ok hr' rfl C.hm C.kp C.b .nil pass0 (pa_cons (pv 1) pa_nil)))
        (pe_one (GA.pe_allG (k := 3) (own := [("at", 2)]) (g := gName 2) hr rfl scAreNames.nd rfl T.all TB rfl (pi_range1 rfl T.range (pa_cons (pe_callB (lenK K) (by rfl) T.len PySem.boot_len (pa_cons (pv 0) pa_nil)) pa_nil)) (blkOk_by (N := ["value", "one", "at"]) (sc := defScope sAreNames) (by decide +kernel)) ⟨rfl, by decide +kernel, rfl⟩
          (fun _ _ _ _ _ _ => pg_name (i := 2) scAreNames.nd rfl (Or.inl rfl)) (fun _ _ _ _ _ _ hr' => pe_cmpR (notInK K) (pe_ix (ixT K) (pv 0) (pv 2) (fun _ _ => rfl)) (pe_slice (slT K) (pv 0) po_none (po_some (pv 2))) rfl)))))), ?_⟩
    refine ⟨_, rfl, _, _, _, _, _, rfl, .ty _, tyx_tup hs, kit_ty (r := true) (by decide +kernel), _, rfl, iteF ?_⟩
    refine ⟨_, rfl, a, _, rfl, .inr hs, _, _, rfl, rfl, _, rfl, iteT ⟨_, _, rfl, rfl, _, rfl, iteF ?_⟩⟩
    refine ⟨_, rfl, a, rfl, ⟨_, hs⟩, ht.names, fun H2 tb => ?_⟩
    have g2 := Gw.tab ht.names tb
    refine plan_it (walk_tupY (xs := [V.str "coin", V.str "oil"]) (n := 2) rfl) (H0 := H2) (fun _ => true) (fun H' g => (g2.trans g).sqT hs) (fun i x H1 H' hi g y C9 hC => ?_) (fun _ _ _ _ z => by cases z) (fun H3 _ g3 => ?_)
    · obtain ⟨rfl, hx⟩ := y
      have : ∃ z : Str, x = .str z ∧ (z = "coin" ∨ z = "oil") := by
        have h2 : i = 0 ∨ i = 1 := by omega
        rcases h2 with rfl | rfl
        · exact ⟨_, (Option.some.inj hx).symm, .inl rfl⟩
        · exact ⟨_, (Option.some.inj hx).symm, .inr rfl⟩
      obtain ⟨z, rfl, hz⟩ := this
      exact ⟨rfl, _, rfl, z, rfl, hz, ht.gw (g2.trans g), fun v H' g e => by rw [e]; exact hC _ g⟩
    have g23 := g2.trans g3
    have t3 := (ht.gw g23).names
    refine ⟨_, rfl, iteT ⟨_, rfl, a, _, rfl, .inr (g23.sqT hs), _, rfl, by decide, by decide, t3, fun H4 tb4 => ?_⟩⟩
    have g4 := g23.trans (Gw.tab t3 tb4)
    refine plan_it (walk_rangeN (N := 2) rfl) (H0 := H4) (fun _ => true) (fun _ _ => True.intro) (fun i x H1 H' hi g y C9 hC => ?_) (fun _ _ _ _ z => by cases z) (fun H' _ g => k _ _ (g4.trans g) rfl)
    obtain ⟨rfl, rfl⟩ := y
    have hs' := (g4.trans g).sqT hs
    have h2 : i = 0 ∨ i = 1 := by omega
    have sl : HT.sIx ([V.str "coin", V.str "oil"] : List V).length 0 none = 0 := rfl
    rcases h2 with rfl | rfl
    · refine ⟨rfl, _, rfl, _, rfl, _, _, _, _, rfl, rfl, hs', atI_nat (j := 0) rfl, _, rfl, _, rfl, 0, rfl, a, _, rfl, hs', (fun z => absurd z.2 (by decide)), fun p hp => ?_⟩
      have gp := Gw.new (.tup (cutV [V.str "coin", V.str "oil"] none (some 0))) hp
      exact ⟨p, _, rfl, .inr (SqT.of upd_same), rfl, rfl, hC _ gp⟩
    · refine ⟨rfl, _, rfl, _, rfl, _, _, _, _, rfl, rfl, hs', atI_nat (j := 1) rfl, _, rfl, _, rfl, 1, rfl, a, _, rfl, hs', (fun z => absurd z.2 (by decide)), fun p hp => ?_⟩
      have gp := Gw.new (.tup (cutV [V.str "coin", V.str "oil"] none (some 1))) hp
      exact ⟨p, _, rfl, .inr (SqT.of upd_same), rfl, rfl, hC _ gp⟩
theorem ok_arePrices {t : Tabs} {c f : Addr} {fd : FuncData} (F : FunC K "are_prices" "are_prices" sArePrices c f fd) (T : Txt K mg) (TB : GxR.TabB base mg c t.prices) (C : Cal P w K mg base "is_part" 2 ["value"] (spIsPart K)) (C1 : CLess P w K mg base) : FnOk P w K mg base CX0 4 f fd ["value", "many"] (spArePrices K t) := by
  refine F.ok scArePrices (fun vs H Q E h => ?_) (fun A outer s H vs Q E hr h => ?_)
  · obtain ⟨x, n, f, rfl, _⟩ := h
    rfl
  · obtain ⟨x, n, f, rfl, ⟨a, vs, rfl, hs, hl, hit⟩, n0, f0, fp, ht, k⟩ := h
    obtain ⟨az, hz, zt⟩ := T.zero
    refine ⟨_, pss_cons (ps_if (PW.pt (pw_or (pt_not (pt_val (pe_callB (isiK K) (by rfl) T.isi (by decide +kernel) (pa_cons (pv 0) (pa_cons (pe_bltn (v := .ty "tuple") (by rfl) T.tuple (by decide +kernel) rfl) pa_nil)))))
        (pw_or (pt_cmpR op_ne (pe_callB (lenK K) (by rfl) T.len PySem.boot_len (pa_cons (pv 0) pa_nil)) (pv 1) (nomark _))
        (pw_or1 (pt_not (pt_val (GA.pe_allG (k := 2) (own := [("one", 2)]) (g := gName 2) hr rfl scArePrices.nd rfl T.all TB rfl (pi_tup (pv 0)) (blkOk_by (N := ["value", "many", "one"]) (sc := defScope sArePrices) (by decide +kernel)) ⟨rfl, by decide +kernel, rfl⟩
          (fun _ _ _ _ _ _ => pg_name (i := 2) scArePrices.nd rfl (Or.inl rfl)) (fun _ _ _ _ _ _ hr' => pe_call C.ok hr' rfl C.hm C.kp C.b .nil pass0 (pa_cons (pv 2) pa_nil))))))))) (pss_one ps_never) pss_nil)
      (pss_one (ps_ret (pe_and (pe_not (GA.pe_anyG (k := 2) (own := [("one", 2)]) (g := gName 2) hr rfl scArePrices.nd rfl T.any TB rfl (pi_tup (pv 0)) (blkOk_by (N := ["value", "many", "one"]) (sc := defScope sArePrices) (by decide +kernel)) ⟨rfl, by decide +kernel, rfl⟩
          (fun _ _ _ _ _ _ => pg_name (i := 2) scArePrices.nd rfl (Or.inl rfl)) (fun _ _ _ _ _ _ hr' => pe_call C1.ok (hr'.mono (by decide)) rfl C1.hm C1.kp C1.b .nil pass0 (pa_cons (pv 2) (pa_cons (pe_glob (v := .ref az) rfl hz rfl) pa_nil)))))
        (pe_one (pe_call C1.ok (hr.mono (by decide)) rfl C1.hm C1.kp C1.b .nil pass0 (pa_cons (pe_glob (v := .ref az) rfl hz rfl) (pa_cons (pe_ix (ixT K) (pv 0) pe_int (fun _ _ => rfl)) pa_nil))))))), ?_⟩
    refine ⟨_, rfl, _, _, _, _, _, rfl, .ty _, tyx_tup hs, kit_ty (r := true) (by decide +kernel), _, rfl, iteF ?_⟩
    refine ⟨_, rfl, a, _, rfl, .inr hs, _, rfl, rfl, _, rfl, ?_⟩
    rw [decide_eq_true (show V.int (vs.length : Nat) = V.int (n : Nat) by rw [hl])]
    refine iteF ⟨_, rfl, a, rfl, ⟨_, hs⟩, ht.prices, fun H2 tb => ?_⟩
    have g2 := Gw.tab ht.prices tb
    refine plan_it (walk_tupY hl) (H0 := H2) (fun _ => true) (fun H' g => (g2.trans g).sqT hs) (fun i x H1 H' hi g y C hC => ?_) (fun _ _ _ _ z => by cases z) (fun H3 _ g3 => ?_)
    · obtain ⟨rfl, hx⟩ := y
      obtain ⟨x', e, px⟩ := hit i hi
      rw [hx] at e; cases e
      exact ⟨rfl, _, rfl, _, f i, rfl, px.gw (g2.trans g), hC _ (Gw.refl _)⟩
    have g23 := g2.trans g3
    have t3 := (ht.gw g23).prices
    refine ⟨_, rfl, iteF ⟨_, rfl, a, rfl, ⟨_, g23.sqT hs⟩, t3, fun H4 tb4 => ?_⟩⟩
    have g4 := g23.trans (Gw.tab t3 tb4)
    refine plan_it (walk_tupY hl) (H0 := H4) (fun _ => false) (fun H' g => (g4.trans g).sqT hs) (fun i x H1 H' hi g y C hC => ?_) (fun _ _ _ _ z => by cases z) (fun H5 _ g5 => ?_)
    · obtain ⟨rfl, hx⟩ := y
      obtain ⟨x', e, px⟩ := hit i hi
      rw [hx] at e; cases e
      refine ⟨rfl, _, rfl, _, _, f i, 0, rfl, px.gw (g4.trans g), ⟨⟨az, rfl, zt _⟩, fit_zero⟩, ?_⟩
      rw [decide_eq_false (Rat.not_lt.mpr (f0 i hi))]
      exact hC _ (Gw.refl _)
    have g45 := g4.trans g5
    obtain ⟨x0, e0, p0⟩ := hit 0 n0
    refine ⟨_, rfl, _, rfl, iteT ⟨_, rfl, _, _, _, _, rfl, rfl, g45.sqT hs, atZ e0, _, _, 0, f 0, rfl, ⟨⟨az, rfl, zt _⟩, fit_zero⟩, p0.gw g45, ?_⟩⟩
    rw [decide_eq_true fp]
    exact k _ _ g45 rfl
theorem ok_isOffer {t : Tabs} {c f : Addr} {fd : FuncData} (F : FunC K "is_offer" "is_offer" sIsOffer c f fd) (T : Txt K mg) (TB : GxR.TabB base mg c t.offer) (C : Cal P w K mg base "is_part" 2 ["value"] (spIsPart K)) : FnOk P w K mg base CX0 4 f fd ["market", "value"] (spIsOffer K t) := by
  refine F.ok scIsOffer (fun vs H Q E h => ?_) (fun A outer s H vs Q E hr h => ?_)
  · obtain ⟨v, ov, T, o, rfl, _⟩ := h
    rfl
  · obtain ⟨v, ov, M, o, rfl, ⟨am, na, nd, ns, rfl, h1, h2, h3, h4, h5⟩, ⟨ao, vo, rfl, so, lo, io⟩, ht, k⟩ := h
    refine ⟨_, pss_cons (ps_if (PW.pt (pw_or (pt_not (pt_val (pe_callB (isiK K) (by rfl) T.isi (by decide +kernel) (pa_cons (pv 1) (pa_cons (pe_bltn (v := .ty "tuple") (by rfl) T.tuple (by decide +kernel) rfl) pa_nil)))))
        (pw_or1 (pt_cmpR op_ne (pe_callB (lenK K) (by rfl) T.len PySem.boot_len (pa_cons (pv 1) pa_nil)) (pe_callB (lenK K) (by rfl) T.len PySem.boot_len (pa_cons (pe_ix (ixT K) (pv 0) pe_int (fun _ _ => rfl)) pa_nil)) (nomark _))))) (pss_one ps_never) pss_nil)
      (pss_one (ps_ret (GA.pe_allG (k := 2) (own := [("one", 2)]) (g := gName 2) hr rfl scIsOffer.nd rfl T.all TB rfl (pi_tup (pv 1)) (blkOk_by (N := ["market", "value", "one"]) (sc := defScope sIsOffer) (by decide +kernel)) ⟨rfl, by decide +kernel, rfl⟩
          (fun _ _ _ _ _ _ => pg_name (i := 2) scIsOffer.nd rfl (Or.inl rfl)) (fun _ _ _ _ _ _ hr' => pe_or (pe_cmp (pc_isN (pv 2))) (pe_one (pe_call C.ok hr' rfl C.hm C.kp C.b .nil pass0 (pa_cons (pv 2) pa_nil))))))), ?_⟩
    have e1 : atI [V.ref na, V.ref nd] 1 = some (V.ref nd) := atI_nat (j := 1) rfl
    refine ⟨_, rfl, _, _, _, _, _, rfl, .ty _, tyx_tup so, kit_ty (r := true) (by decide +kernel), _, rfl, iteF ?_⟩
    refine ⟨_, rfl, ao, _, rfl, .inr so, _, rfl, _, _, _, _, rfl, rfl, h1, e1, nd, ns, rfl, .inr h3, rfl, _, rfl, ?_⟩
    rw [decide_eq_true (show V.int (vo.length : Nat) = V.int (ns.length : Nat) by rw [lo, h4])]
    refine iteF ⟨_, rfl, ao, rfl, ⟨_, so⟩, ht.offer, fun H2 tb => ?_⟩
    have g2 := Gw.tab ht.offer tb
    refine plan_it (walk_tupY lo) (H0 := H2) (fun _ => true) (fun H' g => (g2.trans g).sqT so) (fun i x H1 H' hi g y C hC => ?_) (fun _ _ _ _ z => by cases z) (fun H3 _ g3 => k _ _ (g2.trans g3) rfl)
    obtain ⟨rfl, hx⟩ := y
    obtain ⟨x', e, px⟩ := io i hi
    rw [hx] at e; cases e
    cases eo : o i with
    | none =>
      rw [eo] at px
      have px : x = .non := px
      subst px
      exact ⟨rfl, _, rfl, _, rfl, iteT (hC _ (Gw.refl _))⟩
    | some q =>
      rw [eo] at px
      obtain ⟨⟨ax, rfl, _⟩, _⟩ := id px
      exact ⟨rfl, _, rfl, _, rfl, iteF ⟨_, rfl, _, q, rfl, PAt.gw px (g2.trans g), hC _ (Gw.refl _)⟩⟩
end
end K44


set_option Elab.async false
set_option linter.all false
set_option maxRecDepth 100000
set_option maxHeartbeats 4000000
set_option exponentiation.threshold 3000
/-! is_market. -/
namespace K44
open PySem L2
open LP (Fit lim S Tr)
abbrev sIsMarket : Stmt := top 34
def spIsMarket (K : PySem.W.Frag) (t : Tabs) : Sp := fun vs H Q _ => ∃ (v : V) (T : Tr) (dep : Nat → Nat) (wt : Nat → Rat), vs = [v] ∧ MktAt K H v T ∧ T.Ok dep wt ∧ TabsOk t H ∧ Ans H (fun v _ => v = .bl true) Q
def cnt (T : Tr) (i j : Nat) : Nat := ((List.range i).filter fun k => decide (0 < k ∧ T.par k = j)).length
theorem cnt_succ (T : Tr) (i j : Nat) : cnt T (i + 1) j = cnt T i j + if 0 < i ∧ T.par i = j then 1 else 0 := by
  unfold cnt
  rw [kids_take, List.length_append]
  split <;> rfl
theorem cnt_le (T : Tr) (j : Nat) {i : Nat} : ∀ n, i ≤ n → cnt T i j ≤ cnt T n j := fun n h => by
  induction n with
  | zero =>
    have : i = 0 := by omega
    subst this; exact Nat.le_refl _
  | succ n ih =>
    by_cases e : i = n + 1
    · subst e; exact Nat.le_refl _
    · rw [cnt_succ]; have := ih (by omega); omega
theorem cnt_zero {T : Tr} {dep : Nat → Nat} {wt : Nat → Rat} (h : T.Ok dep wt) {i : Nat} (hi : i < T.N) : cnt T (i + 1) i = 0 := by
  unfold cnt
  rw [List.length_eq_zero_iff, List.filter_eq_nil_iff]
  intro k hk
  rw [List.mem_range] at hk
  rw [decide_eq_true_eq]
  rintro ⟨a, b⟩
  have := h.lt k a (by omega)
  omega
theorem many_step {T : Tr} {dep : Nat → Nat} {wt : Nat → Rat} (h : T.Ok dep wt) {i : Nat} (h0 : 0 < i) (hi : i < T.N) :
    ((List.range i).map fun j => V.int ((cnt T i j : Nat) : Int)).set (T.par i) (V.int (((cnt T i (T.par i) : Nat) : Int) + 1)) ++ [V.int 0] = (List.range (i + 1)).map fun j => V.int ((cnt T (i + 1) j : Nat) : Int) := by
  rw [List.range_succ, List.map_append]
  congr 1
  · refine List.ext_getElem (by simp) fun j h1 h2 => ?_
    rw [List.getElem_set]
    simp only [List.getElem_map, List.getElem_range]
    rw [cnt_succ]
    by_cases e : T.par i = j
    · rw [if_pos e, if_pos ⟨h0, e⟩, e]; rfl
    · rw [if_neg e, if_neg (fun z => e z.2)]; rfl
  · show _ = [V.int ((cnt T (i + 1) i : Nat) : Int)]
    rw [cnt_zero h hi]; rfl
theorem mom_get {dep : Nat → Nat} {i j : Nat} (h : j < i) : ((List.range i).map fun k => V.int ((dep k : Nat) : Int))[j]? = some (V.int ((dep j : Nat) : Int)) := by
  rw [List.getElem?_map, List.getElem?_range h]; rfl
section
variable {P : Program} {w : World} {K : PySem.W.Frag} {mg : Str → Option Value} {base : Heap}
abbrev nmIM : List Str := ["value", "moments", "many", "number", "node"]
theorem scIsMarket : FnScope nmIM ["value"] (defScope sIsMarket) := ⟨rfl, rfl, rfl, by decide +kernel, rfl, by decide +kernel, by decide +kernel⟩
theorem ok_isMarket {t : Tabs} {f : Addr} {fd : FuncData} (F : Fun K "is_market" "is_market" sIsMarket f fd) (T : Txt K mg) (C0 : Cal P w K mg base "is_number" 1 ["value", "least", "most"] spIsNumber) (C1 : Cal P w K mg base "are_names" 5 ["value"] (spAreNames K t)) (C2' : Cal P w K mg base "are_prices" 4 ["value", "many"] (spArePrices K t)) : FnOk P w K mg base CX0 6 f fd ["value"] (spIsMarket K t) := by
  refine F.ok scIsMarket (fun vs H Q E h => ?_) (fun cdv A outer s H vs Q E hr h => ?_)
  · obtain ⟨v, T, dep, wt, rfl, _⟩ := h
    rfl
  · obtain ⟨v, M, dep, wt, rfl, ⟨am, na, nd, ns, rfl, h1, h2, h3, h4, h5⟩, ok, ht, k⟩ := h
    obtain ⟨tn, hNo⟩ := T.mostNodes
    obtain ⟨tm, hMo⟩ := T.mostMoment
    obtain ⟨tk, hKi⟩ := T.mostKids
    refine ⟨_, pss_cons (ps_if (PW.pt (pw_or (pt_not (pt_val (pe_callB (isiK K) (by rfl) T.isi (by decide +kernel) (pa_cons (pv 0) (pa_cons (pe_bltn (v := .ty "tuple") (by rfl) T.tuple (by decide +kernel) rfl) pa_nil)))))
        (pw_or (pt_cmpR op_ne (pe_callB (lenK K) (by rfl) T.len PySem.boot_len (pa_cons (pv 0) pa_nil)) pe_int (nomark _))
        (pw_or1 (pt_not (pt_val (pe_call C1.ok hr rfl C1.hm C1.kp C1.b .nil pass0 (pa_cons (pe_ix (ixT K) (pv 0) pe_int (fun _ _ => rfl)) pa_nil)))))))) (pss_one ps_never) pss_nil)
      (pss_cons (ps_if (PW.pt (pw_or (pt_not (pt_val (pe_callB (isiK K) (by rfl) T.isi (by decide +kernel) (pa_cons (pe_ix (ixT K) (pv 0) pe_int (fun _ _ => rfl)) (pa_cons (pe_bltn (v := .ty "tuple") (by rfl) T.tuple (by decide +kernel) rfl) pa_nil)))))
        (pw_or1 (pt_not (pt_chain op_le op_le pe_int (pe_callB (lenK K) (by rfl) T.len PySem.boot_len (pa_cons (pe_ix (ixT K) (pv 0) pe_int (fun _ _ => rfl)) pa_nil)) (pe_glob (v := .int 60) rfl hNo ⟨tn, rfl⟩)))))) (pss_one ps_never) pss_nil)
      (pss_cons (ps_par (i := 1) (j := 2) rfl scIsMarket.nd rfl rfl (by decide) rfl rfl (pa_cons (pe_lst pa_nil) (pa_cons (pe_lst pa_nil) pa_nil)) rfl)
      (pss_cons (ps_for PassesOwn.never rfl (enumTK K rfl T.enum (pa_cons (pe_ix (ixT K) (pv 0) pe_int (fun _ _ => rfl)) pa_nil)) (pg_tup rfl (pgs_cons (pg_name (i := 3) scIsMarket.nd rfl (Or.inl rfl)) (pgs_cons (pg_name (i := 4) scIsMarket.nd rfl (Or.inl rfl)) pgs_nil)))
        (pss_cons (ps_if (PW.pt (pw_or (pt_not (pt_val (pe_callB (isiK K) (by rfl) T.isi (by decide +kernel) (pa_cons (pv 4) (pa_cons (pe_bltn (v := .ty "tuple") (by rfl) T.tuple (by decide +kernel) rfl) pa_nil)))))
          (pw_or (pt_cmpR op_ne (pe_callB (lenK K) (by rfl) T.len PySem.boot_len (pa_cons (pv 4) pa_nil)) pe_int (nomark _))
          (pw_or1 (pt_not (pt_val (pe_call C2'.ok (hr.mono (by decide)) rfl C2'.hm C2'.kp C2'.b .nil pass0 (pa_cons (pe_ix (ixT K) (pv 4) pe_int (fun _ _ => rfl)) (pa_cons (pe_callB (lenK K) (by rfl) T.len PySem.boot_len (pa_cons (pe_ix (ixT K) (pv 0) pe_int (fun _ _ => rfl)) pa_nil)) pa_nil))))))))) (pss_one ps_never) pss_nil)
        (pss_cons (ps_if (pt_cmpR op_eq (pv 3) pe_int (nomark _))
          (pss_cons (ps_if (pt_cmp (pc_notN (pe_ix (ixT K) (pv 4) pe_int (fun _ _ => rfl)))) (pss_one ps_never) pss_nil)
          (pss_one (ps_expr (pe_bm PySem.F.plainAttrs_list PySem.F.slot_list_append PySem.F.type_list_append mt_append (pv 1) (pa_cons pe_int pa_nil)))))
          (pss_cons (ps_if (pt_not (pt_val (pe_call C0.ok (hr.mono (by decide)) rfl C0.hm C0.kp C0.b .nil pass0 (pa_cons (pe_ix (ixT K) (pv 4) pe_int (fun _ _ => rfl)) (pa_cons pe_int (pa_cons (pe_op op_sub (pv 3) pe_int) pa_nil)))))) (pss_one ps_never) pss_nil)
          (pss_cons (ps_expr (pe_bm PySem.F.plainAttrs_list PySem.F.slot_list_append PySem.F.type_list_append mt_append (pv 1) (pa_cons (pe_op op_add (pe_ix (ixL K) (pv 1) (pe_ix (ixT K) (pv 4) pe_int (fun _ _ => rfl)) (fun _ _ => rfl)) pe_int) pa_nil)))
          (pss_cons (ps_asg (pe_op op_add (pe_ix (ixL K) (pv 2) (pe_ix (ixT K) (pv 4) pe_int (fun _ _ => rfl)) (fun _ _ => rfl)) pe_int) (pg_sub (pv 2) (pe_ix (ixT K) (pv 4) pe_int (fun _ _ => rfl)) set_list))
          (pss_one (ps_if (PW.pt (pw_or (pt_cmpR op_gt (pe_ix (ixL K) (pv 1) (pv 3) (fun _ _ => rfl)) (pe_glob (v := .int 6) rfl hMo ⟨tm, rfl⟩) (nomark _)) (pw_or1 (pt_cmpR op_gt (pe_ix (ixL K) (pv 2) (pe_ix (ixT K) (pv 4) pe_int (fun _ _ => rfl)) (fun _ _ => rfl)) (pe_glob (v := .int 5) rfl hKi ⟨tk, rfl⟩) (nomark _))))) (pss_one ps_never) pss_nil))))))
        (pss_one (ps_expr (pe_bm PySem.F.plainAttrs_list PySem.F.slot_list_append PySem.F.type_list_append mt_append (pv 2) (pa_cons pe_int pa_nil))))))
      )
      (pss_one (ps_ret pe_bl))))), ?_⟩
    have e0 : atI [V.ref na, V.ref nd] 0 = some (V.ref na) := atI_nat (j := 0) rfl
    have e1 : atI [V.ref na, V.ref nd] 1 = some (V.ref nd) := atI_nat (j := 1) rfl
    have n12 := ok.n12
    have n1 := ok.n1
    refine ⟨_, rfl, _, _, _, _, _, rfl, .ty _, tyx_tup h1, kit_ty (r := true) (by decide +kernel), _, rfl, iteF ?_⟩
    refine ⟨_, rfl, am, _, rfl, .inr h1, rfl, _, rfl, iteF ?_⟩
    refine ⟨_, rfl, _, _, _, _, rfl, rfl, h1, e0, na, rfl, h2, ht, fun v1 H1 g1 e => ?_⟩
    subst e
    refine ⟨_, rfl, iteF ?_⟩
    refine ⟨_, rfl, _, _, _, _, rfl, rfl, g1.sqT h1, e1, _, _, _, _, _, rfl, .ty _, tyx_tup (g1.sqT h3), kit_ty (r := true) (by decide +kernel), _, rfl, iteF ?_⟩
    refine ⟨_, rfl, _, _, _, _, rfl, rfl, g1.sqT h1, e1, nd, ns, rfl, .inr (g1.sqT h3), _, _, rfl, rfl, _, rfl, ?_⟩
    rw [decide_eq_true (show (1 : Int) ≤ (ns.length : Nat) by omega)]
    refine iteT ⟨_, _, rfl, rfl, _, rfl, ?_⟩
    rw [decide_eq_true (show ((ns.length : Nat) : Int) ≤ 60 by omega)]
    refine iteF ⟨(show 0 ≤ sizeLine by decide), fun L1 hL1 => ⟨(show 0 ≤ sizeLine by decide), fun L2 hL2 => ?_⟩⟩
    have neL : L1 ≠ L2 := fun z => by rw [z, upd_same] at hL2; cases hL2
    have hL2' : H1 L2 = none := by rw [upd_ne (Ne.symm neL)] at hL2; exact hL2
    have b1 : upd (upd H1 L1 (.lst [])) L2 (.lst []) L1 = some (.lst []) := by rw [upd_ne neL]; exact upd_same
    have gb : Gw H (R2 (upd (upd H1 L1 (.lst [])) L2 (.lst [])) L1 L2) := by
      rw [r2_updB neL, r2_updR]
      show Gw H (rm (rm H1 L1) L2)
      rw [rm_none hL1, rm_none hL2']; exact g1
    have gb0 := gb.trans Gw.r2_le
    refine ⟨_, _, rfl, ?_⟩
    refine ⟨_, rfl, _, _, _, _, rfl, rfl, gb0.sqT h1, e1, nd, ns, rfl, gb0.sqT h3, ?_⟩
    refine for_it (walk_enumT (K := K) (a := nd) (xs := ns) (n := M.N) h4) (fun i σ H' => (∃ u3 u4, σ = [some (.ref am), some (.ref L1), some (.ref L2), u3, u4]) ∧ Gw H (R2 H' L1 L2) ∧ H' L1 = some (.lst ((List.range i).map fun k => V.int ((dep k : Nat) : Int))) ∧ H' L2 = some (.lst ((List.range i).map fun j => V.int ((cnt M i j : Nat) : Int))))
      ⟨⟨_, _, rfl⟩, gb, b1, upd_same⟩ (fun i σ H' _ h => (h.2.1.trans Gw.r2_le).sqT h3) ?_ ?_
    · rintro i y σ H2 H3 hi ⟨⟨u3, u4, rfl⟩, g2, q1, q2⟩ ⟨p, x, rfl, hp, rfl, hx⟩
      obtain ⟨tt, pt, et, st, sp⟩ := h5 i hi
      rw [hx] at et; cases et
      have gp := Gw.new (.tup [V.int ((i : Nat) : Int), V.ref tt]) hp
      have g3 := g2.trans (gp.r2 L1 L2)
      have G3 := g3.trans Gw.r2_le
      have kp := ok.pr i hi
      have d3 := ok.d3 i hi
      refine ⟨p, _, rfl, SqT.of upd_same, rfl, _, _, rfl, _, _, rfl, rfl, ?_⟩
      refine ⟨_, rfl, _, _, _, _, _, rfl, .ty _, tyx_tup (G3.sqT st), kit_ty (r := true) (by decide +kernel), _, rfl, iteF ?_⟩
      refine ⟨_, rfl, tt, _, rfl, .inr (G3.sqT st), rfl, _, rfl, iteF ?_⟩
      refine ⟨_, rfl, _, _, _, _, rfl, rfl, G3.sqT st, atI_nat (j := 1) rfl, _, rfl, _, _, _, _, rfl, rfl, G3.sqT h1, e0, na, _, rfl, .inr (G3.sqT h2), ?_⟩
      refine ⟨_, 2, M.pr i, rfl, sp.gw G3, by decide, fun k hk => ?_, kp.kpos d3, ht.gw G3, fun v4 H4 g4 e => ?_⟩
      · have : k = 0 ∨ k = 1 := by omega
        rcases this with rfl | rfl
        · exact Rat.le_of_lt (kp.kpos d3)
        · exact kp.pp
      subst e
      have g34 := gp.trans g4
      have G4 := G3.trans g4
      have r4 := g3.trans (g4.r2 L1 L2)
      have q1 := g34.at q1
      have q2 := g34.at q2
      have st4 := G4.sqT st
      refine ⟨_, rfl, iteF ?_⟩
      refine ⟨_, rfl, rfl, _, rfl, ?_⟩
      by_cases h0 : i = 0
      · subst h0
        have pj : parV M 0 = .non := if_pos rfl
        rw [pj] at st4
        refine iteT ⟨_, rfl, _, _, _, _, rfl, rfl, st4, atI_nat (j := 0) rfl, _, rfl, iteF ?_⟩
        refine ⟨_, rfl, .inl ⟨rfl, _, SqL.of q1⟩, L1, _, _, rfl, rfl, q1, (show 0 < sizeLine by decide), ?_⟩
        have q2' : upd H4 L1 (.lst ([] ++ [V.int 0])) L2 = some (.lst []) := by rw [upd_ne (Ne.symm neL)]; exact q2
        refine ⟨_, rfl, .inl ⟨rfl, _, SqL.of q2'⟩, L2, _, _, rfl, rfl, q2', (show 0 < sizeLine by decide), ⟨_, _, rfl⟩, ?_, ?_, ?_⟩
        · rw [r2_updB neL]
          show Gw H (R2 (upd H4 L1 _) L1 L2)
          rw [r2_updR]; exact r4
        · rw [upd_ne neL]
          show upd H4 L1 _ L1 = _
          rw [upd_same]
          show _ = some (HO.lst [V.int ((dep 0 : Nat) : Int)])
          rw [ok.d0]; rfl
        · rw [upd_same]
          rfl
      · rw [decide_eq_false (show ¬ V.int ((i : Nat) : Int) = V.int 0 from fun z => h0 (by have := V.int.inj z; omega))]
        have pj : parV M i = .int (M.par i : Nat) := if_neg h0
        rw [pj] at st4
        have lt := ok.lt i (by omega) hi
        have at0 : ∀ {H' : Hp}, Gw H4 H' → SqT K H' tt [V.int ((M.par i : Nat) : Int), pt] := fun g => g.sqT st4
        refine iteF ⟨_, rfl, _, _, _, _, rfl, rfl, st4, atI_nat (j := 0) rfl, _, rfl, _, _, rfl, rfl, _, _, _, rfl, _, rfl, ?_⟩
        rw [decide_eq_true (show (0 : Int) ≤ ((M.par i : Nat) : Int) by omega), decide_eq_true (show ((M.par i : Nat) : Int) ≤ ((i : Nat) : Int) - 1 by omega)]
        refine iteF ?_
        have l1 : ((List.range i).map fun k => V.int ((dep k : Nat) : Int)).length = i := by simp
        have l2 : ((List.range i).map fun j => V.int ((cnt M i j : Nat) : Int)).length = i := by simp
        refine ⟨_, rfl, .inl ⟨rfl, _, SqL.of q1⟩, _, rfl, _, rfl, _, _, _, _, rfl, rfl, st4, atI_nat (j := 0) rfl, _, _, _, _, rfl, rfl, SqL.of q1, at_of rfl (mom_get lt), _, _, rfl, rfl, L1, _, _, rfl, rfl, q1, small1000 (by omega), ?_⟩
        have eL1 : ((List.range i).map fun k => V.int ((dep k : Nat) : Int)) ++ [V.int (((dep (M.par i) : Nat) : Int) + 1)] = (List.range (i + 1)).map fun k => V.int ((dep k : Nat) : Int) := by
          rw [List.range_succ, List.map_append]
          show _ = _ ++ [V.int ((dep i : Nat) : Int)]
          rw [ok.dS i (by omega) hi]; rfl
        rw [eL1]
        generalize hH5 : upd H4 L1 (.lst ((List.range (i + 1)).map fun k => V.int ((dep k : Nat) : Int))) = H5
        have q15 : H5 L1 = some (.lst ((List.range (i + 1)).map fun k => V.int ((dep k : Nat) : Int))) := by rw [← hH5]; exact upd_same
        have q25 : H5 L2 = some (.lst ((List.range i).map fun j => V.int ((cnt M i j : Nat) : Int))) := by rw [← hH5, upd_ne (Ne.symm neL)]; exact q2
        have r5 : R2 H5 L1 L2 = R2 H4 L1 L2 := by rw [← hH5, r2_updR]
        have st5 : SqT K H5 tt [V.int ((M.par i : Nat) : Int), pt] := by
          have a : Gw H (R2 H5 L1 L2) := by rw [r5]; exact r4
          have b := (a.trans Gw.r2_le).sqT st
          rw [pj] at b; exact b
        refine ⟨_, rfl, _, rfl, _, _, _, _, rfl, rfl, st5, atI_nat (j := 0) rfl, _, _, _, _, rfl, rfl, SqL.of q25, at_of rfl (mom_get (dep := fun j => cnt M i j) lt), _, _, rfl, rfl, _, rfl, _, rfl, _, _, _, _, rfl, rfl, st5, atI_nat (j := 0) rfl, L2, _, _, M.par i, rfl, rfl, q25, by rw [l2]; exact ixNat lt, ?_⟩
        generalize hH6 : upd H5 L2 _ = H6
        have q16 : H6 L1 = some (.lst ((List.range (i + 1)).map fun k => V.int ((dep k : Nat) : Int))) := by rw [← hH6, upd_ne neL]; exact q15
        have q26 : H6 L2 = some (.lst (((List.range i).map fun j => V.int ((cnt M i j : Nat) : Int)).set (M.par i) (V.int (((cnt M i (M.par i) : Nat) : Int) + 1)))) := by rw [← hH6, upd_same]
        have r6 : R2 H6 L1 L2 = R2 H4 L1 L2 := by rw [← hH6, r2_updB neL, r5]
        have st6 : SqT K H6 tt [V.int ((M.par i : Nat) : Int), pt] := by
          have a : Gw H (R2 H6 L1 L2) := by rw [r6]; exact r4
          have b := (a.trans Gw.r2_le).sqT st
          rw [pj] at b; exact b
        have cm : cnt M i (M.par i) + 1 ≤ 4 := by
          have a := cnt_succ M i (M.par i)
          rw [if_pos ⟨by omega, rfl⟩] at a
          have b := cnt_le M (M.par i) (i := i + 1) M.N (by omega)
          have c : cnt M M.N (M.par i) = M.m (M.par i) := rfl
          have := ok.m4 (M.par i)
          omega
        refine ⟨_, rfl, _, rfl, _, _, _, _, rfl, rfl, SqL.of q16, at_of rfl (mom_get (Nat.lt_succ_self i)), _, _, rfl, rfl, _, rfl, ?_⟩
        rw [decide_eq_false (show ¬ (6 : Int) < ((dep i : Nat) : Int) by omega)]
        have eset : (((List.range i).map fun j => V.int ((cnt M i j : Nat) : Int)).set (M.par i) (V.int (((cnt M i (M.par i) : Nat) : Int) + 1)))[M.par i]? = some (V.int (((cnt M i (M.par i) : Nat) : Int) + 1)) := by
          rw [List.getElem?_set_self (by rw [l2]; exact lt)]
        refine iteF ⟨_, rfl, _, rfl, _, _, _, _, rfl, rfl, st6, atI_nat (j := 0) rfl, _, _, _, _, rfl, rfl, SqL.of q26, at_of rfl eset, _, _, rfl, rfl, _, rfl, ?_⟩
        rw [decide_eq_false (show ¬ (5 : Int) < ((cnt M i (M.par i) : Nat) : Int) + 1 by omega)]
        refine iteF ⟨_, rfl, .inl ⟨rfl, _, SqL.of q26⟩, L2, _, _, rfl, rfl, q26, small1000 (by rw [List.length_set, l2]; omega), ⟨_, _, rfl⟩, ?_, ?_, ?_⟩
        · rw [r2_updB neL, r6]; exact r4
        · rw [upd_ne neL]; exact q16
        · rw [upd_same, many_step ok (by omega) hi]
    · rintro σ H2 ⟨⟨u3, u4, rfl⟩, g2, _, _⟩
      exact k _ _ (g2.trans Gw.r2_le) rfl
end
end K44


set_option Elab.async false
set_option linter.all false
set_option maxRecDepth 100000
set_option maxHeartbeats 4000000
set_option exponentiation.threshold 3000
/-! is_call, way_to, is_behind. -/
namespace K44
open PySem L2
open LP (Fit lim S Tr)
abbrev sIsBehind : Stmt := top 59
abbrev sIsCall : Stmt := top 64
def upI (T : Tr) (i : Nat) : Nat → Nat
  | 0 => i
  | s + 1 => T.par (upI T i s)
def spIsCall (K : PySem.W.Frag) : Sp := fun vs H Q _ => ∃ (v ov cv : V) (T : Tr) (o cl : Nat → Option Rat), vs = [v, ov, cv] ∧ MktAt K H v T ∧ T.N ≤ 12 ∧ OptT K H ov T.N o ∧ OptT K H cv T.N cl ∧ (∀ i c, i < T.N → cl i = some c → 0 ≤ c ∧ ∀ q, o i = some q → q ≤ c) ∧ Ans H (fun v _ => v = .bl true) Q
def spWayTo (K : PySem.W.Frag) : Sp := fun vs H Q _ => ∃ (v : V) (T : Tr) (dep : Nat → Nat) (wt : Nat → Rat) (i : Nat), vs = [v, .int (i : Nat)] ∧ MktAt K H v T ∧ T.Ok dep wt ∧ i < T.N ∧ Ans H (fun v H' => NatT K H' v ((List.range (dep i + 1)).map (upI T i)).reverse) Q
def behB (T : Tr) (dep : Nat → Nat) (i : Nat) (ms : List Nat) : Bool := (List.range (dep i)).any fun j => decide (upI T i (dep i - j) ∈ ms)
def spIsBehind (K : PySem.W.Frag) (t : Tabs) : Sp := fun vs H Q _ => ∃ (v : V) (L : Addr) (T : Tr) (dep : Nat → Nat) (wt : Nat → Rat) (i : Nat) (ms : List Nat), vs = [v, .int (i : Nat), .ref L] ∧ MktAt K H v T ∧ T.Ok dep wt ∧ i < T.N ∧ SqL K H L (ms.map natV) ∧ TabsOk t H ∧ Ans H (fun v _ => v = .bl (behB T dep i ms)) Q
theorem inV_nat (x : Nat) : ∀ ms : List Nat, inV (natV x) (ms.map natV) = decide (x ∈ ms)
  | [] => rfl
  | m :: ms => by
    show (eqV (natV m) (natV x) || inV (natV x) (ms.map natV)) = _
    rw [inV_nat x ms]
    show ((((m : Nat) : Int) == ((x : Nat) : Int)) || _) = _
    by_cases e : m = x
    · subst e; simp
    · have : ¬ x = m := fun z => e z.symm
      have h2 : (((m : Nat) : Int) == ((x : Nat) : Int)) = false := beq_eq_false_iff_ne.mpr (by omega)
      rw [h2]; simp [this]
theorem nats_flat : ∀ ms : List Nat, (ms.map natV).all flatV = true
  | [] => rfl
  | _ :: ms => nats_flat ms
theorem up_ok {T : Tr} {dep : Nat → Nat} {wt : Nat → Rat} (h : T.Ok dep wt) {i : Nat} (hi : i < T.N) : ∀ s, s ≤ dep i → upI T i s < T.N ∧ dep (upI T i s) = dep i - s
  | 0, _ => ⟨hi, rfl⟩
  | s + 1, hs => by
    obtain ⟨a, b⟩ := up_ok h hi s (by omega)
    have p : 0 < upI T i s := by
      rcases Nat.eq_zero_or_pos (upI T i s) with z | z
      · rw [z, h.d0] at b; omega
      · exact z
    have l := h.lt _ p a
    have d := h.dS _ p a
    exact ⟨Nat.lt_trans l a, by show dep (T.par (upI T i s)) = _; omega⟩
theorem dep_zero {T : Tr} {dep : Nat → Nat} {wt : Nat → Rat} (h : T.Ok dep wt) {j : Nat} (hj : j < T.N) : dep j = 0 ↔ j = 0 := by
  constructor
  · intro e
    rcases Nat.eq_zero_or_pos j with z | z
    · exact z
    · have := h.dS j z hj; omega
  · rintro rfl; exact h.d0
theorem cut_way (f : Nat → Nat) {d : Nat} (hd : d ≤ 3) : ¬ (HT.sIx ((((List.range (d + 1)).map f).reverse).map natV).length 0 none = 0 ∧ HT.sIx ((((List.range (d + 1)).map f).reverse).map natV).length ((((List.range (d + 1)).map f).reverse).map natV).length (some (-1)) = ((((List.range (d + 1)).map f).reverse).map natV).length) ∧
    (cutV ((((List.range (d + 1)).map f).reverse).map natV) none (some (-1))).length = d ∧ ∀ j, j < d → (cutV ((((List.range (d + 1)).map f).reverse).map natV) none (some (-1)))[j]? = some (natV (f (d - j))) := by
  have : d = 0 ∨ d = 1 ∨ d = 2 ∨ d = 3 := by omega
  rcases this with rfl | rfl | rfl | rfl
  · exact ⟨fun z => absurd z.2 (show ¬ HT.sIx 1 1 (some (-1)) = 1 by decide), rfl, fun j hj => by omega⟩
  · refine ⟨fun z => absurd z.2 (show ¬ HT.sIx 2 2 (some (-1)) = 2 by decide), rfl, fun j hj => ?_⟩
    have : j = 0 := by omega
    subst this; rfl
  · refine ⟨fun z => absurd z.2 (show ¬ HT.sIx 3 3 (some (-1)) = 3 by decide), rfl, fun j hj => ?_⟩
    have : j = 0 ∨ j = 1 := by omega
    rcases this with rfl | rfl <;> rfl
  · refine ⟨fun z => absurd z.2 (show ¬ HT.sIx 4 4 (some (-1)) = 4 by decide), rfl, fun j hj => ?_⟩
    have : j = 0 ∨ j = 1 ∨ j = 2 := by omega
    rcases this with rfl | rfl | rfl <;> rfl
section
variable {P : Program} {w : World} {K : PySem.W.Frag} {mg : Str → Option Value} {base : Heap}
theorem scIsCall : FnScope ["market", "offer", "value", "part", "got"] ["market", "offer", "value"] (defScope sIsCall) := ⟨rfl, rfl, rfl, by decide +kernel, rfl, by decide +kernel, by decide +kernel⟩
theorem scWayTo : FnScope ["market", "node", "found"] ["market", "node"] (defScope sWayTo) := ⟨rfl, rfl, rfl, by decide +kernel, rfl, by decide +kernel, by decide +kernel⟩
theorem scIsBehind : FnScope ["market", "node", "moments", "one"] ["market", "node", "moments"] (defScope sIsBehind) := ⟨rfl, rfl, rfl, by decide +kernel, rfl, by decide +kernel, by decide +kernel⟩
theorem ok_wayTo {f : Addr} {fd : FuncData} (F : Fun K "way_to" "way_to" sWayTo f fd) (T : Txt K mg) (C : Cal P w K mg base "node_of" 2 ["market", "node"] (spNodeOf K)) : FnOk P w K mg base CX0 3 f fd ["market", "node"] (spWayTo K) := by
  refine F.ok scWayTo (fun vs H Q E h => ?_) (fun cdv A outer s H vs Q E hr h => ?_)
  · obtain ⟨v, T, dep, wt, i, rfl, _⟩ := h
    rfl
  · obtain ⟨v, M, dep, wt, i, rfl, hM, ok, hi, k⟩ := h
    refine ⟨_, pss_cons (ps_expr (pe_call C.ok hr rfl C.hm C.kp C.b .nil pass0 (pa_cons (pv 0) (pa_cons (pv 1) pa_nil))))
      (pss_cons (ps_set (i := 2) scWayTo.nd rfl (Or.inl rfl) (pe_lst (pa_cons (pv 1) pa_nil)))
      (pss_cons (ps_while PassesOwn.never (pt_cmpR op_ne (pe_ix (ixL K) (pv 2) (pe_un un_neg pe_int) (fun _ _ => rfl)) pe_int (nomark _))
        (pss_one (ps_expr (pe_bm PySem.F.plainAttrs_list PySem.F.slot_list_append PySem.F.type_list_append mt_append (pv 2) (pa_cons (pe_ix (ixT K) (pe_ix (ixT K) (pe_ix (ixT K) (pv 0) pe_int (fun _ _ => rfl)) (pe_ix (ixL K) (pv 2) (pe_un un_neg pe_int) (fun _ _ => rfl)) (fun _ _ => rfl)) pe_int (fun _ _ => rfl)) pa_nil)))))
      (pss_one (ps_ret (pe_callTy call_tuple_of (by rfl) T.tuple (by decide +kernel) (pa_cons (pe_revL (pv 2)) pa_nil)))))), ?_⟩
    obtain ⟨am, na, nd, ns, rfl, h1, h2, h3, h4, h5⟩ := id hM
    have d3 := ok.d3 i hi
    refine ⟨_, rfl, _, rfl, _, M, i, rfl, hM, hi, fun t pt _ _ => ?_⟩
    refine ⟨_, rfl, (show 1 ≤ sizeLine by decide), fun L hL => ?_⟩
    refine ⟨fun m σ H' => ∃ s, s ≤ dep i ∧ m = dep i - s ∧ σ = [some (.ref am), some (.int (i : Nat)), some (.ref L)] ∧ H' L = some (.lst ((List.range (s + 1)).map fun s => natV (upI M i s))) ∧ Gw H (rm H' L), ⟨dep i, 0, Nat.zero_le _, rfl, rfl, upd_same, by rw [rm_upd, rm_none hL]; exact Gw.refl _⟩, ?_⟩
    rintro m σ H1 ⟨s, hs, rfl, rfl, q1, g1⟩
    obtain ⟨un, ud⟩ := up_ok ok hi s hs
    have G1 := g1.trans Gw.rm_le
    have last : ((List.range (s + 1)).map fun s => natV (upI M i s))[s]? = some (natV (upI M i s)) := by rw [List.getElem?_map, List.getElem?_range (Nat.lt_succ_self s)]; rfl
    have ll : ((List.range (s + 1)).map fun s => natV (upI M i s)).length = s + 1 := by simp
    have e1 : atI [V.ref na, V.ref nd] 1 = some (V.ref nd) := atI_nat (j := 1) rfl
    refine ⟨_, rfl, 1, rfl, _, _, _, _, rfl, rfl, SqL.of q1, at_last ll last, rfl, _, rfl, ?_⟩
    by_cases hz : upI M i s = 0
    · rw [decide_eq_true (show natV (upI M i s) = V.int 0 by rw [hz]; rfl)]
      have hd : dep i - s = 0 := by rw [← ud, hz]; exact ok.d0
      have : s = dep i := by omega
      subst this
      refine iteF ⟨_, rfl, L, _, rfl, SqL.of q1, fun p hp => ⟨p, _, rfl, .inl ⟨SqL.of upd_same, fun l hl => ?_⟩⟩⟩
      have gp := Gw.new (.lst ((List.range (dep i + 1)).map fun s => natV (upI M i s)).reverse) hp
      refine k _ _ (G1.trans (gp.trans (Gw.new _ hl))) ⟨l, rfl, ?_⟩
      have : (((List.range (dep i + 1)).map (upI M i)).reverse).map natV = ((List.range (dep i + 1)).map fun s => natV (upI M i s)).reverse := by
        rw [List.map_reverse, List.map_map]; rfl
      rw [this]; exact SqT.of upd_same
    · rw [decide_eq_false (show ¬ natV (upI M i s) = V.int 0 from fun z => hz (by have := V.int.inj z; omega))]
      obtain ⟨tt, pt', et, st, sp⟩ := h5 _ un
      have pj : parV M (upI M i s) = .int (M.par (upI M i s) : Nat) := if_neg hz
      rw [pj] at st
      have hlt : s < dep i := by
        rcases Nat.lt_or_ge s (dep i) with h | h
        · exact h
        · exact absurd ((dep_zero ok un).mp (by omega)) hz
      refine iteT ⟨fun σ' H' => ∃ m', m' < dep i - s ∧ ∃ s', s' ≤ dep i ∧ m' = dep i - s' ∧ σ' = [some (.ref am), some (.int (i : Nat)), some (.ref L)] ∧ H' L = some (.lst ((List.range (s' + 1)).map fun s => natV (upI M i s))) ∧ Gw H (rm H' L), fun _ _ h => h, ?_⟩
      refine ⟨_, rfl, .inl ⟨rfl, _, SqL.of q1⟩, _, rfl, _, _, _, _, rfl, rfl, G1.sqT h1, e1, _, rfl, 1, rfl, _, _, _, _, rfl, rfl, SqL.of q1, at_last ll last, _, _, _, _, rfl, rfl, G1.sqT h3, at_of rfl et, _, _, _, _, rfl, rfl, G1.sqT st, atI_nat (j := 0) rfl, L, _, _, rfl, rfl, q1, small1000 (by omega), ?_⟩
      refine ⟨dep i - (s + 1), by omega, s + 1, by omega, rfl, rfl, ?_, by rw [rm_upd]; exact g1⟩
      rw [upd_same, List.range_succ (n := s + 1), List.map_append]; rfl
theorem ok_isBehind {t : Tabs} {c f : Addr} {fd : FuncData} (F : FunC K "is_behind" "is_behind" sIsBehind c f fd) (T : Txt K mg) (TB : GxR.TabB base mg c t.behind) (C : Cal P w K mg base "way_to" 3 ["market", "node"] (spWayTo K)) : FnOk P w K mg base CX0 4 f fd ["market", "node", "moments"] (spIsBehind K t) := by
  refine F.ok scIsBehind (fun vs H Q E h => ?_) (fun A outer s H vs Q E hr h => ?_)
  · obtain ⟨v, L, T, dep, wt, i, ms, rfl, _⟩ := h
    rfl
  · obtain ⟨v, L, M, dep, wt, i, ms, rfl, hM, ok, hi, hL, ht, k⟩ := h
    refine ⟨_, pss_one (ps_ret (GA.pe_anyG (k := 1) (own := [("one", 3)]) (g := gName 3) (hr.mono (by decide)) rfl scIsBehind.nd rfl T.any TB rfl (pi_tup (pe_slice (slT K) (pe_call C.ok hr rfl C.hm C.kp C.b .nil pass0 (pa_cons (pv 0) (pa_cons (pv 1) pa_nil))) po_none (po_some (pe_un un_neg pe_int)))) (blkOk_by (N := ["market", "node", "moments", "one"]) (sc := defScope sIsBehind) (by decide +kernel)) ⟨rfl, by decide +kernel, rfl⟩
          (fun _ _ _ _ _ _ => pg_name (i := 3) scIsBehind.nd rfl (Or.inl rfl)) (fun _ _ _ _ _ _ hr' => pe_cmpR (inK K) (pv 3) (pv 2) rfl))), ?_⟩
    have d3 := ok.d3 i hi
    obtain ⟨c1, c2, c3⟩ := cut_way (upI M i) d3
    refine ⟨_, rfl, _, rfl, _, M, dep, wt, i, rfl, hM, ok, hi, fun v1 H1 g1 ⟨a, e, sa⟩ => ?_⟩
    subst e
    refine ⟨1, rfl, -1, rfl, a, _, rfl, sa, c1, fun p hp => ?_⟩
    have gp := Gw.new (.tup (cutV ((((List.range (dep i + 1)).map (upI M i)).reverse).map natV) none (some (-1)))) hp
    have t2 := (ht.gw (g1.trans gp)).behind
    refine ⟨p, rfl, ⟨_, SqT.of upd_same⟩, t2, fun H3 tb => ?_⟩
    have g3 := Gw.tab t2 tb
    have G3 := g1.trans (gp.trans g3)
    refine plan_it (walk_tupY c2) (H0 := H3) (fun j => decide (upI M i (dep i - j) ∈ ms)) (fun H' g => SqT.of (g.at (g3.at upd_same))) (fun j x H4 H' hj g y C9 hC => ?_) (fun j H4 hj _ e g => ?_) (fun H4 hall g => ?_)
    · obtain ⟨rfl, hx⟩ := y
      rw [c3 j hj] at hx; cases hx
      refine ⟨rfl, _, rfl, _, rfl, L, _, rfl, .inl ((G3.trans g).sqL hL), rfl, nats_flat ms, ?_⟩
      have := hC _ (Gw.refl _)
      rw [← inV_nat] at this
      exact this
    · refine k _ _ (G3.trans g) ?_
      have : behB M dep i ms = true := List.any_eq_true.mpr ⟨j, List.mem_range.mpr hj, e⟩
      rw [this]
    · refine k _ _ (G3.trans g) ?_
      have : behB M dep i ms = false := List.any_eq_false.mpr fun j hj => hall j (List.mem_range.mp hj)
      rw [this]; rfl
theorem ok_isCall {f : Addr} {fd : FuncData} (F : Fun K "is_call" "is_call" sIsCall f fd) (T : Txt K mg) (C : Cal P w K mg base "is_part" 2 ["value"] (spIsPart K)) (C1 : CLess P w K mg base) : FnOk P w K mg base CX0 3 f fd ["market", "offer", "value"] (spIsCall K) := by
  refine F.ok scIsCall (fun vs H Q E h => ?_) (fun cdv A outer s H vs Q E hr h => ?_)
  · obtain ⟨v, ov, cv, T, o, cl, rfl, _⟩ := h
    rfl
  · obtain ⟨v, ov, cv, M, o, cl, rfl, ⟨am, na, nd, ns, rfl, h1, h2, h3, h4, h5⟩, n12, ⟨ao, vo, rfl, so, lo, io⟩, ⟨ac, vc, rfl, sc', lc', ic⟩, hc, k⟩ := h
    obtain ⟨az, hz, zt⟩ := T.zero
    refine ⟨_, pss_cons (ps_if (PW.pt (pw_or (pt_not (pt_val (pe_callB (isiK K) (by rfl) T.isi (by decide +kernel) (pa_cons (pv 2) (pa_cons (pe_bltn (v := .ty "tuple") (by rfl) T.tuple (by decide +kernel) rfl) pa_nil)))))
        (pw_or1 (pt_cmpR op_ne (pe_callB (lenK K) (by rfl) T.len PySem.boot_len (pa_cons (pv 2) pa_nil)) (pe_callB (lenK K) (by rfl) T.len PySem.boot_len (pa_cons (pe_ix (ixT K) (pv 0) pe_int (fun _ _ => rfl)) pa_nil)) (nomark _))))) (pss_one ps_never) pss_nil)
      (pss_cons (ps_for PassesOwn.never rfl (zipK K rfl T.zip (pa_cons (pv 2) (pa_cons (pv 1) pa_nil))) (pg_tup rfl (pgs_cons (pg_name (i := 3) scIsCall.nd rfl (Or.inl rfl)) (pgs_cons (pg_name (i := 4) scIsCall.nd rfl (Or.inl rfl)) pgs_nil)))
        (pss_one (ps_if (pt_cmp (pc_notN (pv 3))) (pss_one (ps_if (PW.pt (pw_or (pt_not (pt_val (pe_call C.ok hr rfl C.hm C.kp C.b .nil pass0 (pa_cons (pv 3) pa_nil))))
          (pw_or (pt_val (pe_call C1.ok (hr.mono (by decide)) rfl C1.hm C1.kp C1.b .nil pass0 (pa_cons (pv 3) (pa_cons (pe_glob (v := .ref az) rfl hz rfl) pa_nil))))
          (pw_or1 (PW.pt (pw_and (pt_cmp (pc_notN (pv 4))) (pw_and1 (pt_val (pe_call C1.ok (hr.mono (by decide)) rfl C1.hm C1.kp C1.b .nil pass0 (pa_cons (pv 3) (pa_cons (pv 4) pa_nil)))))))))))
          (pss_one ps_never) pss_nil)) pss_nil)))
      (pss_one (ps_ret pe_bl))), ?_⟩
    have e1 : atI [V.ref na, V.ref nd] 1 = some (V.ref nd) := atI_nat (j := 1) rfl
    refine ⟨_, rfl, _, _, _, _, _, rfl, .ty _, tyx_tup sc', kit_ty (r := true) (by decide +kernel), _, rfl, iteF ?_⟩
    refine ⟨_, rfl, ac, _, rfl, .inr sc', _, rfl, _, _, _, _, rfl, rfl, h1, e1, nd, ns, rfl, .inr h3, rfl, _, rfl, ?_⟩
    rw [decide_eq_true (show V.int (vc.length : Nat) = V.int (ns.length : Nat) by rw [lc', h4])]
    refine iteF ⟨_, rfl, _, rfl, ac, ao, vc, vo, rfl, .inr ⟨sc', so, ?_⟩⟩
    refine for_it (walk_zipT (K := K) (a := ac) (b := ao) (xs := vc) (ys := vo) (n := M.N) (by rw [lc', lo]; omega)) (fun i σ H' => (∃ u3 u4, σ = [some (.ref am), some (.ref ao), some (.ref ac), u3, u4]) ∧ Gw H H') ⟨⟨_, _, rfl⟩, Gw.refl _⟩ (fun i σ H' _ h => ⟨h.2.sqT sc', h.2.sqT so⟩) ?_ ?_
    · rintro i y σ H1 H2 hi ⟨⟨u3, u4, rfl⟩, g1⟩ ⟨p, x, z, rfl, hp, rfl, ex, ez⟩
      have ex : vc[i]? = some x := ex
      have ez : vo[i]? = some z := ez
      obtain ⟨x', e1', px⟩ := ic i hi
      rw [ex] at e1'; cases e1'
      obtain ⟨z', e2', pz⟩ := io i hi
      rw [ez] at e2'; cases e2'
      have g2 := g1.trans (Gw.new (.tup [x, z]) hp)
      refine ⟨p, _, rfl, SqT.of upd_same, rfl, _, _, rfl, _, _, rfl, rfl, ?_⟩
      refine ⟨_, rfl, _, rfl, ?_⟩
      cases ec : cl i with
      | none =>
        rw [ec] at px
        have px : x = .non := px
        subst px
        exact iteF ⟨⟨_, _, rfl⟩, g2⟩
      | some c =>
        rw [ec] at px
        obtain ⟨⟨ax, rfl, _⟩, _⟩ := id px
        obtain ⟨c0, cq⟩ := hc i c hi ec
        refine iteT ⟨_, rfl, _, c, rfl, PAt.gw px g2, ⟨_, rfl, iteF ?_⟩⟩
        refine ⟨_, rfl, _, _, c, 0, rfl, PAt.gw px g2, ⟨⟨az, rfl, zt _⟩, fit_zero⟩, ?_⟩
        rw [decide_eq_false (Rat.not_lt.mpr c0)]
        refine ⟨_, rfl, iteF ⟨_, rfl, _, rfl, ?_⟩⟩
        cases eo : o i with
        | none =>
          rw [eo] at pz
          have pz : z = .non := pz
          subst pz
          exact iteF (iteF ⟨⟨_, _, rfl⟩, g2⟩)
        | some q =>
          rw [eo] at pz
          obtain ⟨⟨az', rfl, _⟩, _⟩ := id pz
          refine iteT ⟨_, rfl, _, rfl, _, _, c, q, rfl, PAt.gw px g2, PAt.gw pz g2, ?_⟩
          rw [decide_eq_false (Rat.not_lt.mpr (cq q eo))]
          exact ⟨_, rfl, iteF ⟨⟨_, _, rfl⟩, g2⟩⟩
    · rintro σ H1 ⟨⟨u3, u4, rfl⟩, g1⟩
      exact k _ _ g1 rfl
end
end K44


set_option Elab.async false
set_option linter.all false
set_option maxRecDepth 100000
set_option maxHeartbeats 4000000
set_option exponentiation.threshold 3000
/-! first_ones, earliest, latest. -/
namespace K44
open PySem L2
open LP (Fit lim S Tr)
abbrev sFirstOnes : Stmt := top 60
abbrev sEarliest : Stmt := top 61
abbrev sLatest : Stmt := top 62
def firstL (T : Tr) (dep : Nat → Nat) (ms : List Nat) : List Nat := ms.filter fun i => !behB T dep i ms
noncomputable def bestE (T : Tr) (o : Nat → Option Rat) : List Nat := open Classical in (List.range T.N).filter fun i => decide (o i = some (LP.offF T o (fun _ => none) i))
noncomputable def bestL (T : Tr) (o : Nat → Option Rat) : List Nat := open Classical in (List.range T.N).filter fun i => decide (∃ q, o i = some q ∧ LP.tkv T i (LP.offF T o fun _ => none) < q)
def spFirstOnes (K : PySem.W.Frag) (t : Tabs) : Sp := fun vs H Q _ => ∃ (v : V) (L : Addr) (T : Tr) (dep : Nat → Nat) (wt : Nat → Rat) (ms : List Nat), vs = [v, .ref L] ∧ MktAt K H v T ∧ T.Ok dep wt ∧ (∀ i, i ∈ ms → i < T.N) ∧ ms.length ≤ 12 ∧ SqL K H L (ms.map natV) ∧ TabsOk t H ∧ Ans H (fun v H' => NatT K H' v (firstL T dep ms)) Q
def spBest (K : PySem.W.Frag) (t : Tabs) (B : Tr → (Nat → Option Rat) → List Nat) : Sp := fun vs H Q _ => ∃ (v ov : V) (T : Tr) (dep : Nat → Nat) (wt : Nat → Rat) (o : Nat → Option Rat), vs = [v, ov] ∧ MktAt K H v T ∧ T.Ok dep wt ∧ OptT K H ov T.N o ∧ LP.DuO T.N o ∧ TabsOk t H ∧ Ans H (fun v H' => NatT K H' v (firstL T dep (B T o))) Q
/-- a list of numbers, filtered -/
theorem filt_it {K : PySem.W.Frag} {p : Nat → Bool} {D : Addr} {H : Hp} {ns : List Nat} {j x : Nat} (hx : ns[j]? = some x) : ((ns.take (j + 1)).filter p).map natV = ((ns.take j).filter p).map natV ++ if p x = true then [natV x] else [] := by
  have : ns.take (j + 1) = ns.take j ++ [x] := by
    rw [List.take_add_one, hx]; rfl
  rw [this, List.filter_append, List.map_append]
  congr 1
  by_cases h : p x = true
  · rw [if_pos h]; simp [h]
  · rw [if_neg h]; simp [h]
section
variable {P : Program} {w : World} {K : PySem.W.Frag} {mg : Str → Option Value} {base : Heap}
theorem scFirstOnes : FnScope ["market", "nodes", "node"] ["market", "nodes"] (defScope sFirstOnes) := ⟨rfl, rfl, rfl, by decide +kernel, rfl, by decide +kernel, by decide +kernel⟩
theorem scEarliest : FnScope ["market", "offer", "costs", "node"] ["market", "offer"] (defScope sEarliest) := ⟨rfl, rfl, rfl, by decide +kernel, rfl, by decide +kernel, by decide +kernel⟩
theorem scLatest : FnScope ["market", "offer", "costs", "found", "node", "part"] ["market", "offer"] (defScope sLatest) := ⟨rfl, rfl, rfl, by decide +kernel, rfl, by decide +kernel, by decide +kernel⟩
theorem ok_firstOnes {t : Tabs} {f : Addr} {fd : FuncData} (F : Fun K "first_ones" "first_ones" sFirstOnes f fd) (T : Txt K mg) (C : Cal P w K mg base "is_behind" 4 ["market", "node", "moments"] (spIsBehind K t)) : FnOk P w K mg base CX0 5 f fd ["market", "nodes"] (spFirstOnes K t) := by
  refine F.ok scFirstOnes (fun vs H Q E h => ?_) (fun cdv A outer s H vs Q E hr h => ?_)
  · obtain ⟨v, L, T, dep, wt, ms, rfl, _⟩ := h
    rfl
  · obtain ⟨v, L, M, dep, wt, ms, rfl, hM, ok, hms, h12, hL, ht, k⟩ := h
    refine ⟨_, pss_one (ps_ret (pe_callTy call_tuple_of (by rfl) T.tuple (by decide +kernel) (pa_cons
      (pe_lc (own := [("node", 2)]) (g := gName 2) rfl scFirstOnes.nd (listK K (pv 1)) (blkOk_by (N := ["market", "nodes", "node"]) (by kernel_rfl))
        (fun _ _ _ _ _ => pg_name (i := 2) scFirstOnes.nd rfl (Or.inl rfl)) (fun _ _ _ _ _ => pts_one (pt_not (pt_val (pe_call C.ok hr rfl C.hm C.kp C.b .nil pass0 (pa_cons (pv 0) (pa_cons (pv 2) (pa_cons (pv 1) pa_nil))))))) (fun _ _ _ _ _ => pv 2)) pa_nil))), ?_⟩
    refine ⟨_, rfl, L, rfl, ⟨_, hL⟩, fun D hD => ?_⟩
    refine lc_it (walk_listY (K := K) (a := L) (xs := ms.map natV) (n := ms.length) (List.length_map ..)) (fun j H' => H' D = some (.lst (((ms.take j).filter fun i => !behB M dep i ms).map natV)) ∧ Gw H (rm H' D))
      ⟨upd_same, by rw [rm_upd, rm_none hD]; exact Gw.refl _⟩ (fun j H' _ h => (h.2.trans Gw.rm_le).sqL hL) ?_ ?_
    · rintro j y H1' H1 hj ⟨q1, g1⟩ ⟨rfl, hx⟩
      obtain ⟨x, ex⟩ : ∃ x, ms[j]? = some x := ⟨_, List.getElem?_eq_getElem hj⟩
      rw [List.getElem?_map, ex] at hx
      obtain rfl := Option.some.inj hx
      have G1 := g1.trans Gw.rm_le
      have ll : ((ms.take j).filter fun i => !behB M dep i ms).length ≤ 12 := Nat.le_trans (List.length_filter_le ..) (by rw [List.length_take]; omega)
      refine ⟨rfl, _, rfl, _, rfl, _, rfl, v, L, M, dep, wt, x, ms, rfl, hM.gw G1, ok, hms x (List.mem_of_getElem? ex), G1.sqL hL, ht.gw G1, fun v2 H2 g2 e => ?_⟩
      subst e
      refine ⟨_, rfl, ?_⟩
      rw [filt_it (K := K) (D := D) (H := H) ex]
      have q2 := g2.at q1
      cases hb : behB M dep x ms with
      | false =>
        refine iteT ⟨_, rfl, _, q2, small1000 (by rw [List.length_map]; omega), ?_, ?_⟩
        · show upd H2 D _ D = some (.lst (_ ++ if true = true then [natV x] else []))
          rw [if_pos rfl]; exact upd_same
        · rw [rm_upd]; exact g1.trans g2.rm
      | true =>
        refine iteF ⟨?_, g1.trans g2.rm⟩
        show H2 D = some (.lst (_ ++ if false = true then [natV x] else []))
        rw [if_neg (by decide), List.append_nil]; exact q2
    · rintro H1 ⟨q1, g1⟩
      rw [List.take_of_length_le (Nat.le_refl _)] at q1
      refine ⟨D, _, rfl, .inl ⟨SqL.of q1, fun l hl => ?_⟩⟩
      exact k _ _ ((g1.trans Gw.rm_le).trans (Gw.new _ hl)) ⟨l, rfl, SqT.of upd_same⟩
abbrev CFirst (P : Program) (w : World) (K : PySem.W.Frag) (mg : Str → Option Value) (base : Heap) (t : Tabs) := Cal P w K mg base "first_ones" 5 ["market", "nodes"] (spFirstOnes K t)
abbrev CCostsOf (P : Program) (w : World) (K : PySem.W.Frag) (mg : Str → Option Value) (base : Heap) (t : Tabs) := Cal P w K mg base "costs_of" 12 ["market", "offer"] (spCostsOf K t)
theorem ok_earliest {t : Tabs} {f : Addr} {fd : FuncData} (F : Fun K "earliest" "earliest" sEarliest f fd) (T : Txt K mg) (C1 : CCostsOf P w K mg base t) (C2' : CFirst P w K mg base t) : FnOk P w K mg base CX0 13 f fd ["market", "offer"] (spBest K t bestE) := by
  refine F.ok scEarliest (fun vs H Q E h => ?_) (fun cdv A outer s H vs Q E hr h => ?_)
  · obtain ⟨v, ov, T, dep, wt, o, rfl, _⟩ := h
    rfl
  · obtain ⟨v, ov, M, dep, wt, o, rfl, hM, ok, ho, hdu, ht, k⟩ := h
    refine ⟨_, pss_cons (ps_set (i := 2) scEarliest.nd rfl (Or.inr rfl) (pe_call C1.ok hr rfl C1.hm C1.kp C1.b .nil pass0 (pa_cons (pv 0) (pa_cons (pv 1) pa_nil))))
      (pss_one (ps_ret (pe_call C2'.ok (hr.mono (by decide)) rfl C2'.hm C2'.kp C2'.b .nil pass0 (pa_cons (pv 0) (pa_cons
        (pe_lc (own := [("node", 3)]) (g := gName 3) rfl scEarliest.nd (pi_range1 rfl T.range (pa_cons (pe_callB (lenK K) (by rfl) T.len PySem.boot_len (pa_cons (pv 1) pa_nil)) pa_nil)) (blkOk_by (N := ["market", "offer", "costs", "node"]) (by kernel_rfl))
          (fun _ _ _ _ _ => pg_name (i := 3) scEarliest.nd rfl (Or.inl rfl)) (fun _ _ _ _ _ => pts_one (pt_cmpR (eqK K hr.units) (pe_ix (ixT K) (pv 1) (pv 3) (fun _ _ => rfl)) (pe_ix (ixT K) (pv 2) (pv 3) (fun _ _ => rfl)) (nomark _))) (fun _ _ _ _ _ => pv 3)) pa_nil))))), ?_⟩
    obtain ⟨ao, vo, rfl, so, lo, io⟩ := id ho
    have n12 := ok.n12
    refine ⟨_, rfl, _, rfl, _, _, M, dep, wt, o, rfl, hM, ok, ho, hdu, ht, fun v1 H1 g1 r1 => ?_⟩
    obtain ⟨ac, vc, rfl, sc', lc', ic⟩ := r1
    refine ⟨_, rfl, _, rfl, ao, vo, rfl, .inr (g1.sqT so), ?_⟩
    rw [lo]
    refine ⟨_, rfl, (by omega), (by omega), fun D hD => ?_⟩
    refine lc_it (walk_rangeN (N := M.N) (by omega)) (fun j H' => H' D = some (.lst ((((List.range M.N).take j).filter (open Classical in fun i => decide (o i = some (LP.offF M o (fun _ => none) i)))).map natV)) ∧ Gw H1 (rm H' D))
      ⟨upd_same, by rw [rm_upd, rm_none hD]; exact Gw.refl _⟩ (fun _ _ _ _ => True.intro) ?_ ?_
    · rintro j y H2' H2 hj ⟨q1, g2⟩ ⟨rfl, rfl⟩
      have G2 := g2.trans Gw.rm_le
      have G12 := g1.trans G2
      have er : (List.range M.N)[j]? = some j := List.getElem?_range hj
      have ll : (((List.range M.N).take j).filter (open Classical in fun i => decide (o i = some (LP.offF M o (fun _ => none) i)))).length ≤ 12 := Nat.le_trans (List.length_filter_le ..) (by rw [List.length_take, List.length_range]; omega)
      obtain ⟨x, ex, px⟩ := io j hj
      obtain ⟨z, ez, pz⟩ := ic j hj
      have pz2 := pz.gw G2
      have dx : ∃ d, Dp K H2 x d ∧ SeqAt.shaped d = true ∧ PyData.eqv d (partD (LP.offF M o (fun _ => none) j)) = (open Classical in decide (o j = some (LP.offF M o (fun _ => none) j))) := by
        cases eo : o j with
        | none =>
          rw [eo] at px
          have px : x = .non := px
          subst px
          refine ⟨.none, .non, rfl, ?_⟩
          have h0 : PyData.eqv .none (partD (LP.offF M o (fun _ => none) j)) = false := rfl
          rw [h0]
          exact (decide_eq_false (by simp)).symm
        | some q =>
          rw [eo] at px
          refine ⟨partD q, (PAt.gw px G12).dp, part_shaped q, ?_⟩
          rw [part_eqv]
          exact decide_eq_decide.mpr ⟨fun z => by rw [z], fun z => Option.some.inj z⟩
      obtain ⟨d, dd, ds, de⟩ := dx
      refine ⟨rfl, _, rfl, _, rfl, _, _, _, _, rfl, rfl, G12.sqT so, at_of rfl ex, _, rfl, _, rfl, _, _, _, _, rfl, rfl, G2.sqT sc', at_of rfl ez, d, _, dd, pz2.dp, ds, part_shaped _, _, rfl, ?_⟩
      rw [de, filt_it (K := K) (D := D) (H := H) er]
      by_cases hb : o j = some (LP.offF M o (fun _ => none) j)
      · rw [decide_eq_true hb]
        refine iteT ⟨_, rfl, _, q1, small1000 (by rw [List.length_map]; omega), ?_, ?_⟩
        · rw [if_pos rfl]; exact upd_same
        · rw [rm_upd]; exact g2
      · rw [decide_eq_false hb]
        refine iteF ⟨?_, g2⟩
        rw [if_neg (by decide), List.append_nil]; exact q1
    · rintro H2 ⟨q1, g2⟩
      rw [List.take_of_length_le (by rw [List.length_range]; exact Nat.le_refl _)] at q1
      have G2 := g1.trans (g2.trans Gw.rm_le)
      have q1 : H2 D = some (.lst ((bestE M o).map natV)) := q1
      refine ⟨_, D, M, dep, wt, bestE M o, rfl, hM.gw G2, ok, fun i hi => List.mem_range.mp (List.mem_filter.mp hi).1, Nat.le_trans (List.length_filter_le ..) (by rw [List.length_range]; exact n12), SqL.of q1, ht.gw G2, fun v3 H3 g3 r3 => k _ _ (G2.trans g3) r3⟩
def spNeededT (K : PySem.W.Frag) (t : Tabs) : Sp := fun vs H Q _ => ∃ (v cv : V) (T : Tr) (dep : Nat → Nat) (wt : Nat → Rat) (i : Nat) (f : Nat → Rat), vs = [v, .int (i : Nat), cv] ∧ MktAt K H v T ∧ T.Ok dep wt ∧ i < T.N ∧ VT K H cv T.N f ∧ (∀ j, i < j → j < T.N → LP.Cz (dep j) (T.pr j 0) (f j)) ∧ TabsOk t H ∧
  Ans H (fun v H' => PAt K H' v (LP.tkv T i f)) Q
theorem ok_neededT {t : Tabs} {f : Addr} {fd : FuncData} (F : Fun K "needed" "needed" sNeeded f fd) (T : Txt K mg) (C3 : Cal P w K mg base "children" 3 ["market", "node"] (spChildren K))
    (C4 : Cal P w K mg base "brought_at" 10 ["market", "node", "wanted"] (spBroughtAt K t)) : FnOk P w K mg base CX0 11 f fd ["market", "node", "costs"] (spNeededT K t) := by
  refine F.ok scNeeded (fun vs H Q E h => ?_) (fun cdv A outer s H vs Q E hr h => ?_)
  · obtain ⟨v, d, T, dep, wt, i, f, rfl, _⟩ := h
    rfl
  · obtain ⟨v, cv, M, dep, wt, i, g, rfl, hM, ok, hi, hd, cz, ht, k⟩ := h
    refine ⟨_, pss_one (ps_ret (pe_ix (ixT K) (pe_call C4.ok hr rfl C4.hm C4.kp C4.b .nil pass0 (pa_cons (pv 0) (pa_cons (pv 1) (pa_cons (pe_callTy call_tuple_of (by rfl) T.tuple (by decide +kernel) (pa_cons
        (pe_lc (own := [("child", 3)]) (g := gName 3) (tt := tYes) rfl scNeeded.nd (tupK K (pe_call C3.ok (hr.mono (by decide)) rfl C3.hm C3.kp C3.b .nil pass0 (pa_cons (pv 0) (pa_cons (pv 1) pa_nil)))) (blkOk_by (N := ["market", "node", "costs", "child"]) (by kernel_rfl))
          (fun _ _ _ _ _ => pg_name (i := 3) scNeeded.nd rfl (Or.inl rfl)) (fun _ _ _ _ _ => pts_nil) (fun _ _ _ _ _ => pe_ix (ixT K) (pv 2) (pv 3) (fun _ _ => rfl))) pa_nil)) pa_nil)))) pe_int (fun _ _ => rfl))), ?_⟩
    refine ⟨_, rfl, _, rfl, _, rfl, _, rfl, _, M, i, rfl, hM, hi, ok.n12, fun v1 H1 g1 ⟨a1, e1, s1⟩ => ?_⟩
    subst e1
    have lk : ((M.kids i).map natV).length = M.m i := List.length_map ..
    have m4 := ok.m4 i
    obtain ⟨ac, vc, rfl, sc', lc', ic⟩ := hd.gw g1
    refine ⟨a1, rfl, ⟨_, s1⟩, fun D hD => lc_grow (walk_tupY lk) hD (by omega) (fun j v H => PAt K H v (g (M.kid i j))) (fun _ _ _ _ g r => r.gw g) (fun H' g => g.sqT s1) (fun j y H2' H2 hj _ g2 ⟨ws, hw'⟩ hY C9 hC9 => ?_) (fun H2 zs g2 _ hzs lz iz => ?_)⟩
    · obtain ⟨rfl, hy⟩ := hY
      have ey : y = natV (M.kid i j) := by
        rw [List.getElem?_map, List.getElem?_eq_getElem hj] at hy
        have := Option.some.inj hy
        rw [← this]
        unfold Tr.kid
        rw [List.getD_eq_getElem?_getD, List.getElem?_eq_getElem hj]; rfl
      subst ey
      obtain ⟨c1, c2, c3, c4, _⟩ := ok.kid hj
      obtain ⟨x, ex, px⟩ := ic _ c1
      refine ⟨rfl, _, rfl, _, rfl, _, _, _, _, rfl, rfl, g2.sqT sc', at_of rfl ex, hC9 _ _ (Gw.refl _) ((px.gw g2).rm hw')⟩
    · have g12 := g1.trans g2
      refine ⟨D, zs, rfl, .inl ⟨SqL.of hzs, fun l hl => ?_⟩⟩
      have gl := Gw.new (.tup zs) hl
      have gg := g12.trans gl
      refine ⟨_, _, M, dep, wt, i, (fun j => g (M.kid i j)), rfl, hM.gw gg, ok, hi, ⟨l, zs, rfl, SqT.of upd_same, lz, fun j hj => let ⟨y, e, r⟩ := iz j hj; ⟨y, e, (r.gw Gw.rm_le).gw gl⟩⟩, ok.kidW cz, ht.gw gg, fun v4 H4 g4 r4 => ?_⟩
      obtain ⟨a, qv, yv, xv, q, x, y, rfl, hs, hq, hy, hx, b⟩ := r4
      refine ⟨_, _, _, _, rfl, rfl, hs, atI_nat (j := 0) rfl, k _ _ (gg.trans g4) ?_⟩
      rw [← BroR.tkv ok hi (fun j hj => rfl) b]; exact hq
theorem ok_latest {t : Tabs} {f : Addr} {fd : FuncData} (F : Fun K "latest" "latest" sLatest f fd) (T : Txt K mg) (C1 : CCostsOf P w K mg base t) (C2' : CFirst P w K mg base t) (C3 : Cal P w K mg base "needed" 11 ["market", "node", "costs"] (spNeededT K t)) (C4 : CLess P w K mg base) : FnOk P w K mg base CX0 13 f fd ["market", "offer"] (spBest K t bestL) := by
  refine F.ok scLatest (fun vs H Q E h => ?_) (fun cdv A outer s H vs Q E hr h => ?_)
  · obtain ⟨v, ov, T, dep, wt, o, rfl, _⟩ := h
    rfl
  · obtain ⟨v, ov, M, dep, wt, o, rfl, hM, ok, ho, hdu, ht, k⟩ := h
    refine ⟨_, pss_cons (ps_set (i := 2) scLatest.nd rfl (Or.inl rfl) (pe_call C1.ok hr rfl C1.hm C1.kp C1.b .nil pass0 (pa_cons (pv 0) (pa_cons (pv 1) pa_nil))))
      (pss_cons (ps_set (i := 3) scLatest.nd rfl (Or.inl rfl) (pe_lst pa_nil))
      (pss_cons (ps_for PassesOwn.never rfl (enumTK K rfl T.enum (pa_cons (pv 1) pa_nil)) (pg_tup rfl (pgs_cons (pg_name (i := 4) scLatest.nd rfl (Or.inl rfl)) (pgs_cons (pg_name (i := 5) scLatest.nd rfl (Or.inl rfl)) pgs_nil)))
        (pss_one (ps_if (PW.pt (pw_and (pt_cmp (pc_notN (pv 5))) (pw_and1 (pt_val (pe_call C4.ok (hr.mono (by decide)) rfl C4.hm C4.kp C4.b .nil pass0 (pa_cons (pe_call C3.ok (hr.mono (by decide)) rfl C3.hm C3.kp C3.b .nil pass0 (pa_cons (pv 0) (pa_cons (pv 4) (pa_cons (pv 2) pa_nil)))) (pa_cons (pv 5) pa_nil)))))))
          (pss_one (ps_expr (pe_bm PySem.F.plainAttrs_list PySem.F.slot_list_append PySem.F.type_list_append mt_append (pv 3) (pa_cons (pv 4) pa_nil)))) pss_nil)))
      (pss_one (ps_ret (pe_call C2'.ok (hr.mono (by decide)) rfl C2'.hm C2'.kp C2'.b .nil pass0 (pa_cons (pv 0) (pa_cons (pv 3) pa_nil))))))), ?_⟩
    obtain ⟨ao, vo, rfl, so, lo, io⟩ := id ho
    have n12 := ok.n12
    have cz := LP.off_cz ok (cl := fun _ => none) hdu (fun i q _ h => by cases h)
    refine ⟨_, rfl, _, rfl, _, _, M, dep, wt, o, rfl, hM, ok, ho, hdu, ht, fun v1 H1 g1 r1 => ?_⟩
    refine ⟨(show 0 ≤ sizeLine by decide), fun L hL => ?_⟩
    have gL0 : Gw H1 (rm (upd H1 L (.lst [])) L) := by rw [rm_upd, rm_none hL]; exact Gw.refl _
    refine ⟨_, rfl, ao, vo, rfl, (g1.trans (gL0.trans Gw.rm_le)).sqT so, ?_⟩
    refine for_it (walk_enumT (K := K) (a := ao) (xs := vo) (n := M.N) lo) (fun j σ H' => (∃ u4 u5, σ = [some v, some (.ref ao), some v1, some (.ref L), u4, u5]) ∧ H' L = some (.lst ((((List.range M.N).take j).filter (open Classical in fun i => decide (∃ q, o i = some q ∧ LP.tkv M i (LP.offF M o fun _ => none) < q))).map natV)) ∧ Gw H1 (rm H' L))
      ⟨⟨_, _, rfl⟩, upd_same, gL0⟩ (fun i σ H' _ h => (g1.trans (h.2.2.trans Gw.rm_le)).sqT so) ?_ ?_
    · rintro j y σ H2 H3 hj ⟨⟨u4, u5, rfl⟩, q1, g2⟩ ⟨p, x, rfl, hp, rfl, hx⟩
      have gp := Gw.new (.tup [V.int ((j : Nat) : Int), x]) hp
      obtain ⟨x', ex, px⟩ := io j hj
      rw [hx] at ex; cases ex
      have er : (List.range M.N)[j]? = some j := List.getElem?_range hj
      have ll : (((List.range M.N).take j).filter (open Classical in fun i => decide (∃ q, o i = some q ∧ LP.tkv M i (LP.offF M o fun _ => none) < q))).length ≤ 12 := Nat.le_trans (List.length_filter_le ..) (by rw [List.length_take, List.length_range]; omega)
      have g3 := g2.trans gp.rm
      have G3 := g3.trans Gw.rm_le
      have q3 := gp.at q1
      refine ⟨p, _, rfl, SqT.of upd_same, rfl, _, _, rfl, _, _, rfl, rfl, ?_⟩
      refine ⟨_, rfl, _, rfl, ?_⟩
      cases eo : o j with
      | none =>
        rw [eo] at px
        have px : x = .non := px
        subst px
        refine iteF (iteF ⟨⟨_, _, rfl⟩, ?_, g3⟩)
        rw [filt_it (K := K) (D := L) (H := H) er, decide_eq_false (by rw [eo]; rintro ⟨q, e, _⟩; cases e), if_neg (by decide), List.append_nil]; exact q3
      | some q =>
        rw [eo] at px
        obtain ⟨⟨ax, rfl, _⟩, _⟩ := id px
        refine iteT ⟨_, rfl, _, rfl, _, rfl, _, _, M, dep, wt, j, _, rfl, hM.gw (g1.trans G3), ok, hj, r1.gw G3, fun j' _ hj' => cz j' hj', ht.gw (g1.trans G3), fun v4 H4 g4 r4 => ?_⟩
        have q4 := g4.at q3
        refine ⟨_, rfl, _, _, _, q, rfl, r4, PAt.gw px (g1.trans (G3.trans g4)), ?_⟩
        refine ⟨_, rfl, ?_⟩
        by_cases hb : LP.tkv M j (LP.offF M o fun _ => none) < q
        · rw [decide_eq_true hb]
          refine iteT ⟨_, rfl, .inl ⟨rfl, _, SqL.of q4⟩, _, rfl, L, _, _, rfl, rfl, q4, small1000 (by rw [List.length_map]; omega), ⟨_, _, rfl⟩, ?_, ?_⟩
          · rw [filt_it (K := K) (D := L) (H := H) er, decide_eq_true ⟨q, eo, hb⟩, if_pos rfl]; exact upd_same
          · rw [rm_upd]; exact g3.trans g4.rm
        · rw [decide_eq_false hb]
          refine iteF ⟨⟨_, _, rfl⟩, ?_, g3.trans g4.rm⟩
          rw [filt_it (K := K) (D := L) (H := H) er, decide_eq_false (by rw [eo]; rintro ⟨q', e, h⟩; cases e; exact hb h), if_neg (by decide), List.append_nil]; exact q4
    · rintro σ H2 ⟨⟨u4, u5, rfl⟩, q1, g2⟩
      rw [List.take_of_length_le (by rw [List.length_range]; exact Nat.le_refl _)] at q1
      have G2 := g1.trans (g2.trans Gw.rm_le)
      have q1 : H2 L = some (.lst ((bestL M o).map natV)) := q1
      refine ⟨_, rfl, _, rfl, _, L, M, dep, wt, bestL M o, rfl, hM.gw G2, ok, fun i hi => List.mem_range.mp (List.mem_filter.mp hi).1, Nat.le_trans (List.length_filter_le ..) (by rw [List.length_range]; exact n12), SqL.of q1, ht.gw G2, fun v3 H3 g3 r3 => k _ _ (G2.trans g3) r3⟩
end
end K44


set_option Elab.async false
set_option linter.all false
set_option maxRecDepth 100000
set_option maxHeartbeats 4000000
set_option exponentiation.threshold 3000
/-! The law's helpers: alike, most, part. -/
namespace K44
open PySem L2
open LP (Fit lim S Tr)
abbrev sLAlike : Stmt := top 75
abbrev sLMost : Stmt := top 83
/-- whole numbers, nested -/
def Pl : Nat → PyData → Prop
  | 0, d => ∃ i, d = .int i
  | n + 1, d => (∃ i, d = .int i) ∨ ∃ ds, (d = .list ds ∨ d = .tuple ds) ∧ ds.length ≤ 1000 ∧ ∀ e, e ∈ ds → Pl n e
def spAlike (K : PySem.W.Frag) (n : Nat) : Sp := fun vs H Q _ => ∃ (x y : V) (d : PyData), vs = [x, y] ∧ Dp K H x d ∧ Dp K H y d ∧ Pl n d ∧ Ans H (fun v _ => v = .bl true) Q
def spLMost (K : PySem.W.Frag) : Sp := fun vs H Q _ => ∃ (x : V) (n : Nat) (f : Nat → Rat), vs = [x] ∧ VL K H x n f ∧ 0 < n ∧ n ≤ 1000 ∧ Ans H (fun v H' => ∃ q, PAt K H' v q ∧ (∃ i, i < n ∧ f i = q) ∧ ∀ i, i < n → f i ≤ q) Q
theorem dpA_len {K : PySem.W.Frag} {H : Hp} {vs : List V} {ds : List PyData} (h : DpAll K H vs ds) : vs.length = ds.length := by
  induction ds generalizing vs with
  | nil => cases h; rfl
  | cons d ds ih => cases h with | cons a b => rw [List.length_cons, List.length_cons, ih b]
theorem dpA_get {K : PySem.W.Frag} {H : Hp} {vs : List V} {ds : List PyData} (h : DpAll K H vs ds) {i : Nat} {d : PyData} (hd : ds[i]? = some d) : ∃ v, vs[i]? = some v ∧ Dp K H v d := by
  induction ds generalizing vs i with
  | nil => simp at hd
  | cons e ds ih =>
    cases h with
    | cons a b =>
      cases i with
      | zero =>
        rw [List.getElem?_cons_zero] at hd
        cases hd
        exact ⟨_, rfl, a⟩
      | succ i =>
        rw [List.getElem?_cons_succ] at hd
        obtain ⟨v, e1, e2⟩ := ih b hd
        exact ⟨v, by rw [List.getElem?_cons_succ]; exact e1, e2⟩
theorem ixK {X : Cx} (K : PySem.W.Frag) (h : X.K = K := by rfl) : IxR X (rIx K) := by subst h; exact ix_seq
theorem ixSeq {K : PySem.W.Frag} {H : Hp} {p : Addr} {xs : List V} {j : Nat} {v : V} {Q : VK} (s : SqL K H p xs ∨ SqT K H p xs) (e : xs[j]? = some v) (h : Q v H) : rIx K (.ref p) (.int ((j : Nat) : Int)) H Q := by
  rcases s with s | s
  · exact .inl ⟨_, _, _, _, rfl, rfl, s, at_of rfl e, h⟩
  · exact .inr (.inl ⟨_, _, _, _, rfl, rfl, s, at_of rfl e, h⟩)
abbrev nmAl : List Str := ["found", "due", "k"]
section
variable {P : Program} {w : World} {K : PySem.W.Frag} {mg : Str → Option Value} {base : Heap}
theorem scLAlike : FnScope nmAl ["found", "due"] (defScope sLAlike) := ⟨rfl, rfl, rfl, by decide +kernel, rfl, by decide +kernel, by decide +kernel⟩
theorem scLMost : FnScope ["rows", "found", "row"] ["rows"] (defScope sLMost) := ⟨rfl, rfl, rfl, by decide +kernel, rfl, by decide +kernel, by decide +kernel⟩
theorem ok_lAlike0 {f : Addr} {fd : FuncData} (F : Fun K "_law_alike" "_law_alike" sLAlike f fd) (T : Txt K mg) : FnOk P w K mg base CX0 1 f fd ["found", "due"] (spAlike K 0) := by
  refine F.ok scLAlike (fun vs H Q E h => ?_) (fun cdv A outer s H vs Q E hr h => ?_)
  · obtain ⟨a, b, d, rfl, _⟩ := h
    rfl
  · obtain ⟨x, y, d, rfl, hx, hy, ⟨a, rfl⟩, k⟩ := h
    cases hx; cases hy
    refine ⟨_, pss_cons (ps_if (PW.pt (pw_or (pt_val (pe_callB (isiK K) (by rfl) T.isi (by decide +kernel) (pa_cons (pv 1) (pa_cons (pe_bltn (v := .ty "list") (by rfl) T.list (by decide +kernel) rfl) pa_nil))))
        (pw_or1 (pt_val (pe_callB (isiK K) (by rfl) T.isi (by decide +kernel) (pa_cons (pv 1) (pa_cons (pe_bltn (v := .ty "tuple") (by rfl) T.tuple (by decide +kernel) rfl) pa_nil))))))) (pss_cons ps_never (pss_one ps_never)) pss_nil)
      (pss_cons (ps_if (pt_cmp (pc_isN (pv 1))) (pss_one ps_never) pss_nil)
      (pss_cons (ps_if (PW.pt (pw_or (pt_val (pe_callB (isiK K) (by rfl) T.isi (by decide +kernel) (pa_cons (pv 1) (pa_cons (pe_bltn (v := .ty "bool") (by rfl) T.bool (by decide +kernel) rfl) pa_nil))))
        (pw_or1 (pt_val (pe_callB (isiK K) (by rfl) T.isi (by decide +kernel) (pa_cons (pv 0) (pa_cons (pe_bltn (v := .ty "bool") (by rfl) T.bool (by decide +kernel) rfl) pa_nil))))))) (pss_one ps_never) pss_nil)
      (pss_cons (ps_if (pt_val (pe_callB (isiK K) (by rfl) T.isi (by decide +kernel) (pa_cons (pv 1) (pa_cons (pe_bltn (v := .ty "int") (by rfl) T.int (by decide +kernel) rfl) pa_nil))))
        (pss_one (ps_ret (pe_and (pe_callB (isiK K) (by rfl) T.isi (by decide +kernel) (pa_cons (pv 0) (pa_cons (pe_bltn (v := .ty "int") (by rfl) T.int (by decide +kernel) rfl) pa_nil))) (pe_one (pe_cmpR op_eq (pv 0) (pv 1) (nomark _)))))) pss_nil)
      (pss_one ps_never)))), ?_⟩
    refine ⟨_, rfl, _, _, _, _, _, rfl, .ty _, .base (.int _), kit_ty (r := false) (by decide +kernel), _, rfl, iteF ?_⟩
    refine ⟨_, rfl, _, _, _, _, _, rfl, .ty _, .base (.int _), kit_ty (r := false) (by decide +kernel), _, rfl, iteF ?_⟩
    refine ⟨_, rfl, _, rfl, iteF ?_⟩
    refine ⟨_, rfl, _, _, _, _, _, rfl, .ty _, .base (.int _), kit_ty (r := false) (by decide +kernel), _, rfl, iteF ?_⟩
    refine ⟨_, rfl, _, _, _, _, _, rfl, .ty _, .base (.int _), kit_ty (r := false) (by decide +kernel), _, rfl, iteF ?_⟩
    refine ⟨_, rfl, _, _, _, _, _, rfl, .ty _, .base (.int _), kit_ty (r := true) (by decide +kernel), _, rfl, iteT ?_⟩
    refine ⟨_, rfl, _, _, _, _, _, rfl, .ty _, .base (.int _), kit_ty (r := true) (by decide +kernel), _, rfl, iteT ?_⟩
    refine ⟨_, rfl, _, rfl, rfl, ?_⟩
    rw [decide_eq_true rfl]
    exact k _ _ (Gw.refl _) rfl
theorem ok_lAlikeS {n : Nat} {f : Addr} {fd : FuncData} (F : Fun K "_law_alike" "_law_alike" sLAlike f fd) (T : Txt K mg) (hn : n ≤ 10) (C : Cal P w K mg base "_law_alike" (n + 1) ["found", "due"] (spAlike K n)) : FnOk P w K mg base CX0 (n + 2) f fd ["found", "due"] (spAlike K (n + 1)) := by
  refine F.ok scLAlike (fun vs H Q E h => ?_) (fun cdv A outer s H vs Q E hr h => ?_)
  · obtain ⟨a, b, d, rfl, _⟩ := h
    rfl
  · obtain ⟨x, y, d, rfl, hx, hy, hd, k⟩ := h
    refine ⟨_, pss_cons (ps_if (PW.pt (pw_or (pt_val (pe_callB (isiK K) (by rfl) T.isi (by decide +kernel) (pa_cons (pv 1) (pa_cons (pe_bltn (v := .ty "list") (by rfl) T.list (by decide +kernel) rfl) pa_nil))))
        (pw_or1 (pt_val (pe_callB (isiK K) (by rfl) T.isi (by decide +kernel) (pa_cons (pv 1) (pa_cons (pe_bltn (v := .ty "tuple") (by rfl) T.tuple (by decide +kernel) rfl) pa_nil)))))))
        (pss_cons (ps_if (PW.pt (pw_or (pt_cmpR op_ne (pe_callB (isiK K) (by rfl) T.isi (by decide +kernel) (pa_cons (pv 0) (pa_cons (pe_bltn (v := .ty "list") (by rfl) T.list (by decide +kernel) rfl) pa_nil)))
              (pe_callB (isiK K) (by rfl) T.isi (by decide +kernel) (pa_cons (pv 1) (pa_cons (pe_bltn (v := .ty "list") (by rfl) T.list (by decide +kernel) rfl) pa_nil))) (nomark _))
            (pw_or1 (pt_cmpR op_ne (pe_callB (isiK K) (by rfl) T.isi (by decide +kernel) (pa_cons (pv 0) (pa_cons (pe_bltn (v := .ty "tuple") (by rfl) T.tuple (by decide +kernel) rfl) pa_nil)))
              (pe_callB (isiK K) (by rfl) T.isi (by decide +kernel) (pa_cons (pv 1) (pa_cons (pe_bltn (v := .ty "tuple") (by rfl) T.tuple (by decide +kernel) rfl) pa_nil))) (nomark _))))) (pss_one ps_never) pss_nil)
        (pss_one (ps_ret (pe_and (pe_cmpR op_eq (pe_callB (lenK K) (by rfl) T.len PySem.boot_len (pa_cons (pv 0) pa_nil)) (pe_callB (lenK K) (by rfl) T.len PySem.boot_len (pa_cons (pv 1) pa_nil)) (nomark _))
          (pe_one (pe_cmpR (eqK K hr.units) (pe_lc (own := [("k", 2)]) (g := gName 2) rfl scLAlike.nd (pi_range1 rfl T.range (pa_cons (pe_callB (lenK K) (by rfl) T.len PySem.boot_len (pa_cons (pv 1) pa_nil)) pa_nil)) (blkOk_by (N := nmAl) (by kernel_rfl))
            (fun _ _ _ _ _ => pg_name (i := 2) scLAlike.nd rfl (Or.inl rfl)) (fun _ _ _ _ _ => pts_one (pt_not (pt_val (pe_call C.ok hr rfl C.hm C.kp C.b .nil pass0 (pa_cons (pe_ix (ixK K) (pv 0) (pv 2) (fun _ _ => rfl)) (pa_cons (pe_ix (ixK K) (pv 1) (pv 2) (fun _ _ => rfl)) pa_nil)))))) (fun _ _ _ _ _ => pv 2)) (pe_lst pa_nil) (nomark _))))))) pss_nil)
      (pss_cons (ps_if (pt_cmp (pc_isN (pv 1))) (pss_one ps_never) pss_nil)
      (pss_cons (ps_if (PW.pt (pw_or (pt_val (pe_callB (isiK K) (by rfl) T.isi (by decide +kernel) (pa_cons (pv 1) (pa_cons (pe_bltn (v := .ty "bool") (by rfl) T.bool (by decide +kernel) rfl) pa_nil))))
        (pw_or1 (pt_val (pe_callB (isiK K) (by rfl) T.isi (by decide +kernel) (pa_cons (pv 0) (pa_cons (pe_bltn (v := .ty "bool") (by rfl) T.bool (by decide +kernel) rfl) pa_nil))))))) (pss_one ps_never) pss_nil)
      (pss_cons (ps_if (pt_val (pe_callB (isiK K) (by rfl) T.isi (by decide +kernel) (pa_cons (pv 1) (pa_cons (pe_bltn (v := .ty "int") (by rfl) T.int (by decide +kernel) rfl) pa_nil))))
        (pss_one (ps_ret (pe_and (pe_callB (isiK K) (by rfl) T.isi (by decide +kernel) (pa_cons (pv 0) (pa_cons (pe_bltn (v := .ty "int") (by rfl) T.int (by decide +kernel) rfl) pa_nil))) (pe_one (pe_cmpR op_eq (pv 0) (pv 1) (nomark _)))))) pss_nil)
      (pss_one ps_never)))), ?_⟩
    rcases hd with ⟨i, rfl⟩ | ⟨ds, hd, hlen, hpl⟩
    · cases hx; cases hy
      refine ⟨_, rfl, _, _, _, _, _, rfl, .ty _, .base (.int _), kit_ty (r := false) (by decide +kernel), _, rfl, iteF ?_⟩
      refine ⟨_, rfl, _, _, _, _, _, rfl, .ty _, .base (.int _), kit_ty (r := false) (by decide +kernel), _, rfl, iteF ?_⟩
      refine ⟨_, rfl, _, rfl, iteF ?_⟩
      refine ⟨_, rfl, _, _, _, _, _, rfl, .ty _, .base (.int _), kit_ty (r := false) (by decide +kernel), _, rfl, iteF ?_⟩
      refine ⟨_, rfl, _, _, _, _, _, rfl, .ty _, .base (.int _), kit_ty (r := false) (by decide +kernel), _, rfl, iteF ?_⟩
      refine ⟨_, rfl, _, _, _, _, _, rfl, .ty _, .base (.int _), kit_ty (r := true) (by decide +kernel), _, rfl, iteT ?_⟩
      refine ⟨_, rfl, _, _, _, _, _, rfl, .ty _, .base (.int _), kit_ty (r := true) (by decide +kernel), _, rfl, iteT ?_⟩
      refine ⟨_, rfl, _, rfl, rfl, ?_⟩
      rw [decide_eq_true rfl]
      exact k _ _ (Gw.refl _) rfl
    · have two : ∃ (p q : Addr) (xs ys : List V), x = .ref p ∧ y = .ref q ∧ DpAll K H xs ds ∧ DpAll K H ys ds ∧ ((d = .list ds ∧ SqL K H p xs ∧ SqL K H q ys) ∨ (d = .tuple ds ∧ SqT K H p xs ∧ SqT K H q ys)) := by
        rcases hd with rfl | rfl
        · cases hx with
          | lst a b => cases hy with
            | lst c e => exact ⟨_, _, _, _, rfl, rfl, b, e, .inl ⟨rfl, a, c⟩⟩
        · cases hx with
          | tup a b => cases hy with
            | tup c e => exact ⟨_, _, _, _, rfl, rfl, b, e, .inr ⟨rfl, a, c⟩⟩
      obtain ⟨p, q, xs, ys, rfl, rfl, dx, dy, hk⟩ := two
      have lx := dpA_len dx
      have ly := dpA_len dy
      have sx : ∀ {H' : Hp}, Gw H H' → SqL K H' p xs ∨ SqT K H' p xs := fun g => by
        rcases hk with ⟨_, a, _⟩ | ⟨_, a, _⟩
        · exact .inl (g.sqL a)
        · exact .inr (g.sqT a)
      have sy : ∀ {H' : Hp}, Gw H H' → SqL K H' q ys ∨ SqT K H' q ys := fun g => by
        rcases hk with ⟨_, _, a⟩ | ⟨_, _, a⟩
        · exact .inl (g.sqL a)
        · exact .inr (g.sqT a)
      rcases hk with ⟨_, hp, hq⟩ | ⟨_, hp, hq⟩
      case' inl =>
        refine ⟨_, rfl, _, _, _, _, _, rfl, .ty _, tyx_lst hq, kit_ty (r := true) (by decide +kernel), _, rfl, iteT ?_⟩
        refine ⟨_, rfl, _, _, _, _, _, rfl, .ty _, tyx_lst hp, kit_ty (r := true) (by decide +kernel), _, rfl, _, _, _, _, _, rfl, .ty _, tyx_lst hq, kit_ty (r := true) (by decide +kernel), rfl, _, rfl, iteF ?_⟩
        refine ⟨_, rfl, _, _, _, _, _, rfl, .ty _, tyx_lst hp, kit_ty (r := false) (by decide +kernel), _, rfl, _, _, _, _, _, rfl, .ty _, tyx_lst hq, kit_ty (r := false) (by decide +kernel), rfl, _, rfl, iteF ?_⟩
      case' inr =>
        refine ⟨_, rfl, _, _, _, _, _, rfl, .ty _, tyx_tup hq, kit_ty (r := false) (by decide +kernel), _, rfl, iteF ?_⟩
        refine ⟨_, rfl, _, _, _, _, _, rfl, .ty _, tyx_tup hq, kit_ty (r := true) (by decide +kernel), _, rfl, iteT ?_⟩
        refine ⟨_, rfl, _, _, _, _, _, rfl, .ty _, tyx_tup hp, kit_ty (r := false) (by decide +kernel), _, rfl, _, _, _, _, _, rfl, .ty _, tyx_tup hq, kit_ty (r := false) (by decide +kernel), rfl, _, rfl, iteF ?_⟩
        refine ⟨_, rfl, _, _, _, _, _, rfl, .ty _, tyx_tup hp, kit_ty (r := true) (by decide +kernel), _, rfl, _, _, _, _, _, rfl, .ty _, tyx_tup hq, kit_ty (r := true) (by decide +kernel), rfl, _, rfl, iteF ?_⟩
      all_goals
        refine ⟨_, rfl, p, _, rfl, sx (Gw.refl _), _, rfl, q, _, rfl, sy (Gw.refl _), rfl, _, rfl, ?_⟩
        rw [decide_eq_true (show V.int (xs.length : Nat) = V.int (ys.length : Nat) by rw [lx, ly])]
        refine iteT ⟨_, rfl, q, _, rfl, sy (Gw.refl _), ?_⟩
        rw [ly]
        refine ⟨_, rfl, (by omega), (by omega), fun D hD => ?_⟩
        refine lc_it (walk_rangeN (N := ds.length) (by omega)) (fun j H6 => H6 D = some (.lst []) ∧ Gw H (rm H6 D)) ⟨upd_same, by rw [rm_upd, rm_none hD]; exact Gw.refl _⟩ (fun _ _ _ _ => True.intro) ?_ ?_
        · rintro j y H6 H7 hj ⟨q1, g6⟩ ⟨rfl, rfl⟩
          have G6 := g6.trans Gw.rm_le
          have ed : ds[j]? = some ds[j] := List.getElem?_eq_getElem hj
          obtain ⟨v1, ev1, d1⟩ := dpA_get dx ed
          obtain ⟨v2, ev2, d2⟩ := dpA_get dy ed
          refine ⟨rfl, _, rfl, _, rfl, ixSeq (sx G6) ev1 ⟨_, rfl, _, rfl, ixSeq (sy G6) ev2 ⟨_, _, _, rfl, G6.dp d1, G6.dp d2, hpl _ (List.getElem_mem hj), fun v8 H8 g8 e8 => ?_⟩⟩⟩
          subst e8
          exact ⟨_, rfl, iteF ⟨g8.at q1, g6.trans g8.rm⟩⟩
        · rintro H6 ⟨q1, g6⟩
          have G6 := g6.trans Gw.rm_le
          refine ⟨(show 0 ≤ sizeLine by decide), fun l hl => ?_⟩
          have g8 : Gw H6 (upd H6 l (.lst [])) := Gw.new _ hl
          exact ⟨.list [], .list [], .lst (SqL.of (g8.at q1)) .nil, .lst (SqL.of upd_same) .nil, rfl, rfl, k _ _ (G6.trans g8) rfl⟩
theorem ok_lMost {f : Addr} {fd : FuncData} (F : Fun K "_law_most" "_law_most" sLMost f fd) (T : Txt K mg) (C : Cal P w K mg base "_law_less" 1 ["one", "other"] (spLess K)) : FnOk P w K mg base CX0 2 f fd ["rows"] (spLMost K) := by
  refine F.ok scLMost (fun vs H Q E h => ?_) (fun cdv A outer s H vs Q E hr h => ?_)
  · obtain ⟨x, n, f, rfl, _⟩ := h
    rfl
  · obtain ⟨x, n, f, rfl, ⟨a, vs, rfl, hs, hl, hi⟩, hn, hn2, k⟩ := h
    refine ⟨_, pss_cons (ps_set (i := 1) scLMost.nd rfl (Or.inl rfl) (pe_ix (ixL K) (pv 0) pe_int (fun _ _ => rfl)))
      (pss_cons (ps_for PassesOwn.never rfl (pi_list (pv 0)) (pg_name (i := 2) scLMost.nd rfl (Or.inl rfl))
        (pss_one (ps_set (i := 1) scLMost.nd rfl (Or.inl rfl) (pe_ifExp (pt_val (pe_call C.ok hr rfl C.hm C.kp C.b .nil pass0 (pa_cons (pv 1) (pa_cons (pv 2) pa_nil)))) (pv 2) (pv 1)))))
      (pss_one (ps_ret (pv 1)))), ?_⟩
    obtain ⟨x0, e0, p0⟩ := hi 0 hn
    refine ⟨_, rfl, _, _, _, _, rfl, rfl, hs, atZ e0, ?_⟩
    refine ⟨_, rfl, a, rfl, ⟨vs, hs⟩, ?_⟩
    refine for_it (walk_listY (K := K) hl) (fun i σ H' => H' = H ∧ ∃ v u q, σ = [some (.ref a), some v, u] ∧ PAt K H v q ∧ (∃ j, j < n ∧ f j = q) ∧ ∀ j, j < i → f j ≤ q)
      ⟨rfl, x0, none, f 0, rfl, p0, ⟨0, hn, rfl⟩, fun j hj => absurd hj (Nat.not_lt_zero _)⟩ (fun _ _ _ _ h => by rw [h.1]; exact hs) ?_ ?_
    · rintro i y σ H1 H' hi' ⟨rfl, v, u, q, rfl, pq, ⟨j, hj, ej⟩, hq⟩ ⟨rfl, hy⟩
      obtain ⟨y', ey, py⟩ := hi i hi'
      rw [hy] at ey; cases ey
      refine ⟨_, rfl, _, rfl, _, _, q, f i, rfl, pq, py, ?_⟩
      by_cases h : q < f i
      · rw [decide_eq_true h]
        refine ⟨_, rfl, iteT ⟨_, rfl, rfl, _, _, f i, rfl, py, ⟨i, hi', rfl⟩, fun l hl' => ?_⟩⟩
        by_cases z : l < i
        · exact Rat.le_trans (hq l z) (Rat.le_of_lt h)
        · have : l = i := by omega
          subst this; exact Rat.le_refl
      · rw [decide_eq_false h]
        refine ⟨_, rfl, iteF ⟨_, rfl, rfl, _, _, q, rfl, pq, ⟨j, hj, ej⟩, fun l hl' => ?_⟩⟩
        by_cases z : l < i
        · exact hq l z
        · have : l = i := by omega
          subst this; exact Rat.not_lt.mp h
    · rintro σ H1 ⟨rfl, v, u, q, rfl, pq, ex, hq⟩
      exact ⟨_, rfl, k _ _ (Gw.refl _) ⟨q, pq, ex, hq⟩⟩
end
/-- the greater of two -/
theorem mx_of {a b q : Rat} {f : Nat → Rat} (h0 : f 0 = a) (h1 : f 1 = b) (hq : (∃ i, i < 2 ∧ f i = q) ∧ ∀ i, i < 2 → f i ≤ q) : q = LP.mx a b := by
  obtain ⟨⟨i, hi, e⟩, hl⟩ := hq
  have l0 := hl 0 (by omega)
  have l1 := hl 1 (by omega)
  rw [h0] at l0
  rw [h1] at l1
  have : i = 0 ∨ i = 1 := by omega
  unfold LP.mx
  rcases this with rfl | rfl
  · rw [h0] at e; subst e
    rw [if_neg (Rat.not_lt.mpr l1)]
  · rw [h1] at e; subst e
    by_cases z : a < b
    · rw [if_pos z]
    · rw [if_neg z]; exact Rat.le_antisymm (Rat.not_lt.mp z) l0
end K44


set_option Elab.async false
set_option linter.all false
set_option maxRecDepth 100000
set_option maxHeartbeats 4000000
set_option exponentiation.threshold 3000
/-! _law_takes. -/
namespace K44
open PySem L2
open LP (Fit lim S Tr tt hh here)
abbrev sLTakes : Stmt := top 85
/-- the lists of children -/
def KidsAt (K : PySem.W.Frag) (H : Hp) (kv : V) (T : Tr) : Prop := ∃ a ks, kv = .ref a ∧ SqL K H a ks ∧ ks.length = T.N ∧ ∀ i, i < T.N → ∃ b, ks[i]? = some (.ref b) ∧ SqL K H b ((T.kids i).map natV)
theorem KidsAt.gw {K : PySem.W.Frag} {H H' : Hp} {kv : V} {T : Tr} (h : KidsAt K H kv T) (g : Gw H H') : KidsAt K H' kv T := by
  obtain ⟨a, ks, e, h1, h2, h3⟩ := h
  exact ⟨a, ks, e, g.sqL h1, h2, fun i hi => let ⟨b, e, s⟩ := h3 i hi; ⟨b, e, g.sqL s⟩⟩
def LTk (T : Tr) (i : Nat) (c : Nat → Rat) (q : Rat) : Prop := (T.m i = 0 → q = 0) ∧ (0 < T.m i → LP.IsVal 2 (T.m i) (T.col i) (T.pr i) c q)
def spLTakes (K : PySem.W.Frag) : Sp := fun vs H Q _ => ∃ (v kv wv : V) (T : Tr) (dep : Nat → Nat) (wt : Nat → Rat) (i : Nat) (c : Nat → Rat), vs = [v, kv, .int (i : Nat), wv] ∧ MktAt K H v T ∧ KidsAt K H kv T ∧ T.Ok dep wt ∧ i < T.N ∧ VL K H wv (T.m i) c ∧ (∀ j, j < T.m i → LP.Cz (dep i + 1) (T.pr (T.kid i j) 0) (c j)) ∧ Ans H (fun v H' => ∃ q, PAt K H' v q ∧ LTk T i c q) Q
theorem nats_dp {K : PySem.W.Frag} {H : Hp} : ∀ ns : List Nat, DpAll K H (ns.map natV) (ns.map fun n => PyData.int ((n : Nat) : Int))
  | [] => .nil
  | n :: ns => .cons (.int _) (nats_dp ns)
theorem nats_shaped (ns : List Nat) : SeqAt.shaped (.list (ns.map fun n => PyData.int ((n : Nat) : Int))) = true := by
  have h1 : ∀ ns : List Nat, PyData.canLayAll0 (ns.map fun n => PyData.int ((n : Nat) : Int)) = true := fun ns => by
    induction ns with
    | nil => rfl
    | cons n ns ih => show (PyData.canLay0 (.int _) && _) = true; rw [ih]; rfl
  have h2 : ∀ ns : List Nat, PyData.depthAll (ns.map fun n => PyData.int ((n : Nat) : Int)) ≤ 1 := fun ns => by
    induction ns with
    | nil => exact Nat.zero_le _
    | cons n ns ih => show max (PyData.depth (.int _)) (PyData.depthAll (ns.map fun n => PyData.int ((n : Nat) : Int))) ≤ 1; have : PyData.depth (.int ((n : Nat) : Int)) = 0 := rfl; omega
  unfold SeqAt.shaped
  rw [show PyData.canLay0 (.list (ns.map fun n => PyData.int ((n : Nat) : Int))) = true from h1 ns, Bool.true_and]
  refine decide_eq_true ?_
  show PyData.depthAll (ns.map fun n => PyData.int ((n : Nat) : Int)) + 1 ≤ 64
  have := h2 ns
  omega
theorem nats_nil (ns : List Nat) : PyData.eqv (.list (ns.map fun n => PyData.int ((n : Nat) : Int))) (.list []) = decide (ns.length = 0) := by
  cases ns with
  | nil => rfl
  | cons n ns => rfl
/-- a candidate of the pair a, b -/
def Cd (col : Nat → Nat → Rat) (want c : Nat → Rat) (a b : Nat) (u : Rat) : Prop := (tt col a = here want ∧ u = hh col c a) ∨ (tt col a < here want ∧ here want < tt col b ∧ u = LP.mid col want c a b)
theorem cd_cand {m : Nat} {col : Nat → Nat → Rat} {want c : Nat → Rat} {a b : Nat} {u : Rat} (ha : a < m) (hb : b < m) (h : Cd col want c a b u) : LP.CandT m col want c u := by
  rcases h with ⟨e, r⟩ | ⟨l1, l2, r⟩
  · exact .inl ⟨a, ha, e, r⟩
  · exact .inr ⟨a, b, ha, hb, l1, l2, r⟩
theorem cand_cd {m : Nat} {col : Nat → Nat → Rat} {want c : Nat → Rat} {u : Rat} (h : LP.CandT m col want c u) : ∃ a b, a < m ∧ b < m ∧ Cd col want c a b u := by
  rcases h with ⟨a, ha, e, r⟩ | ⟨a, b, ha, hb, l1, l2, r⟩
  · exact ⟨a, a, ha, ha, .inl ⟨e, r⟩⟩
  · exact ⟨a, b, ha, hb, .inr ⟨l1, l2, r⟩⟩
/-- the list found after the pairs ahead of a, b -/
def FdAt (K : PySem.W.Frag) (H : Hp) (F : Addr) (m : Nat) (col : Nat → Nat → Rat) (want c : Nat → Rat) (a b : Nat) : Prop := ∃ (xs : List V) (g : Nat → Rat), H F = some (.lst xs) ∧ Items K (rm H F) xs xs.length g ∧ xs.length ≤ a * m + b ∧
  (∀ k, k < xs.length → ∃ a' b', a' < m ∧ b' < m ∧ Cd col want c a' b' (g k)) ∧ ∀ a' b' u, a' < m → b' < m → (a' < a ∨ (a' = a ∧ b' < b)) → Cd col want c a' b' u → ∃ k, k < xs.length ∧ g k = u
theorem FdAt.gw {K : PySem.W.Frag} {H H' : Hp} {F : Addr} {m : Nat} {col : Nat → Nat → Rat} {want c : Nat → Rat} {a b : Nat} (h : FdAt K H F m col want c a b) (g : Gw H H') : FdAt K H' F m col want c a b :=
  let ⟨xs, f, h1, h2, h3⟩ := h; ⟨xs, f, g.at h1, h2.gw g.rm, h3⟩
theorem FdAt.put {K : PySem.W.Frag} {H : Hp} {F : Addr} {m : Nat} {col : Nat → Nat → Rat} {want c : Nat → Rat} {a b : Nat} {xs : List V} {g : Nat → Rat} {y : V} {q : Rat} (hF : H F = some (.lst xs)) (it : Items K (rm H F) xs xs.length g) (le : xs.length ≤ a * m + b)
    (h1 : ∀ k, k < xs.length → ∃ a' b', a' < m ∧ b' < m ∧ Cd col want c a' b' (g k)) (h2 : ∀ a' b' u, a' < m → b' < m → (a' < a ∨ (a' = a ∧ b' < b)) → Cd col want c a' b' u → ∃ k, k < xs.length ∧ g k = u)
    (ha : a < m) (hb : b < m) (py : PAt K (rm H F) y q) (hq : Cd col want c a b q) (un : ∀ u, Cd col want c a b u → u = q) : FdAt K (upd H F (.lst (xs ++ [y]))) F m col want c a (b + 1) := by
  refine ⟨xs ++ [y], fun k => if k = xs.length then q else g k, upd_same, ⟨rfl, fun k hk => ?_⟩, by rw [List.length_append]; simp only [List.length_cons, List.length_nil]; omega, fun k hk => ?_, fun a' b' u ha' hb' ho hu => ?_⟩
  · rw [List.length_append] at hk
    simp only [List.length_cons, List.length_nil] at hk
    rw [rm_upd]
    dsimp only
    by_cases e : k = xs.length
    · subst e
      rw [if_pos rfl]
      exact ⟨y, by rw [List.getElem?_append_right (Nat.le_refl _), Nat.sub_self]; rfl, py⟩
    · rw [if_neg e]
      obtain ⟨x, e1, e2⟩ := it.2 k (by omega)
      exact ⟨x, by rw [List.getElem?_append_left (by omega)]; exact e1, e2⟩
  · rw [List.length_append] at hk
    simp only [List.length_cons, List.length_nil] at hk
    dsimp only
    by_cases e : k = xs.length
    · rw [if_pos e]; exact ⟨a, b, ha, hb, hq⟩
    · rw [if_neg e]; exact h1 k (by omega)
  · by_cases e : a' = a ∧ b' = b
    · obtain ⟨rfl, rfl⟩ := e
      exact ⟨xs.length, by rw [List.length_append]; exact Nat.lt_succ_self _, by dsimp only; rw [if_pos rfl]; exact (un u hu).symm⟩
    · obtain ⟨k, hk, ek⟩ := h2 a' b' u ha' hb' (by omega) hu
      exact ⟨k, by rw [List.length_append]; omega, by dsimp only; rw [if_neg (by omega)]; exact ek⟩
theorem FdAt.skip {K : PySem.W.Frag} {H : Hp} {F : Addr} {m : Nat} {col : Nat → Nat → Rat} {want c : Nat → Rat} {a b : Nat} (h : FdAt K H F m col want c a b) (no : ∀ u, ¬ Cd col want c a b u) : FdAt K H F m col want c a (b + 1) := by
  obtain ⟨xs, g, h1, h2, h3, h4, h5⟩ := h
  refine ⟨xs, g, h1, h2, by omega, h4, fun a' b' u ha hb ho hu => ?_⟩
  by_cases e : a' = a ∧ b' = b
  · obtain ⟨rfl, rfl⟩ := e
    exact absurd hu (no u)
  · exact h5 a' b' u ha hb (by omega) hu
theorem FdAt.next {K : PySem.W.Frag} {H : Hp} {F : Addr} {m : Nat} {col : Nat → Nat → Rat} {want c : Nat → Rat} {a : Nat} (h : FdAt K H F m col want c a m) : FdAt K H F m col want c (a + 1) 0 := by
  obtain ⟨xs, g, h1, h2, h3, h4, h5⟩ := h
  refine ⟨xs, g, h1, h2, by rw [Nat.succ_mul]; omega, h4, fun a' b' u ha hb ho hu => ?_⟩
  exact h5 a' b' u ha hb (by omega) hu
abbrev nmTk : List Str := ["market", "kids", "node", "wanted", "rows", "keep", "price", "here", "found", "told", "one", "other", "share", "kid", "k"]
section
variable {P : Program} {w : World} {K : PySem.W.Frag} {mg : Str → Option Value} {base : Heap}
abbrev CLPlus (P : Program) (w : World) (K : PySem.W.Frag) (mg : Str → Option Value) (base : Heap) := C2 P w K mg base "_law_plus" (· + ·)
abbrev CLTimes (P : Program) (w : World) (K : PySem.W.Frag) (mg : Str → Option Value) (base : Heap) := C2 P w K mg base "_law_times" (· * ·)
abbrev CLMinus (P : Program) (w : World) (K : PySem.W.Frag) (mg : Str → Option Value) (base : Heap) := Cal P w K mg base "_law_minus" 3 ["one", "other"] (sp2 K (· - ·))
abbrev CLOver (P : Program) (w : World) (K : PySem.W.Frag) (mg : Str → Option Value) (base : Heap) := Cal P w K mg base "_law_over" 2 ["one", "other"] (sp2o K)
abbrev CLLess (P : Program) (w : World) (K : PySem.W.Frag) (mg : Str → Option Value) (base : Heap) := Cal P w K mg base "_law_less" 1 ["one", "other"] (spLess K)
abbrev CLMost (P : Program) (w : World) (K : PySem.W.Frag) (mg : Str → Option Value) (base : Heap) := Cal P w K mg base "_law_most" 2 ["rows"] (spLMost K)
theorem scLTakes : FnScope nmTk ["market", "kids", "node", "wanted"] (defScope sLTakes) := ⟨rfl, rfl, rfl, by decide +kernel, rfl, by decide +kernel, by decide +kernel⟩
theorem ok_lTakes {f : Addr} {fd : FuncData} (F : Fun K "_law_takes" "_law_takes" sLTakes f fd) (T : Txt K mg) (C1 : CLOver P w K mg base) (C2' : CLMinus P w K mg base) (C3 : CLPlus P w K mg base) (C4 : CLTimes P w K mg base) (C5 : CLLess P w K mg base) (C6 : CLMost P w K mg base) : FnOk P w K mg base CX0 4 f fd ["market", "kids", "node", "wanted"] (spLTakes K) := by
  refine F.ok scLTakes (fun vs H Q E h => ?_) (fun cdv A outer s H vs Q E hr h => ?_)
  · obtain ⟨v, kv, wv, T, dep, wt, i, c, rfl, _⟩ := h
    rfl
  · obtain ⟨v, kv, wv, M, dep, wt, i, c, rfl, hM, hK, ok, hi, hw, hc, k⟩ := h
    refine ⟨_, pss_cons (ps_if (pt_cmpR (eqK K hr.units) (pe_ix (ixL K) (pv 1) (pv 2) (fun _ _ => rfl)) (pe_lst pa_nil) (nomark _)) (pss_one (ps_ret (pe_tup (pa_cons pe_int (pa_cons pe_int pa_nil))))) pss_nil)
      (pss_cons (ps_set (i := 4) scLTakes.nd rfl (Or.inr rfl) (pe_lc (own := [("kid", 13)]) (g := gName 13) (tt := tYes) rfl scLTakes.nd (listK K (pe_ix (ixL K) (pv 1) (pv 2) (fun _ _ => rfl))) (blkOk_by (N := nmTk) (by kernel_rfl))
          (fun _ _ _ _ _ => pg_name (i := 13) scLTakes.nd rfl (Or.inl rfl)) (fun _ _ _ _ _ => pts_nil) (fun _ _ _ _ _ => pe_ix (ixT K) (pe_ix (ixT K) (pe_ix (ixT K) (pv 0) pe_int (fun _ _ => rfl)) (pv 13) (fun _ _ => rfl)) pe_int (fun _ _ => rfl))))
      (pss_cons (ps_asg (pe_ix (ixT K) (pe_ix (ixT K) (pe_ix (ixT K) (pv 0) pe_int (fun _ _ => rfl)) (pv 2) (fun _ _ => rfl)) pe_int (fun _ _ => rfl)) (pg_tup rfl (pgs_cons (pg_name (i := 5) scLTakes.nd rfl (Or.inl rfl)) (pgs_cons (pg_name (i := 6) scLTakes.nd rfl (Or.inl rfl)) pgs_nil))))
      (pss_cons (ps_par (i := 7) (j := 8) rfl scLTakes.nd rfl rfl (by decide) rfl rfl (pa_cons (pe_call C1.ok (hr.mono (by decide)) rfl C1.hm C1.kp C1.b .nil pass0 (pa_cons (pv 6) (pa_cons (pv 5) pa_nil))) (pa_cons (pe_lst pa_nil) pa_nil)) rfl)
      (pss_cons (ps_setLc (i := 9) (own := [("k", 14)]) (g := gName 14) (tt := tYes) rfl scLTakes.nd rfl rfl (sw_true rfl rfl rfl rfl) (pi_range1 rfl T.range (pa_cons (pe_callB (lenK K) (by rfl) T.len PySem.boot_len (pa_cons (pv 4) pa_nil)) pa_nil)) (blkOk_by (N := nmTk) (by kernel_rfl))
          (fun _ _ _ _ _ => pg_name (i := 14) scLTakes.nd rfl (Or.inl rfl)) (fun _ _ _ _ _ => pts_nil)
          (fun _ _ _ _ _ => pe_tup (pa_cons (pe_call C1.ok (hr.mono (by decide)) rfl C1.hm C1.kp C1.b .nil pass0 (pa_cons (pe_ix (ixT K) (pe_ix (ixL K) (pv 4) (pv 14) (fun _ _ => rfl)) pe_int (fun _ _ => rfl)) (pa_cons (pe_ix (ixT K) (pe_ix (ixL K) (pv 4) (pv 14) (fun _ _ => rfl)) pe_int (fun _ _ => rfl)) pa_nil)))
            (pa_cons (pe_call C1.ok (hr.mono (by decide)) rfl C1.hm C1.kp C1.b .nil pass0 (pa_cons (pe_ix (ixL K) (pv 3) (pv 14) (fun _ _ => rfl)) (pa_cons (pe_ix (ixT K) (pe_ix (ixL K) (pv 4) (pv 14) (fun _ _ => rfl)) pe_int (fun _ _ => rfl)) pa_nil))) pa_nil))))
      (pss_cons (ps_for PassesOwn.never rfl (pi_list (pv 9)) (pg_name (i := 10) scLTakes.nd rfl (Or.inl rfl))
        (pss_one (ps_for PassesOwn.never rfl (pi_list (pv 9)) (pg_name (i := 11) scLTakes.nd rfl (Or.inl rfl))
          (pss_one (ps_if (pt_cmpR (eqK K hr.units) (pe_ix (ixT K) (pv 10) pe_int (fun _ _ => rfl)) (pv 7) (nomark _))
            (pss_one (ps_expr (pe_bm PySem.F.plainAttrs_list PySem.F.slot_list_append PySem.F.type_list_append mt_append (pv 8) (pa_cons (pe_ix (ixT K) (pv 10) pe_int (fun _ _ => rfl)) pa_nil))))
            (pss_one (ps_if (PW.pt (pw_and (pt_val (pe_call C5.ok (hr.mono (by decide)) rfl C5.hm C5.kp C5.b .nil pass0 (pa_cons (pe_ix (ixT K) (pv 10) pe_int (fun _ _ => rfl)) (pa_cons (pv 7) pa_nil))))
                (pw_and1 (pt_val (pe_call C5.ok (hr.mono (by decide)) rfl C5.hm C5.kp C5.b .nil pass0 (pa_cons (pv 7) (pa_cons (pe_ix (ixT K) (pv 11) pe_int (fun _ _ => rfl)) pa_nil)))))))
              (pss_cons (ps_set (i := 12) scLTakes.nd rfl (Or.inl rfl) (pe_call C1.ok (hr.mono (by decide)) rfl C1.hm C1.kp C1.b .nil pass0 (pa_cons (pe_call C2'.ok hr rfl C2'.hm C2'.kp C2'.b .nil pass0 (pa_cons (pv 7) (pa_cons (pe_ix (ixT K) (pv 10) pe_int (fun _ _ => rfl)) pa_nil)))
                (pa_cons (pe_call C2'.ok hr rfl C2'.hm C2'.kp C2'.b .nil pass0 (pa_cons (pe_ix (ixT K) (pv 11) pe_int (fun _ _ => rfl)) (pa_cons (pe_ix (ixT K) (pv 10) pe_int (fun _ _ => rfl)) pa_nil))) pa_nil))))
              (pss_one (ps_expr (pe_bm PySem.F.plainAttrs_list PySem.F.slot_list_append PySem.F.type_list_append mt_append (pv 8) (pa_cons (pe_call C3.ok (hr.mono (by decide)) rfl C3.hm C3.kp C3.b .nil pass0 (pa_cons (pe_ix (ixT K) (pv 10) pe_int (fun _ _ => rfl)) (pa_cons (pe_call C4.ok (hr.mono (by decide)) rfl C4.hm C4.kp C4.b .nil pass0 (pa_cons (pv 12) (pa_cons
                (pe_call C2'.ok hr rfl C2'.hm C2'.kp C2'.b .nil pass0 (pa_cons (pe_ix (ixT K) (pv 11) pe_int (fun _ _ => rfl)) (pa_cons (pe_ix (ixT K) (pv 10) pe_int (fun _ _ => rfl)) pa_nil))) pa_nil))) pa_nil))) pa_nil))))) pss_nil)))))))
      (pss_one (ps_ret (pe_call C4.ok (hr.mono (by decide)) rfl C4.hm C4.kp C4.b .nil pass0 (pa_cons (pv 5) (pa_cons (pe_call C6.ok (hr.mono (by decide)) rfl C6.hm C6.kp C6.b .nil pass0 (pa_cons (pv 8) pa_nil)) pa_nil)))))))))), ?_⟩
    obtain ⟨am, na, nd, ns, rfl, h1, h2, h3, h4, h5⟩ := id hM
    obtain ⟨ak, ks, rfl, k1, k2, k3⟩ := id hK
    obtain ⟨bk, bk1, bk2⟩ := k3 i hi
    have e1 : atI [V.ref na, V.ref nd] 1 = some (V.ref nd) := atI_nat (j := 1) rfl
    have lk : ((M.kids i).map natV).length = M.m i := List.length_map ..
    have m4 := ok.m4 i
    refine ⟨_, rfl, _, rfl, _, _, _, _, rfl, rfl, k1, at_of rfl bk1, (show 0 ≤ sizeLine by decide), fun l hl => ?_⟩
    have gl := Gw.new (.lst []) hl
    refine ⟨_, _, .lst (gl.sqL bk2) (nats_dp _), .lst (SqL.of upd_same) .nil, nats_shaped _, rfl, _, rfl, ?_⟩
    rw [nats_nil]
    show (if decide (M.m i = 0) = true then _ else _)
    by_cases hm0 : M.m i = 0
    · rw [decide_eq_true hm0]
      refine iteT ⟨(show 2 ≤ sizeLine by decide), fun p hp => ?_⟩
      exact k _ _ (gl.trans (Gw.new _ hp)) ⟨0, ⟨⟨p, rfl, SqT.of upd_same⟩, fit_zero⟩, fun _ => rfl, fun z => absurd z (by omega)⟩
    rw [decide_eq_false hm0]
    have hm : 0 < M.m i := by omega
    have Td := ok.told hi
    have nI := ok.nodI hi hm
    have kI := fun a (ha : a < M.m i) => ok.kidI hi ha (hc a ha)
    refine iteF ⟨_, rfl, _, rfl, _, _, _, _, rfl, rfl, gl.sqL k1, at_of rfl bk1, bk, rfl, ⟨_, gl.sqL bk2⟩, fun D hD => ?_⟩
    refine lc_grow (walk_listY (K := K) (a := bk) (xs := (M.kids i).map natV) (n := M.m i) lk) hD (by omega) (fun j v H => VT K H v 2 (M.col i j)) (fun _ _ _ _ g r => r.gw g) (fun H' g => (gl.trans g).sqL bk2) (fun j y H2' H2 hj _ g2 ⟨ws, hw'⟩ hY C9 hC9 => ?_) (fun H2 rws g2 _ hrw lrw irw => ?_)
    · obtain ⟨rfl, hy⟩ := hY
      have ey : y = natV (M.kid i j) := by
        rw [List.getElem?_map, List.getElem?_eq_getElem hj] at hy
        have := Option.some.inj hy
        rw [← this]
        unfold Tr.kid
        rw [List.getD_eq_getElem?_getD, List.getElem?_eq_getElem hj]; rfl
      subst ey
      obtain ⟨t, pt, et, st, sp⟩ := h5 _ (ok.kid hj).1
      have g := gl.trans g2
      exact ⟨rfl, _, rfl, _, _, _, _, rfl, rfl, g.sqT h1, e1, _, rfl, _, _, _, _, rfl, rfl, g.sqT h3, at_of rfl et, _, _, _, _, rfl, rfl, g.sqT st, atI_nat (j := 1) rfl, hC9 _ _ (Gw.refl _) ((sp.gw g).rmD hw')⟩
    have G2 := gl.trans g2
    obtain ⟨t, pt, et, st, ap, vp, rfl, sp, lp, ip⟩ := h5 i hi
    obtain ⟨vK, eK, pK⟩ := ip 0 (by omega)
    obtain ⟨vP, eP, pP⟩ := ip 1 (by omega)
    have evp : vp = [vK, vP] := by
      match vp, lp, eK, eP with
      | [a, b], _, h0, h1 => cases h0; cases h1; rfl
    subst evp
    refine ⟨_, rfl, _, _, _, _, rfl, rfl, G2.sqT h1, e1, _, rfl, _, _, _, _, rfl, rfl, G2.sqT h3, at_of rfl et, _, _, _, _, rfl, rfl, G2.sqT st, atI_nat (j := 1) rfl, ?_⟩
    refine ⟨ap, _, rfl, G2.sqT sp, rfl, _, _, rfl, _, _, rfl, rfl, ?_⟩
    have kp := (ok.pr i hi).kpos (ok.d3 i hi)
    refine ⟨_, rfl, _, rfl, _, _, M.pr i 1, M.pr i 0, rfl, pP.gw G2, pK.gw G2, by grind, LP.fit_here Td nI, fun vh H3 g3 r3 => ⟨(show 0 ≤ sizeLine by decide), fun F hF => ⟨_, _, rfl, ?_⟩⟩⟩
    have r3 : PAt K H3 vh (here (M.pr i)) := r3
    have gF := Gw.new (.lst []) hF
    have G3 := g3.trans gF
    have G23 := G2.trans G3
    obtain ⟨aw, vw, rfl, sw, lw, iw⟩ := id hw
    have sD : SqL K (upd H3 F (.lst [])) D rws := G3.sqL (SqL.of hrw)
    have irw' : ∀ j, j < M.m i → ∃ y, rws[j]? = some y ∧ VT K (upd H3 F (.lst [])) y 2 (M.col i j) := fun j hj => let ⟨y, e, r⟩ := irw j hj; ⟨y, e, (r.gw Gw.rm_le).gw G3⟩
    refine ⟨_, rfl, D, _, rfl, .inl sD, ?_⟩
    rw [lrw]
    refine ⟨_, rfl, (by omega), (by omega), fun E hE => ?_⟩
    refine lc_grow (walk_rangeN (N := M.m i) (by omega)) hE (by omega) (fun j v H => ∃ (tj : Addr) (x y : V), v = .ref tj ∧ SqT K H tj [x, y] ∧ PAt K H x (tt (M.col i) j) ∧ PAt K H y (hh (M.col i) c j)) (fun _ _ _ _ g ⟨tj, x, y, e, s, p1, p2⟩ => ⟨tj, x, y, e, g.sqT s, p1.gw g, p2.gw g⟩) (fun _ _ => True.intro) (fun j y H4' H4 hj _ g4 ⟨ws, hw'⟩ hY C9 hC9 => ?_) (fun H4 tls g4 _ htl ltl itl => ?_)
    · obtain ⟨rfl, rfl⟩ := hY
      obtain ⟨x, ex, ar, vr, rfl, sr, lr, ir⟩ := irw' j hj
      obtain ⟨x0, ex0, px0⟩ := ir 0 (by omega)
      obtain ⟨x1, ex1, px1⟩ := ir 1 (by omega)
      obtain ⟨xw, exw, pxw⟩ := iw j hj
      have kj := Td.kp j hj
      refine ⟨rfl, _, rfl, _, rfl, _, _, _, _, rfl, rfl, g4.sqL sD, at_of rfl ex, _, _, _, _, rfl, rfl, g4.sqT sr, atI_nat (j := 1) ex1, _, rfl, _, rfl, _, _, _, _, rfl, rfl, g4.sqL sD, at_of rfl ex, _, _, _, _, rfl, rfl, g4.sqT sr, atI_nat (j := 0) ex0, _, _, M.col i j 1, M.col i j 0, rfl, px1.gw g4, px0.gw g4, by grind, LP.fit_tt Td hj (kI j hj), fun v5 H5 g5 r5 => ?_⟩
      have g45 := g4.trans g5
      refine ⟨_, rfl, _, rfl, _, _, _, _, rfl, rfl, (G23.trans g45).sqL sw, at_of rfl exw, _, rfl, _, rfl, _, _, _, _, rfl, rfl, g45.sqL sD, at_of rfl ex, _, _, _, _, rfl, rfl, g45.sqT sr, atI_nat (j := 0) ex0, _, _, c j, M.col i j 0, rfl, pxw.gw (G23.trans g45), px0.gw g45, by grind, LP.fit_hh Td nI hj (kI j hj), fun v6 H6 g6 r6 => ⟨(show 2 ≤ sizeLine by decide), fun p hp => ?_⟩⟩
      have gp := Gw.new (.tup [v5, v6]) hp
      have gall := g5.trans (g6.trans gp)
      have hE' := gall.at hw'
      have r5 : PAt K H5 v5 (tt (M.col i) j) := r5
      have r6 : PAt K H6 v6 (hh (M.col i) c j) := r6
      exact hC9 _ _ gall ⟨p, v5, v6, rfl, sqT_rm (SqT.of upd_same) hE', (r5.gw (g6.trans gp)).rm hE', (r6.gw gp).rm hE'⟩
    have neEF : F ≠ E := fun z => by rw [z, upd_same] at hE; cases hE
    have itl' : ∀ j, j < M.m i → ∃ (tj : Addr) (x y : V), tls[j]? = some (.ref tj) ∧ SqT K (rm H4 F) tj [x, y] ∧ PAt K (rm H4 F) x (tt (M.col i) j) ∧ PAt K (rm H4 F) y (hh (M.col i) c j) := fun j hj => by
      obtain ⟨y, e, tj, x, y', rfl, s, p1, p2⟩ := itl j hj
      have hF4 : H4 F = some (.lst []) := g4.at upd_same
      exact ⟨tj, x, y', e, sqT_rm (Gw.rm_le.sqT s) hF4, (p1.gw Gw.rm_le).rm hF4, (p2.gw Gw.rm_le).rm hF4⟩
    have hF4 : H4 F = some (.lst []) := g4.at upd_same
    have hE4 : (rm H4 F) E = some (.lst tls) := by rw [rm_ne (Ne.symm neEF)]; exact htl
    have r4 : PAt K (rm H4 F) vh (here (M.pr i)) := ((r3.gw gF).gw g4).rm hF4
    have G4 := G23.trans g4
    have gN : Gw H H4 := G4
    clear itl
    have pK4 := (pK.gw G4).rm hF4
    generalize hB : rm H4 F = B at *
    refine ⟨_, rfl, E, rfl, ⟨_, SqL.of (by have := hE4; rw [← hB] at this; exact (rm_some this).2)⟩, ?_⟩
    refine for_it (walk_listY (K := K) (a := E) (xs := tls) (n := M.m i) ltl) (fun a σ H' => (∃ u10 u11 u12, σ = [some (.ref am), some (.ref ak), some (.int (i : Nat)), some (.ref aw), some (.ref D), some vK, some vP, some vh, some (.ref F), some (.ref E), u10, u11, u12, none, none]) ∧ Gw B (rm H' F) ∧ FdAt K H' F (M.m i) (M.col i) (M.pr i) c a 0)
      ⟨⟨_, _, _, rfl⟩, by rw [hB]; exact Gw.refl _, [], fun _ => 0, hF4, ⟨rfl, fun k hk => absurd hk (Nat.not_lt_zero _)⟩, Nat.zero_le _, fun k hk => absurd hk (Nat.not_lt_zero _), fun a' b' u _ _ ho _ => by omega⟩ (fun a σ H' _ h => SqL.of (Gw.rm_le.at (h.2.1.at hE4))) ?_ ?_
    · rintro a y σ H5' H5 ha ⟨⟨u10, u11, u12, rfl⟩, g5, fd⟩ ⟨rfl, hy⟩
      obtain ⟨ta, xa, ya, eta, sa, pxa, pya⟩ := itl' a ha
      rw [hy] at eta; cases eta
      refine ⟨_, rfl, E, rfl, ⟨_, SqL.of (Gw.rm_le.at (g5.at hE4))⟩, ?_⟩
      refine for_it (walk_listY (K := K) (a := E) (xs := tls) (n := M.m i) ltl) (fun b σ H' => (∃ u11 u12, σ = [some (.ref am), some (.ref ak), some (.int (i : Nat)), some (.ref aw), some (.ref D), some vK, some vP, some vh, some (.ref F), some (.ref E), some (.ref ta), u11, u12, none, none]) ∧ Gw B (rm H' F) ∧ FdAt K H' F (M.m i) (M.col i) (M.pr i) c a b)
        ⟨⟨_, _, rfl⟩, g5, fd⟩ (fun b σ H' _ h => SqL.of (Gw.rm_le.at (h.2.1.at hE4))) ?_ (fun σ H' ⟨⟨u11, u12, e⟩, g, fd⟩ => ⟨⟨_, _, _, e⟩, g, fd.next⟩)
      rintro b y σ H6' H6 hb ⟨⟨u11, u12, rfl⟩, g6, fd⟩ ⟨rfl, hy⟩
      obtain ⟨tb, xb, yb, etb, sb, pxb, pyb⟩ := itl' b hb
      rw [hy] at etb; cases etb
      have ka := kI a ha
      have kb := kI b hb
      have G6 : Gw B H6 := g6.trans Gw.rm_le
      refine ⟨_, rfl, _, _, _, _, rfl, rfl, G6.sqT sa, atI_nat (j := 0) rfl, _, rfl, _, _, (pxa.gw G6).dp, (r4.gw G6).dp, part_shaped _, part_shaped _, _, rfl, ?_⟩
      rw [part_eqv]
      obtain ⟨xs, g, f1, f2, f3, f4, f5⟩ := id fd
      have xl : xs.length ≤ 100 := by
        have : a * M.m i ≤ 4 * 4 := Nat.mul_le_mul (by omega) m4
        omega
      by_cases c1 : tt (M.col i) a = here (M.pr i)
      · rw [decide_eq_true c1]
        refine iteT ⟨_, rfl, .inl ⟨rfl, _, SqL.of f1⟩, _, rfl, _, _, _, _, rfl, rfl, G6.sqT sa, atI_nat (j := 1) rfl, F, _, _, rfl, rfl, f1, small1000 (by omega), ⟨_, _, rfl⟩, by rw [rm_upd]; exact g6, ?_⟩
        refine FdAt.put f1 f2 f3 f4 f5 ha hb (pya.gw g6) (.inl ⟨c1, rfl⟩) fun u hu => ?_
        rcases hu with ⟨_, e⟩ | ⟨l, _⟩
        · exact e
        · rw [c1] at l; exact absurd l (Rat.not_lt.mpr Rat.le_refl)
      · rw [decide_eq_false c1]
        refine iteF ⟨_, rfl, _, _, _, _, rfl, rfl, G6.sqT sa, atI_nat (j := 0) rfl, _, rfl, _, _, _, _, rfl, pxa.gw G6, r4.gw G6, _, rfl, ?_⟩
        by_cases c2 : tt (M.col i) a < here (M.pr i)
        · rw [decide_eq_true c2]
          refine iteT ⟨_, rfl, _, rfl, _, _, _, _, rfl, rfl, G6.sqT sb, atI_nat (j := 0) rfl, _, _, _, _, rfl, r4.gw G6, pxb.gw G6, _, rfl, ?_⟩
          by_cases c3 : here (M.pr i) < tt (M.col i) b
          · rw [decide_eq_true c3]
            refine iteT ⟨_, rfl, _, rfl, _, _, _, _, rfl, rfl, G6.sqT sa, atI_nat (j := 0) rfl, _, _, _, _, rfl, r4.gw G6, pxa.gw G6, LP.fit_up Td nI ha ka, fun v7 H7 g7 r7 => ?_⟩
            have G7 := G6.trans g7
            refine ⟨_, rfl, _, _, _, _, rfl, rfl, G7.sqT sb, atI_nat (j := 0) rfl, _, rfl, _, _, _, _, rfl, rfl, G7.sqT sa, atI_nat (j := 0) rfl, _, _, _, _, rfl, pxb.gw G7, pxa.gw G7, LP.fit_wide Td ha hb ka kb, fun v8 H8 g8 r8 => ?_⟩
            refine ⟨_, _, _, _, rfl, PAt.gw r7 g8, r8, by grind, LP.fit_share Td nI ha hb ka kb c2 c3, fun v9 H9 g9 r9 => ?_⟩
            have g69 := g7.trans (g8.trans g9)
            have G9 := G6.trans g69
            have F9 := g69.at f1
            refine ⟨_, rfl, .inl ⟨rfl, _, SqL.of F9⟩, _, rfl, _, _, _, _, rfl, rfl, G9.sqT sa, atI_nat (j := 1) rfl, _, rfl, _, rfl, _, _, _, _, rfl, rfl, G9.sqT sb, atI_nat (j := 1) rfl, _, rfl, _, _, _, _, rfl, rfl, G9.sqT sa, atI_nat (j := 1) rfl, _, _, _, _, rfl, pyb.gw G9, pya.gw G9, LP.fit_diff Td nI ha hb ka kb, fun va Ha ga ra => ?_⟩
            refine ⟨_, _, _, _, rfl, PAt.gw r9 ga, ra, LP.fit_prod Td nI ha hb ka kb c2 c3, fun vb Hb gb rb => ?_⟩
            refine ⟨_, _, _, _, rfl, pya.gw (G9.trans (ga.trans gb)), rb, LP.fit_mid Td nI ha hb ka kb c2 c3, fun vc Hc gc rc => ?_⟩
            have g6c := g69.trans (ga.trans (gb.trans gc))
            have Fc := g6c.at f1
            refine ⟨F, _, _, rfl, rfl, Fc, small1000 (by omega), ⟨_, _, rfl⟩, by rw [rm_upd]; exact g6.trans g6c.rm, ?_⟩
            have rc : PAt K Hc vc (LP.mid (M.col i) (M.pr i) c a b) := rc
            refine FdAt.put Fc (f2.gw g6c.rm) f3 f4 f5 ha hb (rc.rm Fc) (.inr ⟨c2, c3, rfl⟩) fun u hu => ?_
            rcases hu with ⟨e, _⟩ | ⟨_, _, e⟩
            · exact absurd e c1
            · exact e
          · rw [decide_eq_false c3]
            refine iteF ⟨⟨_, _, rfl⟩, g6, fd.skip fun u hu => ?_⟩
            rcases hu with ⟨e, _⟩ | ⟨_, l, _⟩
            · exact c1 e
            · exact c3 l
        · rw [decide_eq_false c2]
          refine iteF (iteF ⟨⟨_, _, rfl⟩, g6, fd.skip fun u hu => ?_⟩)
          rcases hu with ⟨e, _⟩ | ⟨l, _⟩
          · exact c1 e
          · exact c2 l
    · rintro σ H5 ⟨⟨u10, u11, u12, rfl⟩, g5, xs, g, f1, f2, f3, f4, f5⟩
      have GB : Gw H (rm H4 F) := by
        have := G4.rm_free (D := F) (by
          by_cases z : H F = none
          · exact z
          · obtain ⟨o, ho⟩ := Option.ne_none_iff_exists'.mp z
            rcases (G2.trans g3) F o ho with q | ⟨_, _, _, q, _⟩
            · rw [hF] at q; cases q
            · rw [hF] at q; cases q)
        exact this
      rw [hB] at GB
      have G5 := g5.trans Gw.rm_le
      obtain ⟨s1, s2⟩ := ok.shares hi hm
      obtain ⟨Q0, vQ⟩ := LP.val_ex Td s1 s2 c
      obtain ⟨u, cu, eu⟩ := LP.cand_ex Td vQ
      obtain ⟨a0, b0, ha0, hb0, cd0⟩ := cand_cd cu
      obtain ⟨k0, hk0, ek0⟩ := f5 a0 b0 u ha0 hb0 (.inl ha0) cd0
      have xl : xs.length ≤ 100 := by
        have : M.m i * M.m i ≤ 4 * 4 := Nat.mul_le_mul m4 m4
        omega
      refine ⟨_, rfl, _, rfl, _, xs.length, g, rfl, ⟨F, xs, rfl, SqL.of f1, f2.gw Gw.rm_le⟩, by omega, by omega, fun v6 H6 g6 ⟨q, pq, ⟨k1, hk1, ek1⟩, ub⟩ => ?_⟩
      obtain ⟨a1, b1, ha1, hb1, cd1⟩ := f4 k1 hk1
      have le1 := LP.cand_le Td vQ (cd_cand ha1 hb1 cd1)
      have le2 := ub k0 hk0
      rw [ek1] at le1
      rw [ek0] at le2
      have le3 := Rat.mul_le_mul_of_nonneg_left le2 (Rat.le_of_lt kp)
      have eq : M.pr i 0 * q = Q0 := by grind
      have fit := ok.fitz hi (ok.cvz hi (LP.val_cv ok hi hm hc vQ))
      refine ⟨_, _, _, _, rfl, pK4.gw (G5.trans g6), pq, by show Fit (M.pr i 0 * q); rw [eq]; exact fit, fun v7 H7 g7 r7 => ?_⟩
      have r7 : PAt K H7 v7 (M.pr i 0 * q) := r7
      rw [eq] at r7
      exact k _ _ (GB.trans (G5.trans (g6.trans g7))) ⟨Q0, r7, fun z => absurd z (by omega), fun _ => vQ⟩
end
end K44


set_option Elab.async false
set_option linter.all false
set_option maxRecDepth 100000
set_option maxHeartbeats 4000000
set_option exponentiation.threshold 3000
/-! _law_dues, _law_offered. -/
namespace K44
open PySem L2
open LP (Fit lim S Tr)
abbrev sLDues : Stmt := top 86
abbrev sLOffered : Stmt := top 87
/-- a list of costs from node lo on -/
def CostL (K : PySem.W.Frag) (H : Hp) (F : Addr) (N lo : Nat) (f : Nat → Rat) : Prop := ∃ xs, H F = some (.lst xs) ∧ xs.length = N ∧ ∀ j, lo ≤ j → j < N → ∃ x, xs[j]? = some x ∧ PAt K (rm H F) x (f j)
theorem CostL.gw {K : PySem.W.Frag} {H H' : Hp} {F : Addr} {N lo : Nat} {f : Nat → Rat} (h : CostL K H F N lo f) (g : Gw H H') : CostL K H' F N lo f :=
  let ⟨xs, a, b, c⟩ := h; ⟨xs, g.at a, b, fun j h1 h2 => let ⟨x, e, p⟩ := c j h1 h2; ⟨x, e, p.gw g.rm⟩⟩
theorem CostL.put {K : PySem.W.Frag} {H : Hp} {F : Addr} {N i : Nat} {f : Nat → Rat} {xs : List V} {x : V} (hF : H F = some (.lst xs)) (hl : xs.length = N) (c : ∀ j, i + 1 ≤ j → j < N → ∃ x, xs[j]? = some x ∧ PAt K (rm H F) x (f j)) (hi : i < N) (hx : PAt K H x (f i)) : CostL K (upd H F (.lst (xs.set i x))) F N i f := by
  refine ⟨_, upd_same, by rw [List.length_set]; exact hl, fun j h1 h2 => ?_⟩
  rw [rm_upd]
  by_cases e : j = i
  · subst e
    exact ⟨x, by rw [List.getElem?_set_self (by omega)], hx.rm hF⟩
  · obtain ⟨y, e1, e2⟩ := c j (by omega) h2
    exact ⟨y, by rw [List.getElem?_set_ne (by omega)]; exact e1, e2⟩
theorem LTk.tkv {T : Tr} {dep : Nat → Nat} {wt : Nat → Rat} (ok : T.Ok dep wt) {i : Nat} (hi : i < T.N) {f : Nat → Rat} {q : Rat} (h : LTk T i (fun j => f (T.kid i j)) q) : q = LP.tkv T i f := by
  by_cases hm : T.m i = 0
  · rw [h.1 hm, LP.tkv_leaf ok hi hm]
  · exact (LP.tkv_eq ok hi (by omega) (fun j hj => rfl) (h.2 (by omega))).symm
theorem kid_cz {T : Tr} {dep : Nat → Nat} {wt : Nat → Rat} (ok : T.Ok dep wt) {i : Nat} {f : Nat → Rat} (cz : ∀ j, i < j → j < T.N → LP.Cz (dep j) (T.pr j 0) (f j)) : ∀ j, j < T.m i → LP.Cz (dep i + 1) (T.pr (T.kid i j) 0) (f (T.kid i j)) := fun j hj => by
  obtain ⟨a, b, c, d, e⟩ := ok.kid hj
  rw [← e]; exact cz _ d a
theorem kid_y {T : Tr} {i j : Nat} {y : V} (hj : j < T.m i) (hy : ((T.kids i).map natV)[j]? = some y) : y = natV (T.kid i j) := by
  rw [List.getElem?_map, List.getElem?_eq_getElem hj] at hy
  have := Option.some.inj hy
  rw [← this]
  unfold Tr.kid
  rw [List.getD_eq_getElem?_getD, List.getElem?_eq_getElem hj]; rfl
def spLDues (K : PySem.W.Frag) : Sp := fun vs H Q _ => ∃ (v kv dv : V) (T : Tr) (dep : Nat → Nat) (wt : Nat → Rat) (du : Nat → Rat), vs = [v, kv, dv] ∧ MktAt K H v T ∧ KidsAt K H kv T ∧ T.Ok dep wt ∧ VT K H dv T.N du ∧ (∀ i, i < T.N → LP.Du (du i)) ∧ Ans H (fun v H' => VL K H' v T.N (LP.dueF T du)) Q
def spLOffered (K : PySem.W.Frag) : Sp := fun vs H Q _ => ∃ (v kv ov cv : V) (T : Tr) (dep : Nat → Nat) (wt : Nat → Rat) (o cl : Nat → Option Rat), vs = [v, kv, ov, cv] ∧ MktAt K H v T ∧ KidsAt K H kv T ∧ T.Ok dep wt ∧ OptT K H ov T.N o ∧ LP.DuO T.N o ∧ OptT K H cv T.N cl ∧ LP.DuO T.N cl ∧ Ans H (fun v H' => VL K H' v T.N (LP.offF T o cl)) Q
abbrev nmLD : List Str := ["market", "kids", "dues", "found", "node", "due", "kid"]
abbrev nmLO : List Str := ["market", "kids", "offer", "call", "found", "node", "more", "part_v", "kid"]
section
variable {P : Program} {w : World} {K : PySem.W.Frag} {mg : Str → Option Value} {base : Heap}
abbrev CLTakes (P : Program) (w : World) (K : PySem.W.Frag) (mg : Str → Option Value) (base : Heap) := Cal P w K mg base "_law_takes" 4 ["market", "kids", "node", "wanted"] (spLTakes K)
theorem scLDues : FnScope nmLD ["market", "kids", "dues"] (defScope sLDues) := ⟨rfl, rfl, rfl, by decide +kernel, rfl, by decide +kernel, by decide +kernel⟩
theorem scLOffered : FnScope nmLO ["market", "kids", "offer", "call"] (defScope sLOffered) := ⟨rfl, rfl, rfl, by decide +kernel, rfl, by decide +kernel, by decide +kernel⟩
theorem ok_lDues {f : Addr} {fd : FuncData} (F : Fun K "_law_dues" "_law_dues" sLDues f fd) (T : Txt K mg) (C1 : CLTakes P w K mg base) (C3 : CLPlus P w K mg base) : FnOk P w K mg base CX0 5 f fd ["market", "kids", "dues"] (spLDues K) := by
  refine F.ok scLDues (fun vs H Q E h => ?_) (fun cdv A outer s H vs Q E hr h => ?_)
  · obtain ⟨v, kv, dv, T, dep, wt, du, rfl, _⟩ := h
    rfl
  · obtain ⟨v, kv, dv, M, dep, wt, du, rfl, hM, hK, ok, hd, hdu, k⟩ := h
    refine ⟨_, pss_cons (ps_set (i := 3) scLDues.nd rfl (Or.inr rfl) (pe_lc (own := [("due", 5)]) (g := gName 5) (tt := tYes) rfl scLDues.nd (tupK K (pv 2)) (blkOk_by (N := nmLD) (by kernel_rfl))
          (fun _ _ _ _ _ => pg_name (i := 5) scLDues.nd rfl (Or.inl rfl)) (fun _ _ _ _ _ => pts_nil) (fun _ _ _ _ _ => pe_non)))
      (pss_cons (ps_for PassesOwn.never rfl (pi_range3 rfl T.range (pa_cons (pe_op op_sub (pe_callB (lenK K) (by rfl) T.len PySem.boot_len (pa_cons (pv 2) pa_nil)) pe_int) (pa_cons (pe_un un_neg pe_int) (pa_cons (pe_un un_neg pe_int) pa_nil)))) (pg_name (i := 4) scLDues.nd rfl (Or.inl rfl))
        (pss_one (ps_asg (pe_call C3.ok (hr.mono (by decide)) rfl C3.hm C3.kp C3.b .nil pass0 (pa_cons (pe_ix (ixT K) (pv 2) (pv 4) (fun _ _ => rfl)) (pa_cons (pe_call C1.ok hr rfl C1.hm C1.kp C1.b .nil pass0 (pa_cons (pv 0) (pa_cons (pv 1) (pa_cons (pv 4) (pa_cons
          (pe_lc (own := [("kid", 6)]) (g := gName 6) (tt := tYes) rfl scLDues.nd (listK K (pe_ix (ixL K) (pv 1) (pv 4) (fun _ _ => rfl))) (blkOk_by (N := nmLD) (by kernel_rfl))
            (fun _ _ _ _ _ => pg_name (i := 6) scLDues.nd rfl (Or.inl rfl)) (fun _ _ _ _ _ => pts_nil) (fun _ _ _ _ _ => pe_ix (ixL K) (pv 3) (pv 6) (fun _ _ => rfl))) pa_nil))))) pa_nil))) (pg_sub (pv 3) (pv 4) set_list))))
      (pss_one (ps_ret (pv 3)))), ?_⟩
    obtain ⟨ao, vo, rfl, so, lo, io⟩ := id hd
    obtain ⟨ak, ks, rfl, k1, k2, k3⟩ := id hK
    have n12 := ok.n12
    have cz := LP.due_cz ok hdu
    refine ⟨_, rfl, ao, rfl, ⟨_, so⟩, fun L hL => ?_⟩
    refine lc_grow (walk_tupY (K := K) (a := ao) (xs := vo) (n := M.N) lo) hL (by omega) (fun j v H => v = .non) (fun _ _ _ _ _ r => r) (fun H' g => g.sqT so) (fun j y H2' H2 hj _ g2 _ hY C9 hC9 => ?_) (fun H1 xs0 _ g1 hx0 lx0 _ => ?_)
    · obtain ⟨rfl, _⟩ := hY
      exact ⟨rfl, hC9 _ _ (Gw.refl _) rfl⟩
    have G1 := g1.trans Gw.rm_le
    refine ⟨_, rfl, ao, vo, rfl, .inr (G1.sqT so), _, _, rfl, rfl, 1, rfl, 1, rfl, ?_⟩
    rw [lo]
    refine ⟨_, _, _, M.N, rfl, rg_down (by omega), ?_⟩
    refine for_it walk_down (fun s σ H' => (∃ u4, σ = [some v, some (.ref ak), some (.ref ao), some (.ref L), u4, none, none]) ∧ Gw H (rm H' L) ∧ CostL K H' L M.N (M.N - s) (LP.dueF M du))
      ⟨⟨_, rfl⟩, g1, xs0, hx0, lx0, fun j h1 h2 => by omega⟩ (fun _ _ _ _ _ => True.intro) ?_ ?_
    · rintro s y σ H2' H2 hs ⟨⟨u4, rfl⟩, g2, co⟩ ⟨rfl, rfl⟩
      dsimp only
      have G2 := g2.trans Gw.rm_le
      have hi : M.N - 1 - s < M.N := by omega
      have e1 : M.N - 1 - s + 1 = M.N - s := by omega
      have e2 : M.N - (s + 1) = M.N - 1 - s := by omega
      rw [e2]
      generalize M.N - 1 - s = i at hi e1
      rw [← e1] at co
      obtain ⟨x, ex, px⟩ := io i hi
      obtain ⟨bk, bk1, bk2⟩ := k3 i hi
      have lk : ((M.kids i).map natV).length = M.m i := List.length_map ..
      have m4 := ok.m4 i
      refine ⟨_, rfl, _, rfl, _, _, _, _, rfl, rfl, G2.sqT so, at_of rfl ex, _, rfl, _, rfl, _, rfl, _, rfl, _, rfl, _, _, _, _, rfl, rfl, G2.sqL k1, at_of rfl bk1, bk, rfl, ⟨_, G2.sqL bk2⟩, fun D hD => ?_⟩
      refine lc_grow (walk_listY (K := K) (a := bk) (xs := (M.kids i).map natV) (n := M.m i) lk) hD (by omega) (fun j v H => PAt K H v (LP.dueF M du (M.kid i j))) (fun _ _ _ _ g r => r.gw g) (fun H' g => (G2.trans g).sqL bk2) (fun j y H3' H3 hj _ g3 ⟨ws, hw'⟩ hY C9 hC9 => ?_) (fun H3 zs g3 _ hzs lz iz => ?_)
      · obtain ⟨rfl, hy⟩ := hY
        obtain rfl := kid_y hj hy
        obtain ⟨c1, c2, c3, c4, _⟩ := ok.kid hj
        obtain ⟨xs, q1, q2, q3⟩ := co.gw g3
        obtain ⟨z, ez, pz⟩ := q3 _ c4 c1
        exact ⟨rfl, _, rfl, _, rfl, _, _, _, _, rfl, rfl, SqL.of q1, at_of rfl ez, hC9 _ _ (Gw.refl _) ((pz.gw Gw.rm_le).rm hw')⟩
      refine ⟨v, _, _, M, dep, wt, i, _, rfl, hM.gw (G2.trans g3), hK.gw (G2.trans g3), ok, hi, ⟨D, zs, rfl, SqL.of hzs, lz, fun j hj => let ⟨y, e, r⟩ := iz j hj; ⟨y, e, r.gw Gw.rm_le⟩⟩, kid_cz ok (fun j _ hj => cz j hj), fun v4 H4 g4 ⟨q, pq, tq⟩ => ?_⟩
      have eq := tq.tkv ok hi
      have fe : LP.dueF M du i = du i + LP.tkv M i (LP.dueF M du) := LP.due_eq ok du hi
      refine ⟨_, _, _, _, rfl, px.gw (G2.trans (g3.trans g4)), pq, ?_, fun v5 H5 g5 r5 => ?_⟩
      · show Fit (du i + q)
        rw [eq, ← fe]; exact ok.fitz hi (cz i hi)
      · have r5 : PAt K H5 v5 (du i + q) := r5
        rw [eq, ← fe] at r5
        have g25 := g3.trans (g4.trans g5)
        obtain ⟨xs, q1, q2, q3⟩ := co.gw g25
        refine ⟨_, rfl, _, rfl, L, xs, _, i, rfl, rfl, q1, by rw [q2]; exact ixNat hi, ⟨_, rfl⟩, by rw [rm_upd]; exact g2.trans g25.rm, CostL.put q1 q2 q3 hi r5⟩
    · rintro σ H2 ⟨⟨u4, rfl⟩, g2, xs, q1, q2, q3⟩
      exact ⟨_, rfl, k _ _ (g2.trans Gw.rm_le) ⟨L, xs, rfl, SqL.of q1, q2, fun j hj => let ⟨x, e, p⟩ := q3 j (by omega) hj; ⟨x, e, p.gw Gw.rm_le⟩⟩⟩
theorem ok_lOffered {f : Addr} {fd : FuncData} (F : Fun K "_law_offered" "_law_offered" sLOffered f fd) (T : Txt K mg) (C1 : CLTakes P w K mg base) (C5 : CLLess P w K mg base) (C6 : CLMost P w K mg base) : FnOk P w K mg base CX0 5 f fd ["market", "kids", "offer", "call"] (spLOffered K) := by
  refine F.ok scLOffered (fun vs H Q E h => ?_) (fun cdv A outer s H vs Q E hr h => ?_)
  · obtain ⟨v, kv, ov, cv, T, dep, wt, o, cl, rfl, _⟩ := h
    rfl
  · obtain ⟨v, kv, ov, cv, M, dep, wt, o, cl, rfl, hM, hK, ok, ho, hdu, hc, hdc, k⟩ := h
    refine ⟨_, pss_cons (ps_set (i := 4) scLOffered.nd rfl (Or.inr rfl) (pe_lc (own := [("part_v", 7)]) (g := gName 7) (tt := tYes) rfl scLOffered.nd (tupK K (pv 2)) (blkOk_by (N := nmLO) (by kernel_rfl))
          (fun _ _ _ _ _ => pg_name (i := 7) scLOffered.nd rfl (Or.inl rfl)) (fun _ _ _ _ _ => pts_nil) (fun _ _ _ _ _ => pe_non)))
      (pss_cons (ps_for PassesOwn.never rfl (pi_range3 rfl T.range (pa_cons (pe_op op_sub (pe_callB (lenK K) (by rfl) T.len PySem.boot_len (pa_cons (pv 2) pa_nil)) pe_int) (pa_cons (pe_un un_neg pe_int) (pa_cons (pe_un un_neg pe_int) pa_nil)))) (pg_name (i := 5) scLOffered.nd rfl (Or.inl rfl))
        (pss_cons (ps_set (i := 6) scLOffered.nd rfl (Or.inl rfl) (pe_call C1.ok hr rfl C1.hm C1.kp C1.b .nil pass0 (pa_cons (pv 0) (pa_cons (pv 1) (pa_cons (pv 5) (pa_cons
          (pe_lc (own := [("kid", 8)]) (g := gName 8) (tt := tYes) rfl scLOffered.nd (listK K (pe_ix (ixL K) (pv 1) (pv 5) (fun _ _ => rfl))) (blkOk_by (N := nmLO) (by kernel_rfl))
            (fun _ _ _ _ _ => pg_name (i := 8) scLOffered.nd rfl (Or.inl rfl)) (fun _ _ _ _ _ => pts_nil) (fun _ _ _ _ _ => pe_ix (ixL K) (pv 4) (pv 8) (fun _ _ => rfl))) pa_nil))))))
        (pss_cons (ps_set (i := 6) scLOffered.nd rfl (Or.inl rfl) (pe_ifExp (pt_cmp (pc_notN (pe_ix (ixT K) (pv 2) (pv 5) (fun _ _ => rfl)))) (pe_call C6.ok (hr.mono (by decide)) rfl C6.hm C6.kp C6.b .nil pass0 (pa_cons (pe_lst (pa_cons (pv 6) (pa_cons (pe_ix (ixT K) (pv 2) (pv 5) (fun _ _ => rfl)) pa_nil))) pa_nil)) (pv 6)))
        (pss_one (ps_asg (pe_ifExp (PW.pt (pw_and (pt_cmp (pc_notN (pe_ix (ixT K) (pv 3) (pv 5) (fun _ _ => rfl)))) (pw_and1 (pt_val (pe_call C5.ok (hr.mono (by decide)) rfl C5.hm C5.kp C5.b .nil pass0 (pa_cons (pe_ix (ixT K) (pv 3) (pv 5) (fun _ _ => rfl)) (pa_cons (pv 6) pa_nil)))))))
            (pe_ix (ixT K) (pv 3) (pv 5) (fun _ _ => rfl)) (pv 6)) (pg_sub (pv 4) (pv 5) set_list))))))
      (pss_one (ps_ret (pv 4)))), ?_⟩
    obtain ⟨ao, vo, rfl, so, lo, io⟩ := id ho
    obtain ⟨ac, vc, rfl, sc', lc', ic⟩ := id hc
    obtain ⟨ak, ks, rfl, k1, k2, k3⟩ := id hK
    have n12 := ok.n12
    have cz := LP.off_cz ok hdu hdc
    refine ⟨_, rfl, ao, rfl, ⟨_, so⟩, fun L hL => ?_⟩
    refine lc_grow (walk_tupY (K := K) (a := ao) (xs := vo) (n := M.N) lo) hL (by omega) (fun j v H => v = .non) (fun _ _ _ _ _ r => r) (fun H' g => g.sqT so) (fun j y H2' H2 hj _ g2 _ hY C9 hC9 => ?_) (fun H1 xs0 _ g1 hx0 lx0 _ => ?_)
    · obtain ⟨rfl, _⟩ := hY
      exact ⟨rfl, hC9 _ _ (Gw.refl _) rfl⟩
    have G1 := g1.trans Gw.rm_le
    refine ⟨_, rfl, ao, vo, rfl, .inr (G1.sqT so), _, _, rfl, rfl, 1, rfl, 1, rfl, ?_⟩
    rw [lo]
    refine ⟨_, _, _, M.N, rfl, rg_down (by omega), ?_⟩
    refine for_it walk_down (fun s σ H' => (∃ u5 u6, σ = [some v, some (.ref ak), some (.ref ao), some (.ref ac), some (.ref L), u5, u6, none, none]) ∧ Gw H (rm H' L) ∧ CostL K H' L M.N (M.N - s) (LP.offF M o cl))
      ⟨⟨_, _, rfl⟩, g1, xs0, hx0, lx0, fun j h1 h2 => by omega⟩ (fun _ _ _ _ _ => True.intro) ?_ ?_
    · rintro s y σ H2' H2 hs ⟨⟨u5, u6, rfl⟩, g2, co⟩ ⟨rfl, rfl⟩
      dsimp only
      have G2 := g2.trans Gw.rm_le
      have hi : M.N - 1 - s < M.N := by omega
      have e1 : M.N - 1 - s + 1 = M.N - s := by omega
      have e2 : M.N - (s + 1) = M.N - 1 - s := by omega
      rw [e2]
      generalize M.N - 1 - s = i at hi e1
      rw [← e1] at co
      obtain ⟨x, ex, px⟩ := io i hi
      obtain ⟨xc, exc, pxc⟩ := ic i hi
      obtain ⟨bk, bk1, bk2⟩ := k3 i hi
      have lk : ((M.kids i).map natV).length = M.m i := List.length_map ..
      have m4 := ok.m4 i
      refine ⟨_, rfl, _, rfl, _, rfl, _, rfl, _, rfl, _, _, _, _, rfl, rfl, G2.sqL k1, at_of rfl bk1, bk, rfl, ⟨_, G2.sqL bk2⟩, fun D hD => ?_⟩
      refine lc_grow (walk_listY (K := K) (a := bk) (xs := (M.kids i).map natV) (n := M.m i) lk) hD (by omega) (fun j v H => PAt K H v (LP.offF M o cl (M.kid i j))) (fun _ _ _ _ g r => r.gw g) (fun H' g => (G2.trans g).sqL bk2) (fun j y H3' H3 hj _ g3 ⟨ws, hw'⟩ hY C9 hC9 => ?_) (fun H3 zs g3 _ hzs lz iz => ?_)
      · obtain ⟨rfl, hy⟩ := hY
        obtain rfl := kid_y hj hy
        obtain ⟨c1, c2, c3, c4, _⟩ := ok.kid hj
        obtain ⟨xs, q1, q2, q3⟩ := co.gw g3
        obtain ⟨z, ez, pz⟩ := q3 _ c4 c1
        exact ⟨rfl, _, rfl, _, rfl, _, _, _, _, rfl, rfl, SqL.of q1, at_of rfl ez, hC9 _ _ (Gw.refl _) ((pz.gw Gw.rm_le).rm hw')⟩
      refine ⟨v, _, _, M, dep, wt, i, _, rfl, hM.gw (G2.trans g3), hK.gw (G2.trans g3), ok, hi, ⟨D, zs, rfl, SqL.of hzs, lz, fun j hj => let ⟨y, e, r⟩ := iz j hj; ⟨y, e, r.gw Gw.rm_le⟩⟩, kid_cz ok (fun j _ hj => cz j hj), fun v4 H4 g4 ⟨q, pq, tq⟩ => ?_⟩
      have eq := tq.tkv ok hi
      subst eq
      have fe : LP.offF M o cl i = LP.offG M o cl i (LP.offF M o cl) := LP.off_eq ok o cl hi
      have g24 := g3.trans g4
      have G4 := G2.trans g24
      -- the end: found[node] = call or more
      have fin : ∀ (mv : V) (H5 : Hp), Gw H4 H5 → PAt K H5 mv (LP.uncG M o i (LP.offF M o cl)) → tAsg (tIf (tAnd (tB (tNotN (tOp (rIxT K) (tVar 3) (tVar 5)))) (tB (tCall (spLess K) [] E0 (tCons (tOp (rIxT K) (tVar 3) (tVar 5)) (tCons (tVar 6) tNil))))) (tOp (rIxT K) (tVar 3) (tVar 5)) (tVar 6)) (gSub (tVar 4) (tVar 5) rSetL)
          { nx := fun σ H' => (∃ u5 u6, σ = [some v, some (.ref ak), some (.ref ao), some (.ref ac), some (.ref L), u5, u6, none, none]) ∧ Gw H (rm H' L) ∧ CostL K H' L M.N i (LP.offF M o cl), rt := Q } [some v, some (.ref ak), some (.ref ao), some (.ref ac), some (.ref L), some (.int (i : Nat)), some mv, none, none] H5 := by
        intro mv H5 g5 pm
        have g25 := g24.trans g5
        have G5 := G2.trans g25
        obtain ⟨xs, q1, q2, q3⟩ := co.gw g25
        have put : ∀ x, PAt K H5 x (LP.offF M o cl i) → ((∃ u5 u6, [some v, some (.ref ak), some (.ref ao), some (.ref ac), some (.ref L), some (.int (i : Nat)), some mv, none, none] = [some v, some (.ref ak), some (.ref ao), some (.ref ac), some (.ref L), u5, u6, none, none]) ∧ Gw H (rm (upd H5 L (.lst (xs.set i x))) L) ∧ CostL K (upd H5 L (.lst (xs.set i x))) L M.N i (LP.offF M o cl)) := fun x px => ⟨⟨_, _, rfl⟩, by rw [rm_upd]; exact g2.trans g25.rm, CostL.put q1 q2 q3 hi px⟩
        refine ⟨_, rfl, _, rfl, _, _, _, _, rfl, rfl, G5.sqT sc', at_of rfl exc, _, rfl, ?_⟩
        cases ec : cl i with
        | none =>
          rw [ec] at pxc
          have pxc : xc = .non := pxc
          subst pxc
          refine iteF (iteF ⟨_, rfl, _, rfl, _, rfl, L, xs, _, i, rfl, rfl, q1, by rw [q2]; exact ixNat hi, put mv ?_⟩)
          rw [fe]; unfold LP.offG; rw [ec]; exact pm
        | some q =>
          rw [ec] at pxc
          obtain ⟨⟨ax, rfl, _⟩, _⟩ := id pxc
          refine iteT ⟨_, rfl, _, rfl, _, _, _, _, rfl, rfl, G5.sqT sc', at_of rfl exc, _, rfl, _, _, _, _, rfl, PAt.gw pxc G5, pm, _, rfl, ?_⟩
          by_cases hl : q < LP.uncG M o i (LP.offF M o cl)
          · rw [decide_eq_true hl]
            refine iteT ⟨_, rfl, _, rfl, _, _, _, _, rfl, rfl, G5.sqT sc', at_of rfl exc, _, rfl, _, rfl, L, xs, _, i, rfl, rfl, q1, by rw [q2]; exact ixNat hi, put _ ?_⟩
            rw [fe]; unfold LP.offG; rw [ec]
            show PAt K H5 _ (LP.mn _ q)
            unfold LP.mn; rw [if_pos hl]; exact PAt.gw pxc G5
          · rw [decide_eq_false hl]
            refine iteF ⟨_, rfl, _, rfl, _, rfl, L, xs, _, i, rfl, rfl, q1, by rw [q2]; exact ixNat hi, put mv ?_⟩
            rw [fe]; unfold LP.offG; rw [ec]
            show PAt K H5 _ (LP.mn _ q)
            unfold LP.mn; rw [if_neg hl]; exact pm
      refine ⟨_, rfl, _, rfl, _, _, _, _, rfl, rfl, G4.sqT so, at_of rfl ex, _, rfl, ?_⟩
      cases eo : o i with
      | none =>
        rw [eo] at px
        have px : x = .non := px
        subst px
        refine iteF ⟨_, rfl, fin v4 H4 (Gw.refl _) ?_⟩
        unfold LP.uncG; rw [eo]; exact pq
      | some q =>
        rw [eo] at px
        obtain ⟨⟨ax, rfl, _⟩, _⟩ := id px
        refine iteT ⟨_, rfl, _, rfl, _, rfl, _, _, _, _, rfl, rfl, G4.sqT so, at_of rfl ex, (show 2 ≤ sizeLine by decide), fun l hl => ?_⟩
        have gl := Gw.new (.lst [v4, V.ref ax]) hl
        refine ⟨_, 2, fun k => if k = 0 then LP.tkv M i (LP.offF M o cl) else q, rfl, ⟨l, _, rfl, SqL.of upd_same, rfl, fun k hk => ?_⟩, by decide, by decide, fun v5 H5 g5 ⟨q5, p5, w5⟩ => fin v5 H5 (gl.trans g5) ?_⟩
        · have : k = 0 ∨ k = 1 := by omega
          rcases this with rfl | rfl
          · exact ⟨_, rfl, PAt.gw pq gl⟩
          · exact ⟨_, rfl, PAt.gw px (G4.trans gl)⟩
        · unfold LP.uncG; rw [eo]
          show PAt K H5 v5 (LP.mx _ q)
          rw [← mx_of (a := LP.tkv M i (LP.offF M o cl)) (b := q) (f := fun k => if k = 0 then LP.tkv M i (LP.offF M o cl) else q) rfl rfl w5]; exact p5
    · rintro σ H2 ⟨⟨u5, u6, rfl⟩, g2, xs, q1, q2, q3⟩
      exact ⟨_, rfl, k _ _ (g2.trans Gw.rm_le) ⟨L, xs, rfl, SqL.of q1, q2, fun j hj => let ⟨x, e, p⟩ := q3 j (by omega) hj; ⟨x, e, p.gw Gw.rm_le⟩⟩⟩
end
end K44


set_option Elab.async false
set_option linter.all false
set_option maxRecDepth 100000
set_option maxHeartbeats 4000000
set_option exponentiation.threshold 3000
/-! _law_times_taken. -/
namespace K44
open PySem L2
open LP (Fit lim S Tr)
abbrev sLTimesT : Stmt := top 88
def RwsAt (K : PySem.W.Frag) (T : Tr) (o : Nat → Option Rat) (H1 H : Hp) (L : Addr) (t : Nat) : Prop := Gw H1 (rm H L) ∧ ∃ ds, H L = some (.lst ds) ∧ ds.length = t ∧ ∀ s, s < t → ∃ d, ds[s]? = some (.ref d) ∧ CostL K (rm H L) d T.N 0 (LP.timF T o s)
theorem CostL.vl {K : PySem.W.Frag} {H : Hp} {F : Addr} {N : Nat} {f : Nat → Rat} (h : CostL K H F N 0 f) : ∃ xs, H F = some (.lst xs) ∧ Items K H xs N f :=
  let ⟨xs, a, b, c⟩ := h; ⟨xs, a, b, fun j hj => let ⟨x, e, p⟩ := c j (Nat.zero_le _) hj; ⟨x, e, p.gw Gw.rm_le⟩⟩
def spLTimesT (K : PySem.W.Frag) : Sp := fun vs H Q _ => ∃ (v kv ov : V) (T : Tr) (dep : Nat → Nat) (wt : Nat → Rat) (o : Nat → Option Rat) (mo : Nat), vs = [v, kv, ov, .int (mo : Nat)] ∧ mo ≤ 7 ∧ MktAt K H v T ∧ KidsAt K H kv T ∧ T.Ok dep wt ∧ OptT K H ov T.N o ∧ LP.DuO T.N o ∧
  Ans H (fun v H' => ∃ a zs, v = .ref a ∧ SqT K H' a zs ∧ zs.length = mo + 1 ∧ ∀ s, s < mo + 1 → ∃ x, zs[s]? = some x ∧ VT K H' x T.N (LP.timF T o s)) Q
abbrev nmTT : List Str := ["market", "kids", "offer", "most_v", "rows", "left", "found", "node", "more", "less", "part_v", "kid", "row"]
section
variable {P : Program} {w : World} {K : PySem.W.Frag} {mg : Str → Option Value} {base : Heap}
theorem scLTimesT : FnScope nmTT ["market", "kids", "offer", "most_v"] (defScope sLTimesT) := ⟨rfl, rfl, rfl, by decide +kernel, rfl, by decide +kernel, by decide +kernel⟩
theorem ok_lTimesT {f : Addr} {fd : FuncData} (F : Fun K "_law_times_taken" "_law_times_taken" sLTimesT f fd) (T : Txt K mg) (C1 : CLTakes P w K mg base) (C3 : CLPlus P w K mg base) (C6 : CLMost P w K mg base) : FnOk P w K mg base CX0 5 f fd ["market", "kids", "offer", "most_v"] (spLTimesT K) := by
  refine F.ok scLTimesT (fun vs H Q E h => ?_) (fun cdv A outer s H vs Q E hr h => ?_)
  · obtain ⟨v, kv, ov, T, dep, wt, o, mo, rfl, _⟩ := h
    rfl
  · obtain ⟨v, kv, ov, M, dep, wt, o, mo, rfl, hmo, hM, hK, ok, ho, hdu, k⟩ := h
    refine ⟨_, pss_cons (ps_set (i := 4) scLTimesT.nd rfl (Or.inr rfl) (pe_lst (pa_cons (pe_lc (own := [("part_v", 10)]) (g := gName 10) (tt := tYes) rfl scLTimesT.nd (tupK K (pv 2)) (blkOk_by (N := nmTT) (by kernel_rfl))
          (fun _ _ _ _ _ => pg_name (i := 10) scLTimesT.nd rfl (Or.inl rfl)) (fun _ _ _ _ _ => pts_nil) (fun _ _ _ _ _ => pe_tup (pa_cons pe_int (pa_cons pe_int pa_nil)))) pa_nil)))
      (pss_cons (ps_for PassesOwn.never rfl (pi_range2 rfl T.range (pa_cons pe_int (pa_cons (pe_op op_add (pv 3) pe_int) pa_nil))) (pg_name (i := 5) scLTimesT.nd rfl (Or.inl rfl))
        (pss_cons (ps_set (i := 6) scLTimesT.nd rfl (Or.inr rfl) (pe_lc (own := [("part_v", 10)]) (g := gName 10) (tt := tYes) rfl scLTimesT.nd (tupK K (pv 2)) (blkOk_by (N := nmTT) (by kernel_rfl))
          (fun _ _ _ _ _ => pg_name (i := 10) scLTimesT.nd rfl (Or.inl rfl)) (fun _ _ _ _ _ => pts_nil) (fun _ _ _ _ _ => pe_non)))
        (pss_cons (ps_for PassesOwn.never rfl (pi_range3 rfl T.range (pa_cons (pe_op op_sub (pe_callB (lenK K) (by rfl) T.len PySem.boot_len (pa_cons (pv 2) pa_nil)) pe_int) (pa_cons (pe_un un_neg pe_int) (pa_cons (pe_un un_neg pe_int) pa_nil)))) (pg_name (i := 7) scLTimesT.nd rfl (Or.inl rfl))
          (pss_cons (ps_set (i := 8) scLTimesT.nd rfl (Or.inl rfl) (pe_call C1.ok hr rfl C1.hm C1.kp C1.b .nil pass0 (pa_cons (pv 0) (pa_cons (pv 1) (pa_cons (pv 7) (pa_cons
            (pe_lc (own := [("kid", 11)]) (g := gName 11) (tt := tYes) rfl scLTimesT.nd (listK K (pe_ix (ixL K) (pv 1) (pv 7) (fun _ _ => rfl))) (blkOk_by (N := nmTT) (by kernel_rfl))
              (fun _ _ _ _ _ => pg_name (i := 11) scLTimesT.nd rfl (Or.inl rfl)) (fun _ _ _ _ _ => pts_nil) (fun _ _ _ _ _ => pe_ix (ixL K) (pv 6) (pv 11) (fun _ _ => rfl))) pa_nil))))))
          (pss_cons (ps_if (pt_cmp (pc_notN (pe_ix (ixT K) (pv 2) (pv 7) (fun _ _ => rfl))))
            (pss_cons (ps_set (i := 9) scLTimesT.nd rfl (Or.inl rfl) (pe_call C1.ok hr rfl C1.hm C1.kp C1.b .nil pass0 (pa_cons (pv 0) (pa_cons (pv 1) (pa_cons (pv 7) (pa_cons
              (pe_lc (own := [("kid", 11)]) (g := gName 11) (tt := tYes) rfl scLTimesT.nd (listK K (pe_ix (ixL K) (pv 1) (pv 7) (fun _ _ => rfl))) (blkOk_by (N := nmTT) (by kernel_rfl))
                (fun _ _ _ _ _ => pg_name (i := 11) scLTimesT.nd rfl (Or.inl rfl)) (fun _ _ _ _ _ => pts_nil) (fun _ _ _ _ _ => pe_ix (ixL K) (pe_ix (ixL K) (pv 4) (pe_un un_neg pe_int) (fun _ _ => rfl)) (pv 11) (fun _ _ => rfl))) pa_nil))))))
            (pss_one (ps_set (i := 8) scLTimesT.nd rfl (Or.inl rfl) (pe_call C6.ok (hr.mono (by decide)) rfl C6.hm C6.kp C6.b .nil pass0 (pa_cons (pe_lst (pa_cons (pv 8) (pa_cons (pe_call C3.ok (hr.mono (by decide)) rfl C3.hm C3.kp C3.b .nil pass0 (pa_cons (pe_ix (ixT K) (pv 2) (pv 7) (fun _ _ => rfl)) (pa_cons (pv 9) pa_nil))) pa_nil))) pa_nil)))))
            pss_nil)
          (pss_one (ps_asg (pv 8) (pg_sub (pv 6) (pv 7) set_list))))))
        (pss_one (ps_expr (pe_bm PySem.F.plainAttrs_list PySem.F.slot_list_append PySem.F.type_list_append mt_append (pv 4) (pa_cons (pv 6) pa_nil)))))))
      (pss_one (ps_ret (pe_callTy call_tuple_of (by rfl) T.tuple (by decide +kernel) (pa_cons
        (pe_lc (own := [("row", 12)]) (g := gName 12) (tt := tYes) rfl scLTimesT.nd (listK K (pv 4)) (blkOk_by (N := nmTT) (by kernel_rfl))
          (fun _ _ _ _ _ => pg_name (i := 12) scLTimesT.nd rfl (Or.inl rfl)) (fun _ _ _ _ _ => pts_nil) (fun _ _ _ _ _ => pe_callTy (T := "tuple") (ctoK K) (by rfl) T.tuple (by decide +kernel) (pa_cons (pv 12) pa_nil))) pa_nil))))), ?_⟩
    obtain ⟨ao, vo, rfl, so, lo, io⟩ := id ho
    obtain ⟨ak, ks, rfl, k1, k2, k3⟩ := id hK
    have n12 := ok.n12
    have czt := LP.tim_cz ok hdu
    refine ⟨_, rfl, ao, rfl, ⟨_, so⟩, fun D0 hD0 => ?_⟩
    refine lc_grow (walk_tupY (K := K) (a := ao) (xs := vo) (n := M.N) lo) hD0 (by omega) (fun j v H => PAt K H v 0) (fun _ _ _ _ g r => r.gw g) (fun H' g => g.sqT so) (fun j y H2' H2 hj _ g2 ⟨ws, hw'⟩ hY C9 hC9 => ?_) (fun H1 xs0 _ g1 hx0 lx0 ix0 => ?_)
    · obtain ⟨rfl, _⟩ := hY
      refine ⟨rfl, (show 2 ≤ sizeLine by decide), fun p hp => ?_⟩
      have gp := Gw.new (.tup [V.int 0, V.int 1]) hp
      exact hC9 _ _ gp ⟨⟨p, rfl, sqT_rm (SqT.of upd_same) (gp.at hw')⟩, fit_zero⟩
    refine ⟨(show 1 ≤ sizeLine by decide), fun L hL => ?_⟩
    have G1 := g1.trans Gw.rm_le
    have fa0 : RwsAt K M o H (upd H1 L (.lst [V.ref D0])) L 1 := by
      refine ⟨by rw [rm_upd, rm_none hL]; exact G1, [V.ref D0], upd_same, rfl, fun s hs => ⟨D0, ?_, ?_⟩⟩
      · have : s = 0 := by omega
        subst this; rfl
      · have : s = 0 := by omega
        subst this
        rw [rm_upd, rm_none hL]; exact ⟨xs0, hx0, lx0, fun j _ hj => ix0 j hj⟩
    refine ⟨_, rfl, _, _, rfl, rfl, 1, _, rfl, ⟨by decide, by decide, by omega, by omega⟩, ?_⟩
    rw [show (((mo : Nat) : Int) + 1 - 1).toNat = mo by omega]
    refine for_it (walk_range (lo := 1) (n := mo)) (fun tt σ H' => (∃ u5 u6 u7 u8 u9, σ = [some v, some (.ref ak), some (.ref ao), some (.int (mo : Nat)), some (.ref L), u5, u6, u7, u8, u9, none, none, none]) ∧ RwsAt K M o H H' L (tt + 1)) ⟨⟨_, _, _, _, _, rfl⟩, fa0⟩ (fun _ _ _ _ _ => True.intro) ?_ ?_
    · rintro tt y σ H3' H3 htt ⟨⟨u5, u6, u7, u8, u9, rfl⟩, gL, ds, l1, l2, l3⟩ ⟨rfl, rfl⟩
      have g3 := gL.trans Gw.rm_le
      refine ⟨_, rfl, ao, rfl, ⟨_, g3.sqT so⟩, fun d hd => ?_⟩
      have neL : d ≠ L := fun z => by rw [z, l1] at hd; cases hd
      refine lc_grow (walk_tupY (K := K) (a := ao) (xs := vo) (n := M.N) lo) hd (by omega) (fun j v H => v = .non) (fun _ _ _ _ _ r => r) (fun H' g => (g3.trans g).sqT so) (fun j y H2' H2 hj _ g2 _ hY C9 hC9 => ?_) (fun H4 xs1 _ g4 hx1 lx1 _ => ?_)
      · obtain ⟨rfl, _⟩ := hY
        exact ⟨rfl, hC9 _ _ (Gw.refl _) rfl⟩
      have G4 := g4.trans Gw.rm_le
      have so4 := (g3.trans G4).sqT so
      have cz := czt
      refine ⟨_, rfl, ao, vo, rfl, .inr so4, _, _, rfl, rfl, 1, rfl, 1, rfl, ?_⟩
      rw [lo]
      refine ⟨_, _, _, M.N, rfl, rg_down (by omega), ?_⟩
      refine for_it walk_down (fun s σ H' => (∃ u7 u8 u9, σ = [some v, some (.ref ak), some (.ref ao), some (.int (mo : Nat)), some (.ref L), some (.int (1 + (tt : Nat))), some (.ref d), u7, u8, u9, none, none, none]) ∧ Gw H3 (rm H' d) ∧ CostL K H' d M.N (M.N - s) (LP.timF M o (tt + 1)))
        ⟨⟨_, _, _, rfl⟩, g4, xs1, hx1, lx1, fun j h1 h2 => by omega⟩ (fun _ _ _ _ _ => True.intro) ?_ ?_
      · rintro s y σ H5' H5 hs ⟨⟨u7, u8, u9, rfl⟩, g5, co⟩ ⟨rfl, rfl⟩
        dsimp only
        have G5 := g5.trans Gw.rm_le
        have gg := g3.trans G5
        have hi : M.N - 1 - s < M.N := by omega
        have e1 : M.N - 1 - s + 1 = M.N - s := by omega
        have e2 : M.N - (s + 1) = M.N - 1 - s := by omega
        rw [e2]
        generalize M.N - 1 - s = i at hi e1
        rw [← e1] at co
        obtain ⟨x, ex, px⟩ := io i hi
        obtain ⟨bk, bk1, bk2⟩ := k3 i hi
        have lk : ((M.kids i).map natV).length = M.m i := List.length_map ..
        have m4 := ok.m4 i
        have fe := LP.tim_eq ok o tt hi
        refine ⟨_, rfl, _, rfl, _, rfl, _, rfl, _, rfl, _, _, _, _, rfl, rfl, gg.sqL k1, at_of rfl bk1, bk, rfl, ⟨_, gg.sqL bk2⟩, fun D hD => ?_⟩
        refine lc_grow (walk_listY (K := K) (a := bk) (xs := (M.kids i).map natV) (n := M.m i) lk) hD (by omega) (fun j v H => PAt K H v (LP.timF M o (tt + 1) (M.kid i j))) (fun _ _ _ _ g r => r.gw g) (fun H' g => (gg.trans g).sqL bk2) (fun j y H6' H6 hj _ g6 ⟨ws, hw'⟩ hY C9 hC9 => ?_) (fun H6 zs g6 _ hzs lz iz => ?_)
        · obtain ⟨rfl, hy⟩ := hY
          obtain rfl := kid_y hj hy
          obtain ⟨c1, c2, c3, c4, _⟩ := ok.kid hj
          obtain ⟨xs, q1, q2, q3⟩ := co.gw g6
          obtain ⟨z, ez, pz⟩ := q3 _ c4 c1
          exact ⟨rfl, _, rfl, _, rfl, _, _, _, _, rfl, rfl, SqL.of q1, at_of rfl ez, hC9 _ _ (Gw.refl _) ((pz.gw Gw.rm_le).rm hw')⟩
        refine ⟨v, _, _, M, dep, wt, i, _, rfl, hM.gw (gg.trans g6), hK.gw (gg.trans g6), ok, hi, ⟨D, zs, rfl, SqL.of hzs, lz, fun j hj => let ⟨y, e, r⟩ := iz j hj; ⟨y, e, r.gw Gw.rm_le⟩⟩, kid_cz ok (fun j _ hj => cz _ j hj), fun v7 H7 g7 ⟨q7, pq, tq⟩ => ?_⟩
        have eq := tq.tkv ok hi
        subst eq
        have g57 := g6.trans g7
        have G7 := gg.trans g57
        have fin : ∀ (mv : V) (u9 : Option V) (H8 : Hp), Gw H7 H8 → PAt K H8 mv (LP.timF M o (tt + 1) i) → tAsg (tVar 8) (gSub (tVar 6) (tVar 7) rSetL)
            { nx := fun σ H' => (∃ u7 u8 u9, σ = [some v, some (.ref ak), some (.ref ao), some (.int (mo : Nat)), some (.ref L), some (.int (1 + (tt : Nat))), some (.ref d), u7, u8, u9, none, none, none]) ∧ Gw H3 (rm H' d) ∧ CostL K H' d M.N i (LP.timF M o (tt + 1)), rt := Q } [some v, some (.ref ak), some (.ref ao), some (.int (mo : Nat)), some (.ref L), some (.int (1 + (tt : Nat))), some (.ref d), some (.int (i : Nat)), some mv, u9, none, none, none] H8 := fun mv u9 H8 g8 pm => by
          obtain ⟨xs, q1, q2, q3⟩ := co.gw (g57.trans g8)
          exact ⟨_, rfl, _, rfl, _, rfl, d, xs, _, i, rfl, rfl, q1, by rw [q2]; exact ixNat hi, ⟨_, _, _, rfl⟩, by rw [rm_upd]; exact g5.trans (g57.trans g8).rm, CostL.put q1 q2 q3 hi pm⟩
        refine ⟨_, rfl, _, rfl, _, _, _, _, rfl, rfl, G7.sqT so, at_of rfl ex, _, rfl, ?_⟩
        cases eo : o i with
        | none =>
          rw [eo] at px
          have px : x = .non := px
          subst px
          refine iteF (fin v7 u9 H7 (Gw.refl _) ?_)
          rw [fe]; unfold LP.timG; rw [eo]; exact pq
        | some q =>
          rw [eo] at px
          obtain ⟨⟨ax, rfl, _⟩, _⟩ := id px
          have G57 := G5.trans g57
          have L7 := G57.at l1
          obtain ⟨dt, dt1, dt2⟩ := l3 tt (by omega)
          have cot := (dt2.gw Gw.rm_le).gw G57
          refine iteT ⟨_, rfl, _, rfl, _, rfl, _, rfl, _, rfl, _, _, _, _, rfl, rfl, G7.sqL k1, at_of rfl bk1, bk, rfl, ⟨_, G7.sqL bk2⟩, fun D2 hD2 => ?_⟩
          refine lc_grow (walk_listY (K := K) (a := bk) (xs := (M.kids i).map natV) (n := M.m i) lk) hD2 (by omega) (fun j v H => PAt K H v (LP.timF M o tt (M.kid i j))) (fun _ _ _ _ g r => r.gw g) (fun H' g => (G7.trans g).sqL bk2) (fun j y H8' H8 hj _ g8 ⟨ws, hw'⟩ hY C9 hC9 => ?_) (fun H8 zs2 g8 _ hzs2 lz2 iz2 => ?_)
          · obtain ⟨rfl, hy⟩ := hY
            obtain rfl := kid_y hj hy
            obtain ⟨c1, c2, c3, c4, _⟩ := ok.kid hj
            obtain ⟨xs, q1, q2, q3⟩ := cot.gw g8
            obtain ⟨z, ez, pz⟩ := q3 _ (Nat.zero_le _) c1
            exact ⟨rfl, _, rfl, 1, rfl, _, _, _, _, rfl, rfl, SqL.of (g8.at L7), at_last l2 dt1, _, rfl, _, _, _, _, rfl, rfl, SqL.of q1, at_of rfl ez, hC9 _ _ (Gw.refl _) ((pz.gw Gw.rm_le).rm hw')⟩
          refine ⟨v, _, _, M, dep, wt, i, _, rfl, hM.gw (G7.trans g8), hK.gw (G7.trans g8), ok, hi, ⟨D2, zs2, rfl, SqL.of hzs2, lz2, fun j hj => let ⟨y, e, r⟩ := iz2 j hj; ⟨y, e, r.gw Gw.rm_le⟩⟩, kid_cz ok (fun j _ hj => cz _ j hj), fun v9 H9 g9 ⟨q9, pq9, tq9⟩ => ?_⟩
          have eq9 := tq9.tkv ok hi
          subst eq9
          have g79 := g8.trans g9
          have fit := ok.fitz hi (ok.addz hi (LP.tkv_cv ok hi fun j _ hj => cz tt j hj) (hdu i q hi eo))
          refine ⟨_, rfl, _, rfl, _, rfl, _, _, _, _, rfl, rfl, (G7.trans g79).sqT so, at_of rfl ex, _, rfl, _, _, _, _, rfl, PAt.gw px (G7.trans g79), pq9, fit, fun va Ha ga ra => ⟨(show 2 ≤ sizeLine by decide), fun l hl => ?_⟩⟩
          have gl := Gw.new (.lst [v7, va]) hl
          have ra : PAt K Ha va (q + LP.tkv M i (LP.timF M o tt)) := ra
          refine ⟨_, 2, fun k => if k = 0 then LP.tkv M i (LP.timF M o (tt + 1)) else q + LP.tkv M i (LP.timF M o tt), rfl, ⟨l, _, rfl, SqL.of upd_same, rfl, fun k hk => ?_⟩, by decide, by decide, fun vb Hb gb ⟨qb, pb, wb⟩ => fin vb _ Hb (g79.trans (ga.trans (gl.trans gb))) ?_⟩
          · have : k = 0 ∨ k = 1 := by omega
            rcases this with rfl | rfl
            · exact ⟨_, rfl, PAt.gw pq (g79.trans (ga.trans gl))⟩
            · exact ⟨_, rfl, ra.gw gl⟩
          · rw [fe]; unfold LP.timG; rw [eo]
            show PAt K Hb vb (LP.mx _ (q + _))
            rw [← mx_of (a := LP.tkv M i (LP.timF M o (tt + 1))) (b := q + LP.tkv M i (LP.timF M o tt)) (f := fun k => if k = 0 then LP.tkv M i (LP.timF M o (tt + 1)) else q + LP.tkv M i (LP.timF M o tt)) rfl rfl wb]; exact pb
      · rintro σ H5 ⟨⟨u7, u8, u9, rfl⟩, g5, xs, q1, q2, q3⟩
        have G5 := g5.trans Gw.rm_le
        have L5 := G5.at l1
        refine ⟨_, rfl, .inl ⟨rfl, _, SqL.of L5⟩, _, rfl, L, ds, .ref d, rfl, rfl, L5, small1000 (by omega), ⟨_, _, _, _, _, rfl⟩, by rw [rm_upd]; exact gL.trans G5.rm, _, upd_same, by rw [List.length_append, l2]; rfl, fun s hs => ?_⟩
        rw [rm_upd]
        by_cases e : s < tt + 1
        · obtain ⟨ds', e1, e2⟩ := l3 s e
          exact ⟨ds', by rw [List.getElem?_append_left (by omega)]; exact e1, e2.gw G5.rm⟩
        · have : s = tt + 1 := by omega
          subst this
          refine ⟨d, by rw [List.getElem?_append_right (by omega), l2, Nat.sub_self]; rfl, xs, by rw [rm_ne neL]; exact q1, q2, fun j h1 h2 => ?_⟩
          obtain ⟨x, e1, e2⟩ := q3 j (by omega) h2
          refine ⟨x, e1, ?_⟩
          rw [rm_comm]
          exact e2.rm (ys := ds) (by rw [rm_ne (Ne.symm neL)]; exact L5)
    · rintro σ H3 ⟨⟨u5, u6, u7, u8, u9, rfl⟩, gL, ds, l1, l2, l3⟩
      have g3 := gL.trans Gw.rm_le
      refine ⟨_, rfl, L, rfl, ⟨ds, SqL.of l1⟩, fun D hD => lc_grow (walk_listY (K := K) (a := L) (xs := ds) (n := mo + 1) l2) hD (by omega) (fun s v H => VT K H v M.N (LP.timF M o s)) (fun _ _ _ _ g r => r.gw g) (fun H' g => SqL.of (g.at l1)) (fun s y H4' H4 hs _ g4 ⟨ws, hw'⟩ hY C9 hC9 => ?_) (fun H4 zs g4 _ hzs lz iz => ?_)⟩
      · obtain ⟨rfl, hy⟩ := hY
        obtain ⟨d, d1, d2⟩ := l3 s (by omega)
        rw [d1] at hy
        cases hy
        obtain ⟨xs, q1, q2⟩ := ((d2.gw Gw.rm_le).gw g4).vl
        refine ⟨rfl, _, rfl, d, xs, rfl, .inl ⟨SqL.of q1, fun l hl => ?_⟩⟩
        have gl := Gw.new (.tup xs) hl
        have vt : VT K (upd H4 l (.tup xs)) (.ref l) M.N (LP.timF M o s) := ⟨l, xs, rfl, SqT.of upd_same, q2.gw gl⟩
        exact hC9 _ _ gl (vt.rmD (gl.at hw'))
      · refine ⟨D, zs, rfl, .inl ⟨SqL.of hzs, fun l hl => ?_⟩⟩
        have gl := Gw.new (.tup zs) hl
        exact k _ _ (g3.trans (g4.trans gl)) ⟨l, zs, rfl, SqT.of upd_same, lz, fun j hj => let ⟨y, e, r⟩ := iz j hj; ⟨y, e, (r.gw Gw.rm_le).gw gl⟩⟩
end
end K44


set_option Elab.async false
set_option linter.all false
set_option maxRecDepth 100000
set_option maxHeartbeats 4000000
set_option exponentiation.threshold 3000
/-! _law_shown. -/
namespace K44
open PySem L2
open LP (Fit lim S Tr)
abbrev sLShown : Stmt := top 89
theorem catK {X : Cx} (K : PySem.W.Frag) (h : X.K = K := by rfl) : OpR X (binaryOp .Add) (rCatT K) := by subst h; exact op_catT
theorem VL.dp {K : PySem.W.Frag} {H : Hp} {v : V} {n : Nat} {f : Nat → Rat} (h : VL K H v n f) : Dp K H v (.list (rowD f 0 n)) := by
  obtain ⟨a, vs, rfl, s, l, i⟩ := h
  exact .lst s (items_dp n 0 vs l fun j hj => by rw [Nat.zero_add]; exact i j hj)
theorem pl_part (q : Rat) : ∀ n, Pl (n + 1) (partD q) := fun n => .inr ⟨_, .inr rfl, by show 2 ≤ 1000; decide, fun e he => by
  have : e = .int q.num ∨ e = .int (q.den : Int) := by
    rcases List.mem_cons.mp he with h | h
    · exact .inl h
    · exact .inr (List.mem_singleton.mp h)
  cases n with
  | zero => rcases this with rfl | rfl <;> exact ⟨_, rfl⟩
  | succ n => rcases this with rfl | rfl <;> exact .inl ⟨_, rfl⟩⟩
theorem rowD_len (f : Nat → Rat) : ∀ n i, (rowD f i n).length = n
  | 0, _ => rfl
  | n + 1, i => by show (rowD f (i + 1) n).length + 1 = _; rw [rowD_len f n]
theorem rowD_mem {f : Nat → Rat} : ∀ {n i : Nat} {e : PyData}, e ∈ rowD f i n → ∃ q, e = partD q
  | n + 1, i, e, h => by
    rcases List.mem_cons.mp h with h | h
    · exact ⟨_, h⟩
    · exact rowD_mem h
theorem pl_row (f : Nat → Rat) (n k : Nat) (hn : n ≤ 1000) : Pl (k + 2) (.tuple (rowD f 0 n)) ∧ Pl (k + 2) (.list (rowD f 0 n)) := by
  have h : ∀ e, e ∈ rowD f 0 n → Pl (k + 1) e := fun e he => by
    obtain ⟨q, rfl⟩ := rowD_mem he
    exact pl_part q k
  exact ⟨.inr ⟨_, .inr rfl, by rw [rowD_len]; exact hn, h⟩, .inr ⟨_, .inl rfl, by rw [rowD_len]; exact hn, h⟩⟩
def spLShown (K : PySem.W.Frag) (t : Tabs) : Sp := fun vs H Q _ => ∃ (v kv wv : V) (T : Tr) (dep : Nat → Nat) (wt : Nat → Rat) (i : Nat) (c : Nat → Rat), vs = [v, kv, .int (i : Nat), wv] ∧ MktAt K H v T ∧ KidsAt K H kv T ∧ T.Ok dep wt ∧ i < T.N ∧ VL K H wv (T.m i) c ∧ (∀ j, j < T.m i → LP.Du (c j)) ∧ TabsOk t H ∧ Ans H (fun v _ => v = .bl true) Q
theorem kid_idx (T : Tr) (i : Nat) (c : Nat → Rat) : ∀ j, j < T.m i → c j = (fun k => c ((T.kids i).idxOf k)) (T.kid i j) := fun j hj => by
  have nd : (T.kids i).Nodup := List.Pairwise.filter _ List.nodup_range
  have hj : j < (T.kids i).length := hj
  have e : T.kid i j = (T.kids i)[j] := by
    unfold Tr.kid
    rw [List.getD_eq_getElem?_getD, List.getElem?_eq_getElem hj]; rfl
  show c j = c ((T.kids i).idxOf (T.kid i j))
  rw [e, nd.idxOf_getElem]
abbrev nmLS : List Str := ["market", "kids", "node", "wanted", "told", "holdings", "weights", "due", "costs", "sums", "k", "j", "prices", "brings"]
section
variable {P : Program} {w : World} {K : PySem.W.Frag} {mg : Str → Option Value} {base : Heap}
theorem scLShown : FnScope nmLS ["market", "kids", "node", "wanted"] (defScope sLShown) := ⟨rfl, rfl, rfl, by decide +kernel, rfl, by decide +kernel, by decide +kernel⟩
theorem ok_lShown {t : Tabs} {f : Addr} {fd : FuncData} (F : Fun K "_law_shown" "_law_shown" sLShown f fd) (T : Txt K mg) (C0 : Cal P w K mg base "brought_at" 10 ["market", "node", "wanted"] (spBroughtAt K t)) (C1 : CLTakes P w K mg base)
    (A1 : Cal P w K mg base "_law_alike" 2 ["found", "due"] (spAlike K 1)) (A3 : Cal P w K mg base "_law_alike" 4 ["found", "due"] (spAlike K 3)) (C2' : Cal P w K mg base "takes" 11 ["market", "node", "parts"] (spTakes K t))
    (C3 : CLPlus P w K mg base) (C4 : CLTimes P w K mg base) (C5 : CLLess P w K mg base) : FnOk P w K mg base CX0 12 f fd ["market", "kids", "node", "wanted"] (spLShown K t) := by
  refine F.ok scLShown (fun vs H Q E h => ?_) (fun cdv A outer s H vs Q E hr h => ?_)
  · obtain ⟨v, kv, wv, T, dep, wt, i, c, rfl, _⟩ := h
    rfl
  · obtain ⟨v, kv, wv, M, dep, wt, i, c, rfl, hM, hK, ok, hi, hw, hdu, ht, k⟩ := h
    refine ⟨_, (pss_cons (ps_asg (pe_call C0.ok (hr.mono (by decide)) rfl C0.hm C0.kp C0.b .nil pass0 (pa_cons (pv 0) (pa_cons (pv 2) (pa_cons (pe_callTy call_tuple_of (by rfl) T.tuple (by decide +kernel) (pa_cons (pv 3) pa_nil)) pa_nil)))) (pg_tup rfl (pgs_cons (pg_name (i := 4) scLShown.nd rfl (Or.inl rfl)) (pgs_cons (pg_name (i := 5) scLShown.nd rfl (Or.inl rfl)) (pgs_cons (pg_name (i := 6) scLShown.nd rfl (Or.inr rfl)) pgs_nil))))) (pss_cons (ps_set (i := 7) scLShown.nd rfl (Or.inl rfl) (pe_call C1.ok (hr.mono (by decide)) rfl C1.hm C1.kp C1.b .nil pass0 (pa_cons (pv 0) (pa_cons (pv 1) (pa_cons (pv 2) (pa_cons (pv 3) pa_nil)))))) (pss_cons (ps_if (PW.pt (pw_or (pt_not (pt_val (pe_call A1.ok (hr.mono (by decide)) rfl A1.hm A1.kp A1.b .nil pass0 (pa_cons (pv 4) (pa_cons (pv 7) pa_nil))))) (pw_or1 (pt_not (pt_val (pe_call A1.ok (hr.mono (by decide)) rfl A1.hm A1.kp A1.b .nil pass0 (pa_cons (pe_call C2'.ok hr rfl C2'.hm C2'.kp C2'.b .nil pass0 (pa_cons (pv 0) (pa_cons (pv 2) (pa_cons (pe_callTy call_tuple_of (by rfl) T.tuple (by decide +kernel) (pa_cons (pv 3) pa_nil)) pa_nil)))) (pa_cons (pv 7) pa_nil)))))))) (pss_one ps_never) pss_nil) (pss_cons (ps_if (pt_cmpR (eqK K hr.units) (pe_ix (ixL K) (pv 1) (pv 2) (fun _ _ => rfl)) (pe_lst pa_nil) (nomark _)) (pss_one (ps_ret (pe_call A3.ok (hr.mono (by decide)) rfl A3.hm A3.kp A3.b .nil pass0 (pa_cons (pe_lst (pa_cons (pv 5) (pa_cons (pv 6) pa_nil))) (pa_cons (pe_lst (pa_cons (pe_tup (pa_cons (pe_tup (pa_cons pe_int (pa_cons pe_int pa_nil))) (pa_cons (pe_tup (pa_cons pe_int (pa_cons pe_int pa_nil))) pa_nil))) (pa_cons (pe_tup pa_nil) pa_nil))) pa_nil))))) pss_nil) (pss_cons (ps_asg (pe_tup (pa_cons (pe_tup (pa_cons pe_int (pa_cons pe_int pa_nil))) (pa_cons (pe_lst (pa_cons (pe_tup (pa_cons pe_int (pa_cons pe_int pa_nil))) (pa_cons (pe_tup (pa_cons pe_int (pa_cons pe_int pa_nil))) (pa_cons (pe_tup (pa_cons pe_int (pa_cons pe_int pa_nil))) pa_nil)))) pa_nil))) (pg_tup rfl (pgs_cons (pg_name (i := 8) scLShown.nd rfl (Or.inl rfl)) (pgs_cons (pg_name (i := 9) scLShown.nd rfl (Or.inr rfl)) pgs_nil)))) (pss_cons (ps_for PassesOwn.never rfl (pi_range1 rfl T.range (pa_cons pe_int pa_nil)) (pg_name (i := 10) scLShown.nd rfl (Or.inl rfl)) (pss_one (ps_set (i := 8) scLShown.nd rfl (Or.inl rfl) (pe_call C3.ok (hr.mono (by decide)) rfl C3.hm C3.kp C3.b .nil pass0 (pa_cons (pv 8) (pa_cons (pe_call C4.ok (hr.mono (by decide)) rfl C4.hm C4.kp C4.b .nil pass0 (pa_cons (pe_ix (ixT K) (pv 5) (pv 10) (fun _ _ => rfl)) (pa_cons (pe_ix (ixT K) (pe_ix (ixT K) (pe_ix (ixT K) (pe_ix (ixT K) (pv 0) pe_int (fun _ _ => rfl)) (pv 2) (fun _ _ => rfl)) pe_int (fun _ _ => rfl)) (pv 10) (fun _ _ => rfl)) pa_nil))) pa_nil)))))) (pss_cons (ps_for PassesOwn.never rfl (pi_range1 rfl T.range (pa_cons (pe_callB (lenK K) (by rfl) T.len PySem.boot_len (pa_cons (pe_ix (ixL K) (pv 1) (pv 2) (fun _ _ => rfl)) pa_nil)) pa_nil)) (pg_name (i := 11) scLShown.nd rfl (Or.inr rfl)) (pss_cons (ps_asg (pe_tup (pa_cons (pe_ix (ixT K) (pe_ix (ixT K) (pe_ix (ixT K) (pv 0) pe_int (fun _ _ => rfl)) (pe_ix (ixL K) (pe_ix (ixL K) (pv 1) (pv 2) (fun _ _ => rfl)) (pv 11) (fun _ _ => rfl)) (fun _ _ => rfl)) pe_int (fun _ _ => rfl)) (pa_cons (pe_tup (pa_cons pe_int (pa_cons pe_int pa_nil))) pa_nil))) (pg_tup rfl (pgs_cons (pg_name (i := 12) scLShown.nd rfl (Or.inr rfl)) (pgs_cons (pg_name (i := 13) scLShown.nd rfl (Or.inl rfl)) pgs_nil)))) (pss_cons (ps_for PassesOwn.never rfl (pi_range1 rfl T.range (pa_cons pe_int pa_nil)) (pg_name (i := 10) scLShown.nd rfl (Or.inl rfl)) (pss_one (ps_set (i := 13) scLShown.nd rfl (Or.inl rfl) (pe_call C3.ok (hr.mono (by decide)) rfl C3.hm C3.kp C3.b .nil pass0 (pa_cons (pv 13) (pa_cons (pe_call C4.ok (hr.mono (by decide)) rfl C4.hm C4.kp C4.b .nil pass0 (pa_cons (pe_ix (ixT K) (pv 5) (pv 10) (fun _ _ => rfl)) (pa_cons (pe_ix (ixT K) (pv 12) (pv 10) (fun _ _ => rfl)) pa_nil))) pa_nil)))))) (pss_cons (ps_if (PW.pt (pw_or (pt_val (pe_call C5.ok (hr.mono (by decide)) rfl C5.hm C5.kp C5.b .nil pass0 (pa_cons (pv 13) (pa_cons (pe_ix (ixL K) (pv 3) (pv 11) (fun _ _ => rfl)) pa_nil)))) (pw_or1 (pt_cmpR op_lt (pe_ix (ixT K) (pe_ix (ixT K) (pv 6) (pv 11) (fun _ _ => rfl)) pe_int (fun _ _ => rfl)) pe_int (nomark _))))) (pss_one ps_never) pss_nil) (pss_one (ps_set (i := 9) scLShown.nd rfl (Or.inr rfl) (pe_lc (own := [("k", 10)]) (g := gName 10) (tt := tYes) rfl scLShown.nd (pi_range1 rfl T.range (pa_cons pe_int pa_nil)) (blkOk_by (N := nmLS) (by kernel_rfl)) (fun _ _ _ _ _ => (pg_name (i := 10) scLShown.nd rfl (Or.inl rfl))) (fun _ _ _ _ _ => pts_nil) (fun _ _ _ _ _ => (pe_call C3.ok (hr.mono (by decide)) rfl C3.hm C3.kp C3.b .nil pass0 (pa_cons (pe_ix (ixL K) (pv 9) (pv 10) (fun _ _ => rfl)) (pa_cons (pe_call C4.ok (hr.mono (by decide)) rfl C4.hm C4.kp C4.b .nil pass0 (pa_cons (pe_ix (ixT K) (pv 6) (pv 11) (fun _ _ => rfl)) (pa_cons (pe_ix (ixT K) (pe_op (catK K) (pv 12) (pe_tup (pa_cons (pe_ix (ixL K) (pv 3) (pv 11) (fun _ _ => rfl)) pa_nil))) (pv 10) (fun _ _ => rfl)) pa_nil))) pa_nil))))))))))) (pss_one (ps_ret (pe_and (pe_cmpR (eqK K hr.units) (pv 8) (pv 7) (nomark _)) (pe_one (pe_cmpR (eqK K hr.units) (pv 9) (pe_lst (pa_cons (pe_ix (ixT K) (pe_ix (ixT K) (pe_ix (ixT K) (pe_ix (ixT K) (pv 0) pe_int (fun _ _ => rfl)) (pv 2) (fun _ _ => rfl)) pe_int (fun _ _ => rfl)) pe_int (fun _ _ => rfl)) (pa_cons (pe_ix (ixT K) (pe_ix (ixT K) (pe_ix (ixT K) (pe_ix (ixT K) (pv 0) pe_int (fun _ _ => rfl)) (pv 2) (fun _ _ => rfl)) pe_int (fun _ _ => rfl)) pe_int (fun _ _ => rfl)) (pa_cons (pv 7) pa_nil)))) (nomark _))))))))))))), ?_⟩
    obtain ⟨am, na, nd, ns, rfl, h1, h2, h3, h4, h5⟩ := id hM
    obtain ⟨ak, ks, rfl, k1, k2, k3⟩ := id hK
    obtain ⟨bk, bk1, bk2⟩ := k3 i hi
    obtain ⟨aw, vw, rfl, sw, lw, iw⟩ := id hw
    have e1 : atI [V.ref na, V.ref nd] 1 = some (V.ref nd) := atI_nat (j := 1) rfl
    have lk : ((M.kids i).map natV).length = M.m i := List.length_map ..
    have m4 := ok.m4 i
    have cz : ∀ j, j < M.m i → LP.Cz (dep i + 1) (M.pr (M.kid i j) 0) (c j) := fun j hj => by
      obtain ⟨a, b, c', d, e⟩ := ok.kid hj
      rw [← e]; exact ok.duz a (hdu j hj)
    have wz : ∀ j, j < M.m i → LP.Wz (c j) := fun j hj => by
      obtain ⟨a, b, c', d, e⟩ := ok.kid hj
      exact (ok.duz a (hdu j hj)).wz (by omega) (ok.d3 _ a) (ok.pr _ a).kb
    have hcf := kid_idx M i c
    generalize (fun k => c ((M.kids i).idxOf k)) = g at hcf
    refine ⟨_, rfl, _, rfl, _, rfl, aw, vw, rfl, .inl ⟨sw, fun l hl => ?_⟩⟩
    have gl := Gw.new (.tup vw) hl
    refine ⟨_, _, M, dep, wt, i, c, rfl, hM.gw gl, ok, hi, ⟨l, vw, rfl, SqT.of upd_same, lw, fun j hj => let ⟨x, e, p⟩ := iw j hj; ⟨x, e, p.gw gl⟩⟩, wz, ht.gw gl, fun v1 H1 g1 ⟨a, qv, yv, xv, q, x, y, e, hs, hq, hy, hx, b⟩ => ?_⟩
    subst e
    have G1 := gl.trans g1
    refine ⟨a, _, rfl, hs, rfl, _, _, rfl, _, _, rfl, _, _, rfl, rfl, ?_⟩
    refine ⟨_, rfl, _, rfl, _, rfl, _, rfl, _, _, _, M, dep, wt, i, c, rfl, hM.gw G1, hK.gw G1, ok, hi, hw.gw G1, cz, fun v2 H2 g2 ⟨q', pq', tq⟩ => ?_⟩
    have eq : q = LP.tkv M i g := BroR.tkv ok hi hcf b
    have eq' : q' = q := by
      by_cases hm : M.m i = 0
      · rw [tq.1 hm, (b.leaf hm).1]
      · rw [eq]; exact (LP.tkv_eq ok hi (by omega) hcf (tq.2 (by omega))).symm
    subst eq'
    have G2 := G1.trans g2
    refine ⟨_, rfl, _, rfl, _, _, partD q', rfl, (hq.gw g2).dp, pq'.dp, pl_part q' 0, fun v3 H3 g3 e => ?_⟩
    subst e
    have G3 := G2.trans g3
    refine ⟨_, rfl, iteF ⟨_, rfl, _, rfl, _, rfl, aw, vw, rfl, .inl ⟨G3.sqL sw, fun l2 hl2 => ?_⟩⟩⟩
    have gl2 := Gw.new (.tup vw) hl2
    have G3' := G3.trans gl2
    refine ⟨_, _, M, dep, wt, i, g, rfl, hM.gw G3', ok, hi, VT.congr (f := c) ⟨l2, vw, rfl, SqT.of upd_same, lw, fun j hj => let ⟨x, e, p⟩ := iw j hj; ⟨x, e, p.gw G3'⟩⟩ hcf, fun j hj => by rw [← hcf j hj]; exact wz j hj, ht.gw G3', fun v5 H5 g5 r5 => ?_⟩
    have r5 : PAt K H5 v5 (LP.tkv M i g) := r5
    rw [← eq] at r5
    have g35 := g3.trans (gl2.trans g5)
    refine ⟨_, rfl, _, _, partD q', rfl, r5.dp, (pq'.gw g35).dp, pl_part q' 0, fun v6 H6 g6 e => ?_⟩
    subst e
    have g26 := g35.trans g6
    have G6 := G2.trans g26
    refine ⟨_, rfl, iteF ?_⟩
    refine ⟨_, rfl, _, rfl, _, _, _, _, rfl, rfl, G6.sqL k1, at_of rfl bk1, (show 0 ≤ sizeLine by decide), fun l3 hl3 => ?_⟩
    have gl3 := Gw.new (.lst []) hl3
    refine ⟨_, _, .lst ((G6.trans gl3).sqL bk2) (nats_dp _), .lst (SqL.of upd_same) .nil, nats_shaped _, rfl, _, rfl, ?_⟩
    rw [nats_nil]
    show (if decide (M.m i = 0) = true then _ else _)
    generalize hH7 : upd H6 l3 (.lst []) = H7 at gl3
    have g27 := g26.trans gl3
    have G7 := G2.trans g27
    have hy7 := hy.gw (g2.trans g27)
    have hx7 := hx.gw (g2.trans g27)
    have pq7 := pq'.gw g27
    by_cases hm0 : M.m i = 0
    · rw [decide_eq_true hm0]
      refine iteT ⟨_, rfl, _, rfl, (show 2 ≤ sizeLine by decide), fun p1 e1' => ?_⟩
      have t1 := Gw.new (.lst [yv, xv]) e1'
      refine ⟨(show 2 ≤ sizeLine by decide), fun a1 f1 => ⟨(show 2 ≤ sizeLine by decide), fun a2 f2 => ⟨(show 2 ≤ sizeLine by decide), fun a3 f3 => ⟨(show 0 ≤ sizeLine by decide), fun a4 f4 => ⟨(show 2 ≤ sizeLine by decide), fun a5 f5 => ?_⟩⟩⟩⟩⟩
      have w1 := Gw.new (.tup [V.int 0, V.int 1]) f1
      have w2 := Gw.new (.tup [V.int 0, V.int 1]) f2
      have w3 := Gw.new (.tup [V.ref a1, V.ref a2]) f3
      have w4 := Gw.new (.tup []) f4
      have w5 := Gw.new (.lst [V.ref a3, V.ref a4]) f5
      have w15 := w1.trans (w2.trans (w3.trans (w4.trans w5)))
      have dy : Dp K _ yv (.tuple (rowD (fun _ => 0) 0 2)) := ((hy7.congr (fun k hk => (b.leaf hm0).2 k hk)).gw (t1.trans w15)).dp
      have dx := (hx7.gw (t1.trans w15)).dp
      rw [hm0] at dx
      refine ⟨_, _, .list [.tuple (rowD (fun _ => 0) 0 2), .tuple []], rfl, .lst (SqL.of (w15.at upd_same)) (.cons dy (.cons dx .nil)),
        .lst (SqL.of upd_same) (.cons (.tup (SqT.of ((w4.trans w5).at upd_same)) (.cons (PAt.dp (q := 0) ⟨⟨a1, rfl, SqT.of ((w2.trans (w3.trans (w4.trans w5))).at upd_same)⟩, fit_zero⟩) (.cons (PAt.dp (q := 0) ⟨⟨a2, rfl, SqT.of ((w3.trans (w4.trans w5)).at upd_same)⟩, fit_zero⟩) .nil))) (.cons (.tup (SqT.of (w5.at upd_same)) .nil) .nil)), ?_, fun v8 H8 g8 e => by subst e; exact k _ _ (G7.trans (t1.trans (w15.trans g8))) rfl⟩
      refine .inr ⟨_, .inl rfl, (show 2 ≤ 1000 by decide), fun e he => ?_⟩
      rcases List.mem_cons.mp he with rfl | he
      · exact (pl_row _ 2 0 (by decide)).1
      · rw [List.mem_singleton.mp he]
        exact .inr ⟨[], .inr rfl, (show 0 ≤ 1000 by decide), fun e he => by cases he⟩
    rw [decide_eq_false hm0]
    have hm : 0 < M.m i := by omega
    have nI := ok.nodI hi hm
    have kI := fun a (ha : a < M.m i) => ok.kidI hi ha (cz a ha)
    have yz := b.sy hm
    have xz := b.sx hm
    obtain ⟨t0, pt, et, st, ap, vp, rfl, sp, lp, ip⟩ := h5 i hi
    obtain ⟨ay, vy, rfl, sy, ly, iy⟩ := id hy7
    obtain ⟨ax, vx, rfl, sx, lx, ix⟩ := id hx7
    refine iteF ⟨(show 2 ≤ sizeLine by decide), fun a1 f1 => ⟨(show 2 ≤ sizeLine by decide), fun b1 f2 => ⟨(show 2 ≤ sizeLine by decide), fun b2 f3 => ⟨(show 2 ≤ sizeLine by decide), fun b3 f4 => ⟨(show 3 ≤ sizeLine by decide), fun Lb f5 => ⟨(show 2 ≤ sizeLine by decide), fun p f6 => ?_⟩⟩⟩⟩⟩⟩
    have w1 := Gw.new (.tup [V.int 0, V.int 1]) f1
    have w2 := Gw.new (.tup [V.int 0, V.int 1]) f2
    have w3 := Gw.new (.tup [V.int 0, V.int 1]) f3
    have w4 := Gw.new (.tup [V.int 0, V.int 1]) f4
    have w5 := Gw.new (.lst [V.ref b1, V.ref b2, V.ref b3]) f5
    have w6 := Gw.new (.tup [V.ref a1, V.ref Lb]) f6
    refine ⟨p, _, rfl, SqT.of upd_same, rfl, _, _, rfl, _, _, rfl, rfl, ?_⟩
    have pz : PAt K _ (.ref a1) (0 : Rat) := ⟨⟨a1, rfl, SqT.of ((w2.trans (w3.trans (w4.trans (w5.trans w6)))).at upd_same)⟩, fit_zero⟩
    have vz : VL K _ (.ref Lb) 3 (fun _ => 0) := ⟨Lb, _, rfl, SqL.of (w6.at upd_same), rfl, fun k hk => by
      have h3 : k = 0 ∨ k = 1 ∨ k = 2 := by omega
      rcases h3 with rfl | rfl | rfl
      · exact ⟨_, rfl, ⟨⟨b1, rfl, SqT.of ((w3.trans (w4.trans (w5.trans w6))).at upd_same)⟩, fit_zero⟩⟩
      · exact ⟨_, rfl, ⟨⟨b2, rfl, SqT.of ((w4.trans (w5.trans w6)).at upd_same)⟩, fit_zero⟩⟩
      · exact ⟨_, rfl, ⟨⟨b3, rfl, SqT.of ((w5.trans w6).at upd_same)⟩, fit_zero⟩⟩⟩
    have g78 := w1.trans (w2.trans (w3.trans (w4.trans (w5.trans w6))))
    generalize upd (upd (upd (upd (upd (upd H7 a1 _) b1 _) b2 _) b3 _) Lb _) p _ = H8 at pz vz g78 ⊢
    have G8 := G7.trans g78
    refine ⟨_, rfl, by decide, by decide, ?_⟩
    refine for_it (walk_rangeN (N := 2) rfl) (fun j σ H' => (∃ cv u10, σ = [some (.ref am), some (.ref ak), some (.int (i : Nat)), some (.ref aw), some qv, some (.ref ay), some (.ref ax), some v2, some cv, some (.ref Lb), u10, none, none, none] ∧ PAt K H' cv (S j fun k => y k * M.pr i k)) ∧ Gw H8 H')
      ⟨⟨_, _, rfl, pz⟩, Gw.refl _⟩ (fun _ _ _ _ _ => True.intro) ?_ ?_
    · rintro j z σ H9' H9 hj ⟨⟨cv, u10, rfl, pc⟩, g9⟩ ⟨rfl, rfl⟩
      obtain ⟨yy, ey, py⟩ := iy j hj
      obtain ⟨pp, ep, ppp⟩ := ip j (by omega)
      have G9 := G8.trans g9
      have g79 := g78.trans g9
      refine ⟨_, rfl, _, rfl, _, rfl, _, _, _, _, rfl, rfl, g79.sqT sy, at_of rfl ey, _, rfl, _, _, _, _, rfl, rfl, G9.sqT h1, e1, _, rfl, _, _, _, _, rfl, rfl, G9.sqT h3, at_of rfl et, _, _, _, _, rfl, rfl, G9.sqT st, atI_nat (j := 1) rfl, _, rfl, _, _, _, _, rfl, rfl, G9.sqT sp, at_of rfl ep, _, _, y j, M.pr i j, rfl, py.gw g79, ppp.gw G9, LP.fit_yp yz nI hj, fun va Ha ga ra => ?_⟩
      refine ⟨_, _, _, _, rfl, pc.gw ga, ra, ?_, fun vb Hb gb rb => ⟨⟨_, _, rfl, rb⟩, g9.trans (ga.trans gb)⟩⟩
      have h2 : j = 0 ∨ j = 1 := by omega
      rcases h2 with rfl | rfl
      · show Fit (0 + y 0 * M.pr i 0)
        rw [Rat.zero_add]; exact LP.fit_yp yz nI (by omega)
      · show Fit (S 2 fun k => y k * M.pr i k)
        rw [show (S 2 fun k => y k * M.pr i k) = q' from by rw [← b.qy hm]; exact LP.S_congr fun k _ => Rat.mul_comm _ _]
        exact hq.2
    rintro σ H9 ⟨⟨cv, u10, rfl, pc⟩, g9⟩
    have hcost : (S 2 fun k => y k * M.pr i k) = q' := by rw [← b.qy hm]; exact LP.S_congr fun k _ => Rat.mul_comm _ _
    rw [hcost] at pc
    have g79 := g78.trans g9
    have G9 := G7.trans g79
    have vz9 := vz.gw g9
    refine ⟨_, rfl, _, rfl, _, _, _, _, rfl, rfl, G9.sqL k1, at_of rfl bk1, bk, _, rfl, .inl (G9.sqL bk2), ?_⟩
    rw [lk]
    refine ⟨_, rfl, by omega, by omega, ?_⟩
    refine for_it (walk_rangeN (N := M.m i) (by omega)) (fun j σ H' => (∃ sv u10 u11 u12 u13, σ = [some (.ref am), some (.ref ak), some (.int (i : Nat)), some (.ref aw), some qv, some (.ref ay), some (.ref ax), some v2, some cv, some sv, u10, u11, u12, u13] ∧ VL K H' sv 3 (fun k => S j fun a => x a * LP.ext3 (M.col i) c a k)) ∧ Gw H9 H')
      ⟨⟨_, _, _, _, _, rfl, vz9⟩, Gw.refl _⟩ (fun _ _ _ _ _ => True.intro) ?_ ?_
    · rintro j z σ Ha' Ha hj ⟨⟨sv, u10, u11, u12, u13, rfl, vs⟩, ga⟩ ⟨rfl, rfl⟩
      have Ga := G9.trans ga
      have g7a := g79.trans ga
      obtain ⟨c1, c2, c3, c4, _⟩ := ok.kid hj
      obtain ⟨t', pt', et', st', ap', vp', e', sp', lp', ip'⟩ := h5 _ c1
      subst e'
      have kat : ((M.kids i).map natV)[j]? = some (natV (M.kid i j)) := by
        rw [List.getElem?_map]
        unfold Tr.kid
        have hj' : j < (M.kids i).length := hj
        rw [List.getD_eq_getElem?_getD, List.getElem?_eq_getElem hj']; rfl
      obtain ⟨xw, exw, pxw⟩ := iw j hj
      obtain ⟨xx, exx, pxx⟩ := ix j hj
      obtain ⟨p0, ep0, pp0⟩ := ip' 0 (by omega)
      obtain ⟨p1, ep1, pp1⟩ := ip' 1 (by omega)
      have evp : vp' = [p0, p1] := by
        match vp', lp', ep0, ep1 with
        | [a, b], _, h0, h1 => cases h0; cases h1; rfl
      subst evp
      refine ⟨_, rfl, _, _, _, _, rfl, rfl, Ga.sqT h1, e1, _, rfl, _, rfl, _, _, _, _, rfl, rfl, Ga.sqL k1, at_of rfl bk1, _, rfl, _, _, _, _, rfl, rfl, Ga.sqL bk2, at_of rfl kat, _, _, _, _, rfl, rfl, Ga.sqT h3, at_of rfl et', _, _, _, _, rfl, rfl, Ga.sqT st', atI_nat (j := 1) rfl, (show 2 ≤ sizeLine by decide), fun z1 f1 => ⟨(show 2 ≤ sizeLine by decide), fun z2 f2 => ?_⟩⟩
      have w1 := Gw.new (.tup [V.int 0, V.int 1]) f1
      have w2 := Gw.new (.tup [V.ref ap', V.ref z1]) f2
      have q1 := w2.at (a := z1) upd_same
      refine ⟨z2, _, rfl, SqT.of upd_same, rfl, _, _, rfl, _, _, rfl, rfl, ?_⟩
      have w12 := w1.trans w2
      generalize upd (upd Ha z1 _) z2 _ = Hb at q1 w12 ⊢
      have pz' : PAt K Hb (.ref z1) (0 : Rat) := ⟨⟨z1, rfl, SqT.of q1⟩, fit_zero⟩
      have Gb := Ga.trans w12
      have g7b := g7a.trans w12
      refine ⟨_, rfl, by decide, by decide, ?_⟩
      refine for_it (walk_rangeN (N := 2) rfl) (fun k σ H' => (∃ bv u10, σ = [some (.ref am), some (.ref ak), some (.int (i : Nat)), some (.ref aw), some qv, some (.ref ay), some (.ref ax), some v2, some cv, some sv, u10, some (.int (j : Nat)), some (.ref ap'), some bv] ∧ PAt K H' bv (S k fun k => y k * M.col i j k)) ∧ Gw Hb H')
        ⟨⟨_, _, rfl, pz'⟩, Gw.refl _⟩ (fun _ _ _ _ _ => True.intro) ?_ ?_
      · rintro k' z σ Hc' Hc hk ⟨⟨bv, u10, rfl, pb⟩, gc⟩ ⟨rfl, rfl⟩
        obtain ⟨yy, ey, py⟩ := iy k' hk
        obtain ⟨pp, ep, ppp⟩ := ip' k' hk
        have Gc := Gb.trans gc
        have g7c := g7b.trans gc
        refine ⟨_, rfl, _, rfl, _, rfl, _, _, _, _, rfl, rfl, g7c.sqT sy, at_of rfl ey, _, rfl, _, rfl, _, _, _, _, rfl, rfl, Gc.sqT sp', at_of rfl ep, _, _, y k', M.col i j k', rfl, py.gw g7c, ppp.gw Gc, (LP.fit_yc yz nI (kI j hj) 0 (by omega)).2 k' hk, fun va Ha' ga' ra => ?_⟩
        exact ⟨_, _, _, _, rfl, pb.gw ga', ra, (LP.fit_yc yz nI (kI j hj) (k' + 1) (by omega)).1, fun vb Hb' gb' rb => ⟨⟨_, _, rfl, rb⟩, gc.trans (ga'.trans gb')⟩⟩
      rintro σ Hc ⟨⟨bv, u10, rfl, pb⟩, gc⟩
      have Gc := Gb.trans gc
      have g7c := g7b.trans gc
      have yc : ¬ (S 2 fun k => y k * M.col i j k) < c j := Rat.not_lt.mpr (by
        have := b.yc hm j hj
        rw [show (S 2 fun k => M.col i j k * y k) = S 2 fun k => y k * M.col i j k from LP.S_congr fun k _ => Rat.mul_comm _ _] at this
        exact this)
      refine ⟨_, rfl, _, rfl, _, rfl, _, _, _, _, rfl, rfl, Gc.sqL sw, at_of rfl exw, _, _, _, c j, rfl, pb, pxw.gw Gc, ?_⟩
      rw [decide_eq_false yc]
      obtain ⟨⟨axx, e, sxx⟩, fxx⟩ := id pxx
      subst e
      refine ⟨_, rfl, iteF ⟨_, rfl, _, rfl, _, _, _, _, rfl, rfl, g7c.sqT sx, at_of rfl exx, _, _, _, _, rfl, rfl, g7c.sqT sxx, atI_nat (j := 0) rfl, _, _, rfl, rfl, _, rfl, ?_⟩⟩
      rw [decide_eq_false (show ¬ (x j).num < 0 by have := Rat.num_nonneg.mpr (b.x0 hm j hj); omega)]
      refine iteF ⟨_, rfl, by decide, by decide, fun D hD => ?_⟩
      have vsc := vs.gw (w12.trans gc)
      obtain ⟨asv, vsv, rfl, ssv, lsv, isv⟩ := id vsc
      have fx := LP.fit_xs xz nI m4 kI hdu
      refine lc_grow (walk_rangeN (N := 3) rfl) hD (by omega) (fun k v H => PAt K H v (S (j + 1) fun a => x a * LP.ext3 (M.col i) c a k)) (fun _ _ _ _ g r => r.gw g) (fun _ _ => True.intro) (fun k' z Hd' Hd hk _ gd ⟨ws, hw'⟩ hY C9 hC9 => ?_) (fun Hd zs gd _ hzs lz iz => ?_)
      · obtain ⟨rfl, rfl⟩ := hY
        obtain ⟨ss, ess, pss⟩ := isv k' hk
        have Gd := Gc.trans gd
        have g7d := g7c.trans gd
        refine ⟨rfl, _, rfl, _, rfl, _, _, _, _, rfl, rfl, gd.sqL ssv, at_of rfl ess, _, rfl, _, rfl, _, _, _, _, rfl, rfl, g7d.sqT sx, at_of rfl exx, _, rfl, _, rfl, _, rfl, _, _, _, _, rfl, rfl, Gd.sqL sw, at_of rfl exw, (show 1 ≤ sizeLine by decide), fun pw f1 => ?_⟩
        have u1 := Gw.new (.tup [xw]) f1
        refine ⟨ap', pw, [p0, p1], [xw], rfl, rfl, (Gd.trans u1).sqT sp', SqT.of upd_same, List.cons_ne_nil _ _, (show 3 ≤ sizeLine by decide), (fun z => by cases z), fun _ pp f2 => ?_⟩
        have u2 := Gw.new (.tup ([p0, p1] ++ [xw])) f2
        have GG := Gd.trans (u1.trans u2)
        have el : ∃ z, ([p0, p1] ++ [xw])[k']? = some z ∧ PAt K (upd (upd Hd pw (.tup [xw])) pp (.tup ([p0, p1] ++ [xw]))) z (LP.ext3 (M.col i) c j k') := by
          have h3 : k' = 0 ∨ k' = 1 ∨ k' = 2 := by omega
          rcases h3 with rfl | rfl | rfl
          · exact ⟨_, rfl, pp0.gw GG⟩
          · exact ⟨_, rfl, pp1.gw GG⟩
          · exact ⟨_, rfl, pxw.gw GG⟩
        obtain ⟨zz, ez, pz⟩ := el
        refine ⟨_, rfl, _, _, _, _, rfl, rfl, SqT.of upd_same, at_of rfl ez, _, _, x j, LP.ext3 (M.col i) c j k', rfl, pxx.gw (g7d.trans (u1.trans u2)), pz, (fx 0 (by omega) k').2 j hj, fun va Ha' ga' ra => ?_⟩
        refine ⟨_, _, _, _, rfl, pss.gw (gd.trans (u1.trans (u2.trans ga'))), ra, (fx (j + 1) (by omega) k').1, fun vb Hb' gb' rb => ?_⟩
        have gall := u1.trans (u2.trans (ga'.trans gb'))
        exact hC9 vb _ gall (PAt.rm rb (gall.at hw'))
      · exact ⟨⟨_, _, _, _, _, rfl, D, zs, rfl, SqL.of hzs, lz, fun j hj => let ⟨y, e, r⟩ := iz j hj; ⟨y, e, r.gw Gw.rm_le⟩⟩, ga.trans (w12.trans (gc.trans gd))⟩
    · rintro σ Ha ⟨⟨sv, u10, u11, u12, u13, rfl, vs⟩, ga⟩
      have Ga := G9.trans ga
      have pqa := pq7.gw (g79.trans ga)
      refine ⟨_, rfl, _, rfl, _, _, (pc.gw ga).dp, pqa.dp, part_shaped _, part_shaped _, _, rfl, ?_⟩
      rw [part_eqv, decide_eq_true rfl]
      obtain ⟨p0, ep0, pp0⟩ := ip 0 (by omega)
      obtain ⟨p1, ep1, pp1⟩ := ip 1 (by omega)
      refine iteT ⟨_, rfl, _, rfl, _, _, _, _, rfl, rfl, Ga.sqT h1, e1, _, rfl, _, _, _, _, rfl, rfl, Ga.sqT h3, at_of rfl et, _, _, _, _, rfl, rfl, Ga.sqT st, atI_nat (j := 1) rfl, _, _, _, _, rfl, rfl, Ga.sqT sp, atI_nat (j := 0) ep0,
        _, rfl, _, _, _, _, rfl, rfl, Ga.sqT h1, e1, _, rfl, _, _, _, _, rfl, rfl, Ga.sqT h3, at_of rfl et, _, _, _, _, rfl, rfl, Ga.sqT st, atI_nat (j := 1) rfl, _, _, _, _, rfl, rfl, Ga.sqT sp, atI_nat (j := 1) ep1, _, rfl, (show 3 ≤ sizeLine by decide), fun l hl => ?_⟩
      have gl := Gw.new (.lst [p0, p1, v2]) hl
      have v3 : VL K (upd Ha l (.lst [p0, p1, v2])) (.ref l) 3 (fun k => S (M.m i) fun a => x a * LP.ext3 (M.col i) c a k) := ⟨l, _, rfl, SqL.of upd_same, rfl, fun k hk => by
        have h3 : k = 0 ∨ k = 1 ∨ k = 2 := by omega
        rcases h3 with rfl | rfl | rfl
        · refine ⟨_, rfl, ?_⟩
          have : (S (M.m i) fun a => x a * LP.ext3 (M.col i) c a 0) = M.pr i 0 := b.xw hm 0 (by omega)
          dsimp only
          rw [this]; exact pp0.gw (Ga.trans gl)
        · refine ⟨_, rfl, ?_⟩
          have : (S (M.m i) fun a => x a * LP.ext3 (M.col i) c a 1) = M.pr i 1 := b.xw hm 1 (by omega)
          dsimp only
          rw [this]; exact pp1.gw (Ga.trans gl)
        · refine ⟨_, rfl, ?_⟩
          have : (S (M.m i) fun a => x a * LP.ext3 (M.col i) c a 2) = q' := by
            rw [← b.qx hm]; exact LP.S_congr fun k _ => Rat.mul_comm _ _
          dsimp only
          rw [this]; exact pqa.gw gl⟩
      refine ⟨_, _, (vs.gw gl).dp, v3.dp, row_shaped _ 3, row_shaped _ 3, ?_⟩
      have : PyData.eqv (.list (rowD (fun k => S (M.m i) fun a => x a * LP.ext3 (M.col i) c a k) 0 3)) (.list (rowD (fun k => S (M.m i) fun a => x a * LP.ext3 (M.col i) c a k) 0 3)) = true := by
        simp only [PyData.eqv]
        exact row_eqv 3 0 fun _ _ _ => rfl
      rw [this]
      exact k _ _ (Ga.trans gl) rfl
end
end K44


set_option Elab.async false
set_option linter.all false
set_option maxRecDepth 100000
set_option maxHeartbeats 4000000
set_option exponentiation.threshold 3000
/-! _law_first. -/
namespace K44
open PySem L2
open LP (Fit lim S Tr)
abbrev sLFirst : Stmt := top 90
theorem filt_range {p : Nat → Bool} {i : Nat} : ((List.range (i + 1)).filter p).map natV = ((List.range i).filter p).map natV ++ if p i = true then [natV i] else [] := by
  rw [List.range_succ, List.filter_append, List.map_append]
  congr 1
  by_cases h : p i = true
  · rw [if_pos h]; simp [h]
  · rw [if_neg h]; simp [h]
theorem mem_bestE {T : Tr} {o : Nat → Option Rat} {i : Nat} (hi : i < T.N) : i ∈ bestE T o ↔ o i = some (LP.offF T o (fun _ => none) i) := by
  unfold bestE
  rw [List.mem_filter, List.mem_range, decide_eq_true_eq]
  exact ⟨fun h => h.2, fun h => ⟨hi, h⟩⟩
theorem mem_bestL {T : Tr} {o : Nat → Option Rat} {i : Nat} (hi : i < T.N) : i ∈ bestL T o ↔ ∃ q, o i = some q ∧ LP.tkv T i (LP.offF T o fun _ => none) < q := by
  unfold bestL
  rw [List.mem_filter, List.mem_range, decide_eq_true_eq]
  exact ⟨fun h => h.2, fun h => ⟨hi, h⟩⟩
theorem up_par (T : Tr) (i : Nat) : ∀ s, upI T (T.par i) s = upI T i (s + 1)
  | 0 => rfl
  | s + 1 => by show T.par (upI T (T.par i) s) = T.par (upI T i (s + 1)); rw [up_par T i s]
/-- the node or one ahead is one of ms -/
def bhB (T : Tr) (dep : Nat → Nat) (ms : List Nat) (i : Nat) : Bool := (List.range (dep i + 1)).any fun s => decide (upI T i s ∈ ms)
theorem behB_iff {T : Tr} {dep : Nat → Nat} {i : Nat} {ms : List Nat} : behB T dep i ms = true ↔ ∃ s, 1 ≤ s ∧ s ≤ dep i ∧ upI T i s ∈ ms := by
  unfold behB
  rw [List.any_eq_true]
  constructor
  · rintro ⟨j, hj, h⟩
    rw [List.mem_range] at hj
    exact ⟨dep i - j, by omega, by omega, of_decide_eq_true h⟩
  · rintro ⟨s, h1, h2, h3⟩
    exact ⟨dep i - s, List.mem_range.mpr (by omega), decide_eq_true (by rw [show dep i - (dep i - s) = s by omega]; exact h3)⟩
theorem bhB_iff {T : Tr} {dep : Nat → Nat} {i : Nat} {ms : List Nat} : bhB T dep ms i = true ↔ ∃ s, s ≤ dep i ∧ upI T i s ∈ ms := by
  unfold bhB
  rw [List.any_eq_true]
  constructor
  · rintro ⟨j, hj, h⟩
    rw [List.mem_range] at hj
    exact ⟨j, by omega, of_decide_eq_true h⟩
  · rintro ⟨s, h2, h3⟩
    exact ⟨s, List.mem_range.mpr (by omega), decide_eq_true h3⟩
theorem beh_zero {T : Tr} {dep : Nat → Nat} {wt : Nat → Rat} (ok : T.Ok dep wt) (ms : List Nat) : behB T dep 0 ms = false := by
  cases h : behB T dep 0 ms with
  | false => rfl
  | true =>
    obtain ⟨s, h1, h2, _⟩ := behB_iff.mp h
    rw [ok.d0] at h2; omega
theorem beh_par {T : Tr} {dep : Nat → Nat} {wt : Nat → Rat} (ok : T.Ok dep wt) {i : Nat} (h0 : 0 < i) (hi : i < T.N) (ms : List Nat) : behB T dep i ms = bhB T dep ms (T.par i) := by
  have d := ok.dS i h0 hi
  rw [Bool.eq_iff_iff, behB_iff, bhB_iff]
  constructor
  · rintro ⟨s, h1, h2, h3⟩
    exact ⟨s - 1, by omega, by rw [up_par, show s - 1 + 1 = s by omega]; exact h3⟩
  · rintro ⟨s, h2, h3⟩
    rw [up_par] at h3
    exact ⟨s + 1, by omega, by omega, h3⟩
theorem bh_split {T : Tr} {dep : Nat → Nat} {i : Nat} {ms : List Nat} : bhB T dep ms i = (decide (i ∈ ms) || behB T dep i ms) := by
  rw [Bool.eq_iff_iff, bhB_iff, Bool.or_eq_true, behB_iff, decide_eq_true_eq]
  constructor
  · rintro ⟨s, h1, h2⟩
    cases s with
    | zero => exact .inl h2
    | succ s => exact .inr ⟨s + 1, by omega, h1, h2⟩
  · rintro (h | ⟨s, h1, h2, h3⟩)
    · exact ⟨0, Nat.zero_le _, h⟩
    · exact ⟨s, h2, h3⟩
def spLFirst (K : PySem.W.Frag) : Sp := fun vs H Q _ => ∃ (v kv ov wv : V) (b : Bool) (T : Tr) (dep : Nat → Nat) (wt : Nat → Rat) (o : Nat → Option Rat), vs = [v, kv, ov, wv, .bl b] ∧ MktAt K H v T ∧ KidsAt K H kv T ∧ T.Ok dep wt ∧ OptT K H ov T.N o ∧ LP.DuO T.N o ∧ VL K H wv T.N (LP.offF T o fun _ => none) ∧
  Ans H (fun v H' => NatT K H' v (firstL T dep (if b = true then bestL T o else bestE T o))) Q
abbrev nmLF : List Str := ["market", "kids", "offer", "whole", "is_strict", "found", "behind", "node", "up", "more", "kid"]
section
variable {P : Program} {w : World} {K : PySem.W.Frag} {mg : Str → Option Value} {base : Heap}
theorem scLFirst : FnScope nmLF ["market", "kids", "offer", "whole", "is_strict"] (defScope sLFirst) := ⟨rfl, rfl, rfl, by decide +kernel, rfl, by decide +kernel, by decide +kernel⟩
theorem ok_lFirst {f : Addr} {fd : FuncData} (F : Fun K "_law_first" "_law_first" sLFirst f fd) (T : Txt K mg) (C1 : CLTakes P w K mg base) (C5 : CLLess P w K mg base) : FnOk P w K mg base CX0 5 f fd ["market", "kids", "offer", "whole", "is_strict"] (spLFirst K) := by
  refine F.ok scLFirst (fun vs H Q E h => ?_) (fun cdv A outer s H vs Q E hr h => ?_)
  · obtain ⟨v, kv, ov, wv, b, T, dep, wt, o, rfl, _⟩ := h
    rfl
  · obtain ⟨v, kv, ov, wv, b, M, dep, wt, o, rfl, hM, hK, ok, ho, hdu, hw, k⟩ := h
    have hu := hu_of hr
    refine ⟨_, (pss_cons (ps_par (i := 5) (j := 6) rfl scLFirst.nd rfl rfl (by decide) rfl rfl (pa_cons (pe_lst pa_nil) (pa_cons pe_dnewK pa_nil)) rfl) (pss_cons (ps_for PassesOwn.never rfl (pi_range1 rfl T.range (pa_cons (pe_callB (lenK K) (by rfl) T.len PySem.boot_len (pa_cons (pv 2) pa_nil)) pa_nil)) (pg_name (i := 7) scLFirst.nd rfl (Or.inl rfl)) (pss_cons (ps_set (i := 8) scLFirst.nd rfl (Or.inl rfl) (pe_ix (ixT K) (pe_ix (ixT K) (pe_ix (ixT K) (pv 0) pe_int (fun _ _ => rfl)) (pv 7) (fun _ _ => rfl)) pe_int (fun _ _ => rfl))) (pss_one (ps_if (pt_cmp (pc_dinN hu (pv 8) (pv 6))) (pss_one (ps_dput hu (pv 6) (pv 7) pe_int rfl)) (pss_one (ps_if (pt_cmp (pc_notN (pe_ix (ixT K) (pv 2) (pv 7) (fun _ _ => rfl)))) (pss_cons (ps_set (i := 9) scLFirst.nd rfl (Or.inl rfl) (pe_call C1.ok hr rfl C1.hm C1.kp C1.b .nil pass0 (pa_cons (pv 0) (pa_cons (pv 1) (pa_cons (pv 7) (pa_cons (pe_lc (own := [("kid", 10)]) (g := gName 10) (tt := tYes) rfl scLFirst.nd (listK K (pe_ix (ixL K) (pv 1) (pv 7) (fun _ _ => rfl))) (blkOk_by (N := nmLF) (by kernel_rfl)) (fun _ _ _ _ _ => (pg_name (i := 10) scLFirst.nd rfl (Or.inl rfl))) (fun _ _ _ _ _ => pts_nil) (fun _ _ _ _ _ => (pe_ix (ixL K) (pv 3) (pv 10) (fun _ _ => rfl)))) pa_nil)))))) (pss_one (ps_if (PW.pt (pw_or (pt_val (pe_call C5.ok (hr.mono (by decide)) rfl C5.hm C5.kp C5.b .nil pass0 (pa_cons (pv 9) (pa_cons (pe_ix (ixT K) (pv 2) (pv 7) (fun _ _ => rfl)) pa_nil)))) (pw_or1 (PW.pt (pw_and (pt_not (pt_val (pv 4))) (pw_and1 (pt_cmpR (eqK K hr.units) (pe_ix (ixT K) (pv 2) (pv 7) (fun _ _ => rfl)) (pe_ix (ixL K) (pv 3) (pv 7) (fun _ _ => rfl)) (nomark _)))))))) (pss_cons (ps_expr (pe_bm PySem.F.plainAttrs_list PySem.F.slot_list_append PySem.F.type_list_append mt_append (pv 5) (pa_cons (pv 7) pa_nil))) (pss_one (ps_dput hu (pv 6) (pv 7) pe_int rfl))) pss_nil))) pss_nil)))))) (pss_one (ps_ret (pe_callTy call_tuple_of (by rfl) T.tuple (by decide +kernel) (pa_cons (pv 5) pa_nil)))))), ?_⟩
    obtain ⟨am, na, nd, ns, rfl, h1, h2, h3, h4, h5⟩ := id hM
    obtain ⟨ao, vo, rfl, so, lo, io⟩ := id ho
    obtain ⟨ak, ks, rfl, k1, k2, k3⟩ := id hK
    obtain ⟨aw, vw, rfl, sw, lw, iw⟩ := id hw
    have e1 : atI [V.ref na, V.ref nd] 1 = some (V.ref nd) := atI_nat (j := 1) rfl
    have n12 := ok.n12
    have cz := LP.off_cz ok (cl := fun _ => none) hdu (fun i q _ h => by cases h)
    generalize hB : (if b = true then bestL M o else bestE M o) = B at k
    refine ⟨(show 0 ≤ sizeLine by decide), fun L hL d hd => ⟨_, _, rfl, ?_⟩⟩
    have ne : L ≠ d := fun z => by rw [← z, upd_same] at hd; cases hd
    have hd' : H d = none := by rw [upd_ne (Ne.symm ne)] at hd; exact hd
    have qL : upd (upd H L (.lst [])) d (.dK []) L = some (.lst []) := by rw [upd_ne ne]; exact upd_same
    have g0 : Gw H (R2 (upd (upd H L (.lst [])) d (.dK [])) L d) := by
      rw [r2_updB ne, r2_updR]
      show Gw H (rm (rm H L) d)
      rw [rm_none hL, rm_none hd']; exact Gw.refl _
    refine ⟨_, rfl, ao, vo, rfl, .inr ((g0.trans Gw.r2_le).sqT so), ?_⟩
    rw [lo]
    refine ⟨_, rfl, by omega, by omega, ?_⟩
    refine for_it (walk_rangeN (N := M.N) (by omega)) (fun i σ H' => (∃ u7 u8 u9, σ = [some (.ref am), some (.ref ak), some (.ref ao), some (.ref aw), some (.bl b), some (.ref L), some (.ref d), u7, u8, u9, none]) ∧ Gw H (R2 H' L d) ∧ H' L = some (.lst (((List.range i).filter fun j => decide (j ∈ B) && !behB M dep j B).map natV)) ∧ ∃ kvs, H' d = some (.dK kvs) ∧ kvs.length ≤ i ∧ (∀ j, j < i → (valV kvs (ky j)).isSome = bhB M dep B j) ∧ ∀ j, i ≤ j → valV kvs (ky j) = none)
      ⟨⟨_, _, _, rfl⟩, g0, qL, [], upd_same, Nat.le_refl _, fun j hj => absurd hj (Nat.not_lt_zero _), fun _ _ => rfl⟩ (fun _ _ _ _ _ => True.intro) ?_ ?_
    · rintro i z σ H1' H1 hi ⟨⟨u7, u8, u9, rfl⟩, g1, q1, kvs, q2, q3, q4, q5⟩ ⟨rfl, rfl⟩
      have G1 := g1.trans Gw.r2_le
      obtain ⟨t, pt, et, st, sp⟩ := h5 i hi
      obtain ⟨x, ex, px⟩ := io i hi
      obtain ⟨xw, exw, pxw⟩ := iw i hi
      obtain ⟨bk, bk1, bk2⟩ := k3 i hi
      have lk : ((M.kids i).map natV).length = M.m i := List.length_map ..
      have m4 := ok.m4 i
      have ll : (((List.range i).filter fun j => decide (j ∈ B) && !behB M dep j B).map natV).length ≤ 12 := by
        rw [List.length_map]
        exact Nat.le_trans (List.length_filter_le ..) (by rw [List.length_range]; omega)
      have putD : ∀ {H' : Hp} {j : Nat}, (∀ j, j < i → (valV kvs (ky j)).isSome = bhB M dep B j) → bhB M dep B i = true → (∀ j, j < i + 1 → (valV (putK kvs (ky i) (.int 1)) (ky j)).isSome = bhB M dep B j) ∧ ∀ j, i + 1 ≤ j → valV (putK kvs (ky i) (.int 1)) (ky j) = none := fun _ hb => by
        refine ⟨fun j hj => ?_, fun j hj => ?_⟩
        · rw [valV_put]
          by_cases e : j = i
          · subst e; rw [if_pos rfl, hb]; rfl
          · rw [if_neg (fun z => e (ky_inj z))]; exact q4 j (by omega)
        · rw [valV_put, if_neg (fun z => by have := ky_inj z; omega)]; exact q5 j (by omega)
      have skip : ∀ (u7 u8 u9 : Option V) (H' : Hp), Gw H1 H' → decide (i ∈ B) = false → behB M dep i B = false → ((∃ v7 v8 v9, [some (V.ref am), some (V.ref ak), some (V.ref ao), some (V.ref aw), some (V.bl b), some (V.ref L), some (V.ref d), u7, u8, u9, none] = [some (V.ref am), some (V.ref ak), some (V.ref ao), some (V.ref aw), some (V.bl b), some (V.ref L), some (V.ref d), v7, v8, v9, none]) ∧ Gw H (R2 H' L d) ∧ H' L = some (.lst (((List.range (i + 1)).filter fun j => decide (j ∈ B) && !behB M dep j B).map natV)) ∧ ∃ kvs, H' d = some (.dK kvs) ∧ kvs.length ≤ i + 1 ∧ (∀ j, j < i + 1 → (valV kvs (ky j)).isSome = bhB M dep B j) ∧ ∀ j, i + 1 ≤ j → valV kvs (ky j) = none) := fun u7 u8 u9 H' g nb hb => by
        refine ⟨⟨_, _, _, rfl⟩, g1.trans (g.r2 L d), ?_, kvs, g.at q2, by omega, fun j hj => ?_, fun j hj => q5 j (by omega)⟩
        · rw [filt_range, nb, Bool.false_and, if_neg (by decide), List.append_nil]; exact g.at q1
        · by_cases e : j = i
          · subst e
            rw [q5 j (Nat.le_refl _), bh_split, nb, hb]; rfl
          · exact q4 j (by omega)
      refine ⟨_, rfl, _, _, _, _, rfl, rfl, G1.sqT h1, e1, _, rfl, _, _, _, _, rfl, rfl, G1.sqT h3, at_of rfl et, _, _, _, _, rfl, rfl, G1.sqT st, atI_nat (j := 0) rfl, ?_⟩
      by_cases h0 : i = 0
      case' pos =>
        have hb : behB M dep i B = false := by rw [h0]; exact beh_zero ok B
        refine ⟨_, rfl, _, rfl, .inr ⟨d, kvs, rfl, if_pos h0, .of q2, _, rfl, iteF ?_⟩⟩
      case' neg =>
        have lt := ok.lt i (by omega) hi
        have pj : parV M i = .int (M.par i : Nat) := if_neg h0
        refine ⟨_, rfl, _, rfl, .inl ⟨d, _, rfl, (by rw [pj]; exact DGet.k (k := ky (M.par i)) q2), _, rfl, ?_⟩⟩
        rw [q4 _ lt, ← beh_par ok (by omega) hi]
        cases hb : behB M dep i B
        case' true =>
          have bt : bhB M dep B i = true := by rw [bh_split, hb, Bool.or_true]
          obtain ⟨p1, p2⟩ := putD (H' := H1) (j := 0) q4 bt
          refine iteT ⟨_, rfl, _, rfl, d, _, rfl, DPut.k (k := ky i) q2 (small1000 (by omega)), ⟨_, _, _, rfl⟩, (by rw [r2_updB ne]; exact g1), (by rw [upd_ne ne, filt_range, hb, if_neg (by simp), List.append_nil]; exact q1), _, upd_same, Nat.le_trans putK_le (by omega), p1, p2⟩
        case' false => refine iteF ?_
      all_goals
        refine ⟨_, rfl, _, rfl, _, _, _, _, rfl, rfl, G1.sqT so, at_of rfl ex, _, rfl, ?_⟩
        cases eo : o i with
        | none =>
          rw [eo] at px
          have px : x = .non := px
          subst px
          refine iteF (skip _ _ _ H1 (Gw.refl _) (decide_eq_false fun hm => ?_) hb)
          rw [← hB] at hm
          cases b with
          | true => obtain ⟨q, e, _⟩ := (mem_bestL hi).mp hm; rw [eo] at e; cases e
          | false => have e := (mem_bestE hi).mp hm; rw [eo] at e; cases e
        | some q =>
          rw [eo] at px
          obtain ⟨⟨ax, rfl, _⟩, _⟩ := id px
          have fe : LP.offF M o (fun _ => none) i = LP.mx (LP.tkv M i (LP.offF M o fun _ => none)) q := by
            rw [LP.off_eq ok o (fun _ => none) hi]
            unfold LP.offG LP.uncG
            rw [eo]
          refine iteT ⟨_, rfl, _, rfl, _, rfl, _, rfl, _, rfl, _, _, _, _, rfl, rfl, G1.sqL k1, at_of rfl bk1, bk, rfl, ⟨_, G1.sqL bk2⟩, fun D hD => ?_⟩
          refine lc_grow (walk_listY (K := K) (a := bk) (xs := (M.kids i).map natV) (n := M.m i) lk) hD (by omega) (fun j v H => PAt K H v (LP.offF M o (fun _ => none) (M.kid i j))) (fun _ _ _ _ g r => r.gw g) (fun H' g => (G1.trans g).sqL bk2) (fun j y H3' H3 hj _ g3 ⟨ws, hw'⟩ hY C9 hC9 => ?_) (fun H3 zs g3 _ hzs lz iz => ?_)
          · obtain ⟨rfl, hy⟩ := hY
            obtain rfl := kid_y hj hy
            obtain ⟨c1, c2, c3, c4, _⟩ := ok.kid hj
            obtain ⟨z, ez, pz⟩ := iw _ c1
            exact ⟨rfl, _, rfl, _, rfl, _, _, _, _, rfl, rfl, (G1.trans g3).sqL sw, at_of rfl ez, hC9 _ _ (Gw.refl _) ((pz.gw (G1.trans g3)).rm hw')⟩
          refine ⟨_, _, _, M, dep, wt, i, _, rfl, hM.gw (G1.trans g3), hK.gw (G1.trans g3), ok, hi, ⟨D, zs, rfl, SqL.of hzs, lz, fun j hj => let ⟨y, e, r⟩ := iz j hj; ⟨y, e, r.gw Gw.rm_le⟩⟩, kid_cz ok (fun j _ hj => cz j hj), fun v4 H4 g4 ⟨q7, pq, tq⟩ => ?_⟩
          have eq := tq.tkv ok hi
          subst eq
          have g14 := g3.trans g4
          have G4 := G1.trans g14
          have bt : decide (i ∈ B) = true → bhB M dep B i = true := fun h => by rw [bh_split, h, Bool.true_or]
          have take : decide (i ∈ B) = true → ∀ (u9 : Option V), ((∃ v7 v8 v9, [some (V.ref am), some (V.ref ak), some (V.ref ao), some (V.ref aw), some (V.bl b), some (V.ref L), some (V.ref d), some (V.int (i : Nat)), some (parV M i), u9, none] = [some (V.ref am), some (V.ref ak), some (V.ref ao), some (V.ref aw), some (V.bl b), some (V.ref L), some (V.ref d), v7, v8, v9, none]) ∧ Gw H (R2 (upd (upd H4 L (.lst (((List.range i).filter fun j => decide (j ∈ B) && !behB M dep j B).map natV ++ [natV i]))) d (.dK (putK kvs (ky i) (.int 1)))) L d) ∧ upd (upd H4 L (.lst (((List.range i).filter fun j => decide (j ∈ B) && !behB M dep j B).map natV ++ [natV i]))) d (.dK (putK kvs (ky i) (.int 1))) L = some (.lst (((List.range (i + 1)).filter fun j => decide (j ∈ B) && !behB M dep j B).map natV)) ∧ ∃ kvs', upd (upd H4 L (.lst (((List.range i).filter fun j => decide (j ∈ B) && !behB M dep j B).map natV ++ [natV i]))) d (.dK (putK kvs (ky i) (.int 1))) d = some (.dK kvs') ∧ kvs'.length ≤ i + 1 ∧ (∀ j, j < i + 1 → (valV kvs' (ky j)).isSome = bhB M dep B j) ∧ ∀ j, i + 1 ≤ j → valV kvs' (ky j) = none) := fun hi' u9 => by
            obtain ⟨p1, p2⟩ := putD (H' := H1) (j := 0) q4 (bt hi')
            refine ⟨⟨_, _, _, rfl⟩, ?_, ?_, _, upd_same, Nat.le_trans putK_le (by omega), p1, p2⟩
            · rw [r2_updB ne, r2_updR]; exact g1.trans (g14.r2 L d)
            · rw [upd_ne ne, upd_same, filt_range, hi', hb]; rfl
          have L4 := g14.at q1
          have d4 : ∀ o, upd H4 L o d = some (.dK kvs) := fun o => by rw [upd_ne (Ne.symm ne)]; exact g14.at q2
          refine ⟨_, rfl, _, rfl, _, rfl, _, _, _, _, rfl, rfl, G4.sqT so, at_of rfl ex, _, _, _, q, rfl, pq, PAt.gw px G4, ?_⟩
          by_cases h : LP.tkv M i (LP.offF M o fun _ => none) < q
          · rw [decide_eq_true h]
            have hin : decide (i ∈ B) = true := decide_eq_true (by
              rw [← hB]
              cases b with
              | true => exact (mem_bestL hi).mpr ⟨q, eo, h⟩
              | false =>
                refine (mem_bestE hi).mpr ?_
                rw [fe, eo]; unfold LP.mx; rw [if_pos h])
            exact ⟨_, rfl, iteT (iteT ⟨_, rfl, .inl ⟨rfl, _, SqL.of L4⟩, _, rfl, L, _, _, rfl, rfl, L4, small1000 (by omega), _, rfl, _, rfl, d, _, rfl, DPut.k (k := ky i) (d4 _) (small1000 (by omega)), take hin _⟩)⟩
          · rw [decide_eq_false h]
            refine ⟨_, rfl, iteF ⟨_, rfl, _, rfl, ?_⟩⟩
            cases b with
            | true =>
              refine iteF (iteF (skip _ _ _ H4 g14 (decide_eq_false fun hm => ?_) hb))
              rw [← hB] at hm
              obtain ⟨q', e, h'⟩ := (mem_bestL hi).mp hm
              rw [eo] at e; cases e; exact h h'
            | false =>
              refine iteT ⟨_, rfl, _, rfl, _, _, _, _, rfl, rfl, G4.sqT so, at_of rfl ex, _, rfl, _, rfl, _, _, _, _, rfl, rfl, G4.sqL sw, at_of rfl exw, _, _, (PAt.gw px G4).dp, (pxw.gw G4).dp, part_shaped _, part_shaped _, _, rfl, ?_⟩
              rw [part_eqv]
              by_cases h2 : q = LP.offF M o (fun _ => none) i
              · rw [decide_eq_true h2]
                have hin : decide (i ∈ B) = true := decide_eq_true (by
                  rw [← hB]
                  exact (mem_bestE hi).mpr (by rw [eo, ← h2]))
                exact iteT ⟨_, rfl, .inl ⟨rfl, _, SqL.of L4⟩, _, rfl, L, _, _, rfl, rfl, L4, small1000 (by omega), _, rfl, _, rfl, d, _, rfl, DPut.k (k := ky i) (d4 _) (small1000 (by omega)), take hin _⟩
              · rw [decide_eq_false h2]
                refine iteF (skip _ _ _ H4 g14 (decide_eq_false fun hm => ?_) hb)
                rw [← hB] at hm
                have e := (mem_bestE hi).mp hm
                rw [eo] at e
                exact h2 (Option.some.inj e)
    · rintro σ H1 ⟨⟨u7, u8, u9, rfl⟩, g1, q1, _⟩
      have G1 := g1.trans Gw.r2_le
      refine ⟨_, rfl, L, _, rfl, .inl ⟨SqL.of q1, fun l hl => ?_⟩⟩
      have gl := Gw.new (.tup (((List.range M.N).filter fun j => decide (j ∈ B) && !behB M dep j B).map natV)) hl
      refine k _ _ (G1.trans gl) ⟨l, rfl, ?_⟩
      have hp : ∃ p : Nat → Bool, B = (List.range M.N).filter p := by
        rw [← hB]
        cases b with
        | true => exact ⟨_, rfl⟩
        | false => exact ⟨_, rfl⟩
      have : firstL M dep B = (List.range M.N).filter fun j => decide (j ∈ B) && !behB M dep j B := by
        obtain ⟨p, hp⟩ := hp
        unfold firstL
        have e : ∀ q : Nat → Bool, B.filter q = (List.range M.N).filter fun j => decide (j ∈ B) && q j := fun q => by
          conv => lhs; rw [hp]
          rw [List.filter_filter]
          refine List.filter_congr fun j hj => ?_
          have : decide (j ∈ B) = p j := by
            rw [Bool.eq_iff_iff, decide_eq_true_eq, hp, List.mem_filter]
            exact ⟨fun h => h.2, fun h => ⟨hj, h⟩⟩
          rw [this, Bool.and_comm]
        exact e _
      rw [this]; exact SqT.of upd_same
end
end K44


set_option Elab.async false
set_option linter.all false
set_option maxRecDepth 100000
set_option maxHeartbeats 4000000
set_option exponentiation.threshold 3000
/-! Draws; _law_part. -/
namespace K44
open PySem L2
open LP (Fit lim S Tr)
abbrev sLPart : Stmt := top 91
/-! ### lists made while draws are taken -/
theorem draws_upd {H : Hp} {D L : Addr} {o : HO} (h : Draws H D) (ne : L ≠ D) : Draws (upd H L o) D := let ⟨ns, e⟩ := h; ⟨ns, by rw [upd_ne ne.symm]; exact e⟩
theorem draws_ne {H : Hp} {D L : Addr} (h : Draws H D) (hL : H L = none) : L ≠ D := fun z => by
  obtain ⟨ns, e⟩ := h
  rw [← z, hL] at e; cases e
theorem rm_comm_upd {H : Hp} {D L : Addr} {o : HO} : rm (rm (upd H L o) D) L = rm (rm H D) L := by
  funext b
  show (if b = L then none else if b = D then none else if b = L then some o else H b) = (if b = L then none else if b = D then none else H b)
  by_cases h : b = L
  · rw [if_pos h, if_pos h]
  · rw [if_neg h, if_neg h, if_neg h]
/-- a comprehension, its elements taking draws -/
theorem lc_growD {J : It} {n : Nat} {G : Hp → Prop} {Y : Nat → Hp → V → Hp → Prop} (w : Walk J n G Y) {g : TG} {te : TE} {vs : List Nat} {σ : L2.St} {H1 : Hp} {L D : Addr} {Qd : Hp → Prop} (nL : H1 L = none) (hD : Draws H1 D) (hn : n ≤ 100000)
    (R : Nat → V → Hp → Prop) (monoR : ∀ i v H H', Gw H H' → R i v H → R i v H') (hG : ∀ H, Gw (rm H1 D) (rm H D) → G H)
    (step : ∀ i x H H', i < n → Gw (rm H1 D) (rm H D) → Draws H D → (∃ xs, H L = some (.lst xs)) → Y i H x H' → ∀ C : VK, (∀ y H4, Gw (rm H D) (rm H4 D) → Draws H4 D → R i y (rm (rm H4 D) L) → C y H4) → g x (wipe σ vs) H' fun σ2 H2 => wipe σ2 vs = wipe σ vs ∧ te σ2 H2 C)
    (hd : ∀ H xs, Gw (rm H1 D) (rm H D) → Draws H D → H L = some (.lst xs) → L ≠ D → xs.length = n → (∀ i, i < n → ∃ y, xs[i]? = some y ∧ R i y (rm (rm H D) L)) → Qd H) :
    ∃ W : Nat → Nat → Hp → Prop, (∃ m, W 0 m (upd H1 L (.lst []))) ∧ ∀ i m H, W i m H →
      (J.stop i H ∧ Qd H) ∨ (J.go i H ∧ ∃ Nx : Hp → Prop, (∀ H', Nx H' → ∃ m', m' < m ∧ W (i + 1) m' H') ∧ ∀ x H', J.yld i H x H' → g x (wipe σ vs) H' fun σ2 H2 => wipe σ2 vs = wipe σ vs ∧ tYes σ2 H2 fun b H3 =>
        if b = true then te σ2 H3 fun y H4 => ∃ acc, H4 L = some (.lst acc) ∧ acc.length < sizeLine ∧ Nx (upd H4 L (.lst (acc ++ [y]))) else Nx H3) := by
  have ne := draws_ne hD nL
  have nL1 : rm H1 D L = none := by rw [rm_ne ne]; exact nL
  refine lc_it w (fun i H => ∃ xs, H L = some (.lst xs) ∧ xs.length = i ∧ Gw (rm H1 D) (rm (rm H D) L) ∧ Draws H D ∧ ∀ j, j < i → ∃ y, xs[j]? = some y ∧ R j y (rm (rm H D) L))
    ⟨[], upd_same, rfl, by rw [rm_comm_upd, rm_none nL1]; exact Gw.refl _, draws_upd hD ne, fun j hj => absurd hj (Nat.not_lt_zero _)⟩ (fun i H _ ⟨xs, _, _, g1, _⟩ => hG H (g1.trans Gw.rm_le)) ?_ (fun H ⟨xs, h1, h2, h3, h5, h4⟩ => hd H xs (h3.trans Gw.rm_le) h5 h1 ne h2 h4)
  rintro i x H H' hi ⟨xs, h1, h2, h3, h5, h4⟩ y
  refine step i x H H' hi (h3.trans Gw.rm_le) h5 ⟨xs, h1⟩ y _ (fun z H4 g4 d4 r4 => ⟨xs, ?_, by rw [h2]; exact Nat.lt_of_lt_of_le hi (Nat.le_trans hn (by decide)), xs ++ [z], upd_same, by simp [h2], ?_, draws_upd d4 ne, fun j hj => ?_⟩)
  · have : rm H D L = some (.lst xs) := by rw [rm_ne ne]; exact h1
    exact Gw.rm_le.at (g4.at this)
  · rw [rm_comm_upd]; exact h3.trans g4.rm
  · rw [rm_comm_upd]
    by_cases e : j < i
    · obtain ⟨u, e1, r⟩ := h4 j e
      exact ⟨u, by rw [List.getElem?_append_left (by omega)]; exact e1, monoR _ _ _ _ g4.rm r⟩
    · have : j = i := by omega
      subst this
      exact ⟨z, by rw [List.getElem?_append_right (by omega), h2, Nat.sub_self]; rfl, r4⟩
theorem Draws.gw {H H' : Hp} {D : Addr} (h : Draws H D) (g : Gw H H') : Draws H' D := let ⟨ns, e⟩ := h; ⟨ns, g.at e⟩
/-- small quotients -/
theorem small_q {n d : Int} (hd : 1 ≤ d) (hd4 : d ≤ 4) {B : Rat} {N : Int} (h1 : -N ≤ n) (h2 : n ≤ N) (hN : ((N : Int) : Rat) ≤ B) : LP.IsI (12 * Rat.divInt n d) ∧ LP.Bd B (Rat.divInt n d) ∧ (d ≤ 2 → LP.IsI (2 * Rat.divInt n d)) ∧ (d ≤ 3 → LP.IsI (6 * Rat.divInt n d)) := by
  have e : Rat.divInt n d = (n : Rat) / (d : Rat) := Rat.divInt_eq_div n d
  have r1 : ((-N : Int) : Rat) ≤ (n : Rat) := Rat.intCast_le_intCast.mpr h1
  have r2 : (n : Rat) ≤ ((N : Int) : Rat) := Rat.intCast_le_intCast.mpr h2
  rw [Rat.intCast_neg] at r1
  have nI : LP.IsI (n : Rat) := ⟨n, rfl⟩
  have d4 : d = 1 ∨ d = 2 ∨ d = 3 ∨ d = 4 := by omega
  rw [e]
  have isI : ∀ z : Int, LP.IsI ((z : Int) : Rat) := fun z => ⟨z, rfl⟩
  rcases d4 with rfl | rfl | rfl | rfl
  · rw [show (n : Rat) / ((1 : Int) : Rat) = n by rw [show ((1 : Int) : Rat) = 1 from rfl]; grind]
    exact ⟨(isI 12).mul nI, ⟨by grind, by grind⟩, fun _ => (isI 2).mul nI, fun _ => (isI 6).mul nI⟩
  · rw [show (n : Rat) / ((2 : Int) : Rat) = n / 2 from rfl]
    refine ⟨?_, ⟨by grind, by grind⟩, fun _ => ?_, fun _ => ?_⟩
    · rw [show 12 * ((n : Rat) / 2) = ((6 : Int) : Rat) * n by rw [show ((6 : Int) : Rat) = 6 from rfl]; grind]; exact (isI 6).mul nI
    · rw [show 2 * ((n : Rat) / 2) = n by grind]; exact nI
    · rw [show 6 * ((n : Rat) / 2) = ((3 : Int) : Rat) * n by rw [show ((3 : Int) : Rat) = 3 from rfl]; grind]; exact (isI 3).mul nI
  · rw [show (n : Rat) / ((3 : Int) : Rat) = n / 3 from rfl]
    refine ⟨?_, ⟨by grind, by grind⟩, fun h => by omega, fun _ => ?_⟩
    · rw [show 12 * ((n : Rat) / 3) = ((4 : Int) : Rat) * n by rw [show ((4 : Int) : Rat) = 4 from rfl]; grind]; exact (isI 4).mul nI
    · rw [show 6 * ((n : Rat) / 3) = ((2 : Int) : Rat) * n by rw [show ((2 : Int) : Rat) = 2 from rfl]; grind]; exact (isI 2).mul nI
  · rw [show (n : Rat) / ((4 : Int) : Rat) = n / 4 from rfl]
    refine ⟨?_, ⟨by grind, by grind⟩, fun h => by omega, fun h => by omega⟩
    rw [show 12 * ((n : Rat) / 4) = ((3 : Int) : Rat) * n by rw [show ((3 : Int) : Rat) = 3 from rfl]; grind]; exact (isI 3).mul nI
theorem small_fit {q B : Rat} (h : LP.IsI (12 * q)) (b : LP.Bd B q) (hB : B ≤ 10 ^ 50) : Fit q :=
  LP.fitH (D := 12) (B := 12) (K := 12 * 10 ^ 50) LP.isI12 (by decide) (by constructor <;> decide) (by decide +kernel) (by decide +kernel) ⟨h, LP.bd_mul (A := 12) (B := 10 ^ 50) (by constructor <;> decide) (LP.bd_mono hB b)⟩
def spLPart (K : PySem.W.Frag) : Sp := fun vs H Q _ => ∃ D : Addr, vs = [.ref D] ∧ Draws H D ∧ ∀ v H' q, PAt K (rm H' D) v q → LP.Du q → Gw (rm H D) (rm H' D) → Draws H' D → Q v H'
section
variable {P : Program} {w : World} {K : PySem.W.Frag} {mg : Str → Option Value} {base : Heap}
abbrev CTake (P : Program) (w : World) (K : PySem.W.Frag) (mg : Str → Option Value) (base : Heap) := Cal P w K mg base "_law_take" 1 ["draws", "bound"] spTake
theorem scLPart : FnScope ["draws"] ["draws"] (defScope sLPart) := ⟨rfl, rfl, rfl, by decide +kernel, rfl, by decide +kernel, by decide +kernel⟩
theorem ok_lPart {f : Addr} {fd : FuncData} (F : Fun K "_law_part" "_law_part" sLPart f fd) (C1 : CTake P w K mg base) (C2' : CLow P w K mg base) : FnOk P w K mg base CX0 2 f fd ["draws"] (spLPart K) := by
  refine F.ok scLPart (fun vs H Q E h => ?_) (fun cdv A outer s H vs Q E hr h => ?_)
  · obtain ⟨D, rfl, _⟩ := h
    rfl
  · obtain ⟨D, rfl, hD, k⟩ := h
    refine ⟨_, pss_one (ps_ret (pe_call C2'.ok hr rfl C2'.hm C2'.kp C2'.b .nil pass0 (pa_cons (pe_op op_sub (pe_call C1.ok hr rfl C1.hm C1.kp C1.b .nil pass0 (pa_cons (pv 0) (pa_cons pe_int pa_nil))) pe_int) (pa_cons (pe_op op_add pe_int (pe_call C1.ok hr rfl C1.hm C1.kp C1.b .nil pass0 (pa_cons (pv 0) (pa_cons pe_int pa_nil)))) pa_nil)))), ?_⟩
    refine ⟨_, rfl, D, 25, rfl, by decide, hD, fun a H1 a0 a1 g1 d1 => ⟨_, _, rfl, rfl, _, rfl, D, 3, rfl, by decide, d1, fun b H2 b0 b1 g2 d2 => ⟨_, _, rfl, rfl, ?_⟩⟩⟩
    obtain ⟨i1, i2, _, i4⟩ := small_q (n := a - 8) (d := 1 + b) (B := 16) (N := 16) (by omega) (by omega) (by omega) (by omega) (by decide)
    refine ⟨_, _, rfl, by omega, ?_, small_fit i1 i2 (by decide +kernel), fun v H3 g3 r3 => ?_⟩
    · have : (1 + b).natAbs ≤ 4 := by omega
      exact Nat.lt_of_le_of_lt this (Nat.lt_of_lt_of_le (show 4 < 2 ^ 10 by decide) (Nat.pow_le_pow_right (by decide) (by decide)))
    · obtain ⟨ns, e⟩ := d2.gw g3
      exact k v H3 _ (PAt.rm r3 e) ⟨i4 (by omega), i2⟩ (g1.trans (g2.trans g3.rm)) ⟨ns, e⟩
end
end K44


set_option Elab.async false
set_option linter.all false
set_option maxRecDepth 100000
set_option maxHeartbeats 4000000
set_option exponentiation.threshold 3000
/-! What _law_tree grows: shapes, the heap, prices. -/
namespace K44
open PySem L2
open LP (Fit lim S Tr PrOk LB KB PB Dd)
def kidsP (n : Nat) (par : Nat → Nat) (i : Nat) : List Nat := (List.range n).filter fun j => decide (0 < j ∧ par j = i)
def setN {α : Type} (f : Nat → α) (n : Nat) (v : α) : Nat → α := fun j => if j = n then v else f j
theorem setN_ne {α : Type} {f : Nat → α} {n j : Nat} {v : α} (h : j ≠ n) : setN f n v j = f j := if_neg h
theorem setN_eq {α : Type} {f : Nat → α} {n : Nat} {v : α} : setN f n v n = v := if_pos rfl
structure Sh (n : Nat) (par dep : Nat → Nat) : Prop where
  n1 : 1 ≤ n
  lt : ∀ j, 0 < j → j < n → par j < j
  d0 : dep 0 = 0
  dS : ∀ j, 0 < j → j < n → dep j = dep (par j) + 1
  d3 : ∀ j, j < n → dep j ≤ 3
  m4 : ∀ i, (kidsP n par i).length ≤ 4
theorem Sh.init : Sh 1 (fun _ => 0) (fun _ => 0) :=
  ⟨Nat.le_refl _, fun j h1 h2 => by omega, rfl, fun j h1 h2 => by omega, fun _ _ => Nat.zero_le _, fun i => Nat.le_trans (List.length_filter_le ..) (by rw [List.length_range]; decide)⟩
theorem kidsP_grow {n up : Nat} {par : Nat → Nat} (h0 : 0 < n) (i : Nat) : kidsP (n + 1) (setN par n up) i = kidsP n par i ++ if up = i then [n] else [] := by
  unfold kidsP
  rw [List.range_succ, List.filter_append]
  congr 1
  · refine List.filter_congr fun j hj => ?_
    rw [List.mem_range] at hj
    rw [setN_ne (by omega)]
  · by_cases h : up = i
    · rw [if_pos h]; simp [setN_eq, h, h0]
    · rw [if_neg h]; simp [setN_eq, h]
theorem Sh.grow {n up : Nat} {par dep : Nat → Nat} (h : Sh n par dep) (hu : up < n) (hd : dep up ≤ 2) (hm : (kidsP n par up).length < 4) : Sh (n + 1) (setN par n up) (setN dep n (dep up + 1)) := by
  have n1 := h.n1
  refine ⟨by omega, fun j h1 h2 => ?_, by rw [setN_ne (by omega)]; exact h.d0, fun j h1 h2 => ?_, fun j h1 => ?_, fun i => ?_⟩
  · by_cases e : j = n
    · subst e; rw [setN_eq]; exact hu
    · rw [setN_ne e]; exact h.lt j h1 (by omega)
  · by_cases e : j = n
    · subst e; rw [setN_eq, setN_eq, setN_ne (by omega)]
    · have l := h.lt j h1 (by omega)
      rw [setN_ne e, setN_ne e, setN_ne (by omega)]; exact h.dS j h1 (by omega)
  · by_cases e : j = n
    · subst e; rw [setN_eq]; omega
    · rw [setN_ne e]; exact h.d3 j (by omega)
  · rw [kidsP_grow (by omega), List.length_append]
    by_cases e : up = i
    · subst e; rw [if_pos rfl]; simp only [List.length_cons, List.length_nil]; omega
    · rw [if_neg e]; have := h.m4 i; simp only [List.length_nil]; omega
theorem Sh.kz {n : Nat} {par dep : Nat → Nat} (h : Sh n par dep) : kidsP n par n = [] := by
  unfold kidsP
  rw [List.filter_eq_nil_iff]
  intro k hk
  rw [List.mem_range] at hk
  rw [decide_eq_true_eq]
  rintro ⟨a, b⟩
  have := h.lt k a hk
  omega
def upS (par : Nat → Nat) (i : Nat) : Nat → Nat
  | 0 => i
  | s + 1 => par (upS par i s)
theorem Sh.up {n : Nat} {par dep : Nat → Nat} (h : Sh n par dep) {i : Nat} (hi : i < n) : ∀ s, s ≤ dep i → upS par i s < n ∧ dep (upS par i s) = dep i - s
  | 0, _ => ⟨hi, rfl⟩
  | s + 1, hs => by
    obtain ⟨a, b⟩ := Sh.up h hi s (by omega)
    have p : 0 < upS par i s := by
      rcases Nat.eq_zero_or_pos (upS par i s) with z | z
      · rw [z, h.d0] at b; omega
      · exact z
    have l := h.lt _ p a
    have d := h.dS _ p a
    exact ⟨Nat.lt_trans l a, by show dep (par (upS par i s)) = _; omega⟩
theorem Sh.zero {n : Nat} {par dep : Nat → Nat} (h : Sh n par dep) {j : Nat} (hj : j < n) : dep j = 0 ↔ j = 0 := by
  constructor
  · intro e
    rcases Nat.eq_zero_or_pos j with z | z
    · exact z
    · have := h.dS j z hj; omega
  · rintro rfl; exact h.d0
def parF (par : Nat → Nat) (j : Nat) : V := if j = 0 then .non else .int (par j : Nat)
/-- the heap while shapes grow -/
structure Ph (H0 H : Hp) (D S Kd : Addr) (n : Nat) (par : Nat → Nat) (ks : Nat → Addr) : Prop where
  g : Gw (rm H0 D) (rm H D)
  d : Draws H D
  sh : H S = some (.lst ((List.range n).map (parF par)))
  kd : H Kd = some (.lst ((List.range n).map fun j => V.ref (ks j)))
  kl : ∀ j, j < n → H (ks j) = some (.lst ((kidsP n par j).map natV))
  nS : H0 S = none
  nK : H0 Kd = none
  nk : ∀ j, j < n → H0 (ks j) = none
  s1 : S ≠ Kd
  s2 : ∀ j, j < n → ks j ≠ S
  s3 : ∀ j, j < n → ks j ≠ Kd
  s4 : ∀ j j', j < n → j' < n → ks j = ks j' → j = j'
theorem at_rm {H H' : Hp} {D a : Addr} {xs : List V} (g : Gw (rm H D) (rm H' D)) (ne : a ≠ D) (h : H a = some (.lst xs)) : H' a = some (.lst xs) := by
  have : rm H D a = some (.lst xs) := by rw [rm_ne ne]; exact h
  exact (rm_some (g.at this)).2
theorem Ph.take {H0 H H' : Hp} {D S Kd : Addr} {n : Nat} {par : Nat → Nat} {ks : Nat → Addr} (h : Ph H0 H D S Kd n par ks) (d0 : Draws H0 D) (g : Gw (rm H D) (rm H' D)) (d : Draws H' D) : Ph H0 H' D S Kd n par ks :=
  ⟨h.g.trans g, d, at_rm g (draws_ne d0 h.nS) h.sh, at_rm g (draws_ne d0 h.nK) h.kd, fun j hj => at_rm g (draws_ne d0 (h.nk j hj)) (h.kl j hj), h.nS, h.nK, h.nk, h.s1, h.s2, h.s3, h.s4⟩
theorem gw_updN {A H : Hp} {D a : Addr} {o : HO} (g : Gw (rm A D) (rm H D)) (n : A a = none) : Gw (rm A D) (rm (upd H a o) D) := fun b u e => by
  obtain ⟨h1, h2⟩ := rm_some e
  have ne : b ≠ a := fun z => by rw [z, n] at h2; cases h2
  have : rm (upd H a o) D b = rm H D b := by rw [rm_ne h1, rm_ne h1, upd_ne ne]
  rw [this]
  exact g b u e
theorem Ph.app {H0 H : Hp} {D S Kd p : Addr} {n up : Nat} {par : Nat → Nat} {ks : Nat → Addr} (h : Ph H0 H D S Kd n par ks) (d0 : Draws H0 D) (h0 : 0 < n) (hu : up < n) (hz : kidsP n par n = []) (hp : upd H S (.lst ((List.range n).map (parF par) ++ [V.int (up : Nat)])) p = none) :
    Ph H0 (upd (upd (upd (upd H S (.lst ((List.range n).map (parF par) ++ [V.int (up : Nat)]))) p (.lst [])) Kd (.lst (((List.range n).map fun j => V.ref (ks j)) ++ [V.ref p]))) (ks up) (.lst ((kidsP n par up).map natV ++ [natV n]))) D S Kd (n + 1) (setN par n up) (setN ks n p) := by
  have pS : p ≠ S := fun z => by rw [z, upd_same] at hp; cases hp
  have hp' : H p = none := by rw [upd_ne pS] at hp; exact hp
  have pK : p ≠ Kd := fun z => by rw [z, h.kd] at hp'; cases hp'
  have pk : ∀ j, j < n → ks j ≠ p := fun j hj z => by rw [← z, h.kl j hj] at hp'; cases hp'
  have pD : p ≠ D := fun z => by obtain ⟨ns, e⟩ := h.d; rw [z, e] at hp'; cases hp'
  have p0 : H0 p = none := by
    have : rm H D p = none := by rw [rm_ne pD]; exact hp'
    have := h.g.free this
    rw [rm_ne pD] at this; exact this
  have SD := draws_ne d0 h.nS
  have KD := draws_ne d0 h.nK
  have uD := draws_ne d0 (h.nk up hu)
  refine ⟨gw_updN (gw_updN (gw_updN (gw_updN h.g h.nS) p0) h.nK) (h.nk up hu), ?_, ?_, ?_, fun j hj => ?_, h.nS, h.nK, fun j hj => ?_, h.s1, fun j hj => ?_, fun j hj => ?_, fun j j' hj hj' e => ?_⟩
  · exact draws_upd (draws_upd (draws_upd (draws_upd h.d SD) pD) KD) uD
  · rw [upd_ne (Ne.symm (h.s2 up hu)), upd_ne h.s1, upd_ne (Ne.symm pS), upd_same, List.range_succ, List.map_append]
    congr 2
    · congr 1
      · exact List.map_congr_left fun j hj => by
          rw [List.mem_range] at hj
          unfold parF; rw [setN_ne (by omega)]
      · show _ = [parF _ n]
        unfold parF; rw [if_neg (by omega), setN_eq]
  · rw [upd_ne (Ne.symm (h.s3 up hu)), upd_same, List.range_succ, List.map_append]
    congr 2
    · congr 1
      · exact List.map_congr_left fun j hj => by
          rw [List.mem_range] at hj
          rw [setN_ne (by omega)]
      · show _ = [V.ref (setN ks n p n)]
        rw [setN_eq]
  · rw [kidsP_grow h0]
    by_cases e : j = n
    · subst e
      rw [setN_eq, if_neg (by omega), List.append_nil, upd_ne (Ne.symm (pk up hu)), upd_ne pK, upd_same, hz]; rfl
    · rw [setN_ne e]
      by_cases e2 : j = up
      · subst e2
        rw [upd_same, if_pos rfl, List.map_append]; rfl
      · rw [upd_ne (fun z => e2 (h.s4 j up (by omega) hu z)), upd_ne (h.s3 j (by omega)), upd_ne (pk j (by omega)), upd_ne (h.s2 j (by omega)), if_neg (fun z => e2 z.symm), List.append_nil]
        exact h.kl j (by omega)
  · by_cases e : j = n
    · subst e; rw [setN_eq]; exact p0
    · rw [setN_ne e]; exact h.nk j (by omega)
  · by_cases e : j = n
    · subst e; rw [setN_eq]; exact pS
    · rw [setN_ne e]; exact h.s2 j (by omega)
  · by_cases e : j = n
    · subst e; rw [setN_eq]; exact pK
    · rw [setN_ne e]; exact h.s3 j (by omega)
  · by_cases e1 : j = n
    · by_cases e2 : j' = n
      · omega
      · subst e1; rw [setN_eq, setN_ne e2] at e; exact absurd e.symm (pk j' (by omega))
    · by_cases e2 : j' = n
      · subst e2; rw [setN_eq, setN_ne e1] at e; exact absurd e (pk j (by omega))
      · rw [setN_ne e1, setN_ne e2] at e; exact h.s4 j j' (by omega) (by omega) e
/-! ### prices -/
theorem choice_lt {α : Type} [Inhabited α] {P : Nat → α → Prop} {m : Nat} (h : ∀ a, a < m → ∃ q, P a q) : ∃ f : Nat → α, ∀ a, a < m → P a (f a) := by
  classical
  refine ⟨fun a => if h' : a < m then (h a h').choose else default, fun a ha => ?_⟩
  dsimp only
  rw [dif_pos ha]
  exact (h a ha).choose_spec
theorem S_ge0 {f : Nat → Rat} : ∀ {m : Nat}, (∀ a, a < m → 0 ≤ f a) → 0 ≤ S m f
  | 0, _ => Rat.le_refl
  | m + 1, h => by
    have a := S_ge0 (m := m) fun a ha => h a (by omega)
    have b := h m (by omega)
    show 0 ≤ S m f + f m
    grind
theorem S_ge1 {f : Nat → Rat} : ∀ {m : Nat}, 0 < m → (∀ a, a < m → 0 ≤ f a) → f 0 ≤ S m f
  | 1, _, h => by show f 0 ≤ 0 + f 0; grind
  | m + 2, _, h => by
    have a := S_ge1 (m := m + 1) (by omega) fun a ha => h a (by omega)
    have b := h (m + 1) (by omega)
    show f 0 ≤ S (m + 1) f + f (m + 1)
    grind
theorem S_leC {f : Nat → Rat} {c : Rat} : ∀ {m : Nat}, (∀ a, a < m → f a ≤ c) → S m f ≤ (m : Rat) * c
  | 0, _ => by show (0 : Rat) ≤ ((0 : Nat) : Rat) * c; rw [show ((0 : Nat) : Rat) = 0 from rfl]; grind
  | m + 1, h => by
    have a := S_leC (m := m) fun a ha => h a (by omega)
    have b := h m (by omega)
    show S m f + f m ≤ _
    rw [show ((m + 1 : Nat) : Rat) = (m : Rat) + 1 by rw [Rat.natCast_add]; rfl]
    grind
structure ShOk (q : Rat) : Prop where
  int : LP.IsI (12 * q)
  lo : 1 / 4 ≤ q
  hi : q ≤ 3 / 2
theorem dep_num {d : Nat} (hd : d ≤ 2) : 12 * Dd (d + 1) = Dd d ∧ 1 / 4 * LB (d + 1) = LB d ∧ 6 * KB (d + 1) = KB d ∧ 6 * PB (d + 1) = PB d ∧ 0 < LB (d + 1) ∧ 0 < KB (d + 1) ∧ 0 < PB (d + 1) ∧ LP.IsI (Dd d) ∧ 1 ≤ Dd d ∧ Dd d ≤ 3456 ∧ KB (d + 1) ≤ 2376 ∧ PB (d + 1) ≤ 2376 := by
  have h3 : d = 0 ∨ d = 1 ∨ d = 2 := by omega
  rcases h3 with rfl | rfl | rfl
  · exact ⟨by decide +kernel, by decide +kernel, by decide +kernel, by decide +kernel, by decide +kernel, by decide +kernel, by decide +kernel, ⟨3456, rfl⟩, by decide +kernel, by decide +kernel, by decide +kernel, by decide +kernel⟩
  · exact ⟨by decide +kernel, by decide +kernel, by decide +kernel, by decide +kernel, by decide +kernel, by decide +kernel, by decide +kernel, ⟨288, rfl⟩, by decide +kernel, by decide +kernel, by decide +kernel, by decide +kernel⟩
  · exact ⟨by decide +kernel, by decide +kernel, by decide +kernel, by decide +kernel, by decide +kernel, by decide +kernel, by decide +kernel, ⟨24, rfl⟩, by decide +kernel, by decide +kernel, by decide +kernel, by decide +kernel⟩
theorem term_hd {d k : Nat} (hd : d ≤ 2) (hk : k < 2) {q : Rat} {p : Nat → Rat} (hq : ShOk q) (hp : PrOk (d + 1) p) : LP.Hd (Dd d) (3456 * 3564) (q * p k) ∧ 0 ≤ p k ∧ p k ≤ 2376 := by
  obtain ⟨e1, _, _, _, l0, k0, p0, dI, d1, d2, kb, pb⟩ := dep_num hd
  have k2 : k = 0 ∨ k = 1 := by omega
  have pk : 0 ≤ p k ∧ p k ≤ 2376 := by
    rcases k2 with rfl | rfl
    · exact ⟨by have := hp.kp; grind, by have := hp.kb; grind⟩
    · exact ⟨hp.pp, by have := hp.pb; grind⟩
  refine ⟨⟨?_, ?_⟩, pk⟩
  · rw [← e1, show 12 * Dd (d + 1) * (q * p k) = 12 * q * (Dd (d + 1) * p k) by grind]
    exact hq.int.mul (hp.int k hk)
  · have q0 : LP.Bd (3 / 2) q := ⟨by have := hq.lo; grind, hq.hi⟩
    have a := LP.bd_mul (A := 3456) (a := Dd d) ⟨by grind, d2⟩ (LP.bd_mul q0 (B := 2376) ⟨by grind, pk.2⟩)
    exact LP.bd_mono (by decide +kernel) a
theorem row_ok {d m : Nat} (hd : d ≤ 2) (hm : 0 < m) (m4 : m ≤ 4) {sh : Nat → Rat} {pk : Nat → Nat → Rat} {p : Nat → Rat} (hs : ∀ a, a < m → ShOk (sh a)) (hp : ∀ a, a < m → PrOk (d + 1) (pk a)) (e : ∀ k, k < 2 → p k = S m fun a => sh a * pk a k) : PrOk d p := by
  obtain ⟨e1, e2, e3, e4, l0, k0, p0, dI, d1, d2, kb, pb⟩ := dep_num hd
  have mR : (m : Rat) ≤ 4 := by
    have : (m : Rat) ≤ ((4 : Nat) : Rat) := Rat.natCast_le_natCast.mpr m4
    exact this
  have nn : ∀ k, k < 2 → ∀ a, a < m → 0 ≤ sh a * pk a k := fun k hk a ha => Rat.mul_nonneg (by have := (hs a ha).lo; grind) (term_hd hd hk (hs a ha) (hp a ha)).2.1
  have ub : ∀ {k : Nat} {B : Rat}, k < 2 → 0 ≤ B → (∀ a, a < m → pk a k ≤ B) → (S m fun a => sh a * pk a k) ≤ 6 * B := fun {k B} hk hB h => by
    have a := S_leC (f := fun a => sh a * pk a k) (c := 3 / 2 * B) (m := m) fun a ha => by
      have x := Rat.mul_le_mul_of_nonneg_right (hs a ha).hi (term_hd hd hk (hs a ha) (hp a ha)).2.1
      have y := Rat.mul_le_mul_of_nonneg_left (h a ha) (show (0 : Rat) ≤ 3 / 2 by decide +kernel)
      exact Rat.le_trans x y
    have b := Rat.mul_le_mul_of_nonneg_right mR (show 0 ≤ 3 / 2 * B by grind)
    grind
  refine ⟨?_, ?_, fun k hk => ?_, ?_, ?_⟩
  · rw [e 0 (by omega), ← e2]
    have a := S_ge1 (f := fun a => sh a * pk a 0) hm (nn 0 (by omega))
    have x := Rat.mul_le_mul_of_nonneg_left (hp 0 hm).kp (show (0 : Rat) ≤ 1 / 4 by decide +kernel)
    have y := Rat.mul_le_mul_of_nonneg_right (hs 0 hm).lo (show 0 ≤ pk 0 0 by have := (hp 0 hm).kp; grind)
    have a : sh 0 * pk 0 0 ≤ S m fun a => sh a * pk a 0 := a
    grind
  · rw [e 1 (by omega)]; exact S_ge0 (nn 1 (by omega))
  · rw [e k hk]
    exact (LP.Hd.sum (n := m) fun a ha => (term_hd hd hk (hs a ha) (hp a ha)).1).1
  · rw [e 0 (by omega), ← e3]; exact ub (by omega) (Rat.le_of_lt k0) fun a ha => (hp a ha).kb
  · rw [e 1 (by omega), ← e4]; exact ub (by omega) (Rat.le_of_lt p0) fun a ha => (hp a ha).pb
theorem fit_rows {d m k : Nat} (hd : d ≤ 2) (hk : k < 2) (m4 : m ≤ 4) {sh : Nat → Rat} {pk : Nat → Nat → Rat} (hs : ∀ a, a < m → ShOk (sh a)) (hp : ∀ a, a < m → PrOk (d + 1) (pk a)) : ∀ j, j ≤ m → Fit (S j fun a => sh a * pk a k) ∧ ∀ a, a < m → Fit (sh a * pk a k) := fun j hj => by
  obtain ⟨e1, e2, e3, e4, l0, k0, p0, dI, d1, d2, kb, pb⟩ := dep_num hd
  have h := fun a (ha : a < m) => (term_hd hd hk (hs a ha) (hp a ha)).1
  have bD : LP.Bd 3456 (Dd d) := ⟨by grind, d2⟩
  refine ⟨?_, fun a ha => LP.fitH dI (by grind) bD (by decide +kernel) (by decide +kernel) (h a ha)⟩
  refine LP.fitH dI (by grind) bD (by decide +kernel) ?_ (LP.Hd.sum (n := j) fun a ha => h a (by omega))
  have : (j : Rat) ≤ ((4 : Nat) : Rat) := Rat.natCast_le_natCast.mpr (by omega)
  have := Rat.mul_le_mul_of_nonneg_right this (show (0 : Rat) ≤ 3456 * 3564 by decide +kernel)
  exact Rat.le_trans this (by decide +kernel)
theorem leaf_ok {d : Nat} (hd : d ≤ 3) {p : Nat → Rat} (h0 : 1 / 2 ≤ p 0) (h1 : p 0 ≤ 5) (h2 : 0 ≤ p 1) (h3 : p 1 ≤ 11) (i : ∀ k, k < 2 → LP.IsI (2 * p k)) : PrOk d p := by
  have num : LB d ≤ 1 / 2 ∧ 5 ≤ KB d ∧ 11 ≤ PB d ∧ ∃ z : Rat, LP.IsI z ∧ Dd d = z * 2 := by
    have h4 : d = 0 ∨ d = 1 ∨ d = 2 ∨ d = 3 := by omega
    rcases h4 with rfl | rfl | rfl | rfl
    · exact ⟨by decide +kernel, by decide +kernel, by decide +kernel, 1728, ⟨1728, rfl⟩, by decide +kernel⟩
    · exact ⟨by decide +kernel, by decide +kernel, by decide +kernel, 144, ⟨144, rfl⟩, by decide +kernel⟩
    · exact ⟨by decide +kernel, by decide +kernel, by decide +kernel, 12, ⟨12, rfl⟩, by decide +kernel⟩
    · exact ⟨by decide +kernel, by decide +kernel, by decide +kernel, 1, ⟨1, rfl⟩, by decide +kernel⟩
  obtain ⟨n1, n2, n3, z, zI, ze⟩ := num
  exact ⟨by grind, h2, fun k hk => by rw [ze, show z * 2 * p k = z * (2 * p k) by grind]; exact zI.mul (i k hk), by grind, by grind⟩
end K44


set_option Elab.async false
set_option linter.all false
set_option maxRecDepth 100000
set_option maxHeartbeats 4000000
set_option exponentiation.threshold 3000
/-! _law_tree. -/
namespace K44
open PySem L2
open LP (Fit lim S Tr PrOk LB KB PB Dd)
abbrev sLTree : Stmt := top 84
def spLTree (K : PySem.W.Frag) : Sp := fun vs H Q _ => ∃ D : Addr, vs = [.ref D, .int 2] ∧ Draws H D ∧ ∀ (a : Addr) (mv kv : V) (H' : Hp) (T : Tr) (dep : Nat → Nat) (wt : Nat → Rat), T.Ok dep wt → SqT K (rm H' D) a [mv, kv] → MktAt K (rm H' D) mv T → KidsAt K (rm H' D) kv T → Gw (rm H D) (rm H' D) → Draws H' D → Q (.ref a) H'
theorem none_upd {H : Hp} {a b : Addr} {o : HO} (h : upd H a o b = none) : b ≠ a ∧ H b = none := by
  have ne : b ≠ a := fun z => by rw [z, upd_same] at h; cases h
  exact ⟨ne, by rw [upd_ne ne] at h; exact h⟩
theorem MktAt.rmD {K : PySem.W.Frag} {H : Hp} {D : Addr} {v : V} {T : Tr} {ys : List V} (h : MktAt K H v T) (hD : H D = some (.lst ys)) : MktAt K (rm H D) v T := by
  obtain ⟨a, na, nd, vs, e, h1, h2, h3, h4, h5⟩ := h
  exact ⟨a, na, nd, vs, e, sqT_rm h1 hD, sqT_rm h2 hD, sqT_rm h3 hD, h4, fun i hi => let ⟨t, pt, e, s, p⟩ := h5 i hi; ⟨t, pt, e, sqT_rm s hD, p.rmD hD⟩⟩
abbrev TT (n : Nat) (par : Nat → Nat) : Tr := ⟨n, par, fun _ _ => 0⟩
theorem Sh.kid {n : Nat} {par dep : Nat → Nat} (h : Sh n par dep) {i a : Nat} (ha : a < (kidsP n par i).length) : (TT n par).kid i a < n ∧ 0 < (TT n par).kid i a ∧ par ((TT n par).kid i a) = i ∧ i < (TT n par).kid i a ∧ dep ((TT n par).kid i a) = dep i + 1 := by
  obtain ⟨x, y, z⟩ := Tr.mem_kids.mp (Tr.kid_mem (T := TT n par) (i := i) (j := a) ha)
  have z : par ((TT n par).kid i a) = i := z
  have l := h.lt _ y x
  have d := h.dS _ y x
  rw [z] at l d
  exact ⟨x, y, z, l, d⟩
theorem kid_get {n : Nat} {par : Nat → Nat} {i a : Nat} (ha : a < (kidsP n par i).length) : ((kidsP n par i).map natV)[a]? = some (natV ((TT n par).kid i a)) := by
  rw [List.getElem?_map]
  unfold Tr.kid
  show _ = some (natV ((kidsP n par i).getD a 0))
  rw [List.getD_eq_getElem?_getD, List.getElem?_eq_getElem ha]; rfl
structure P2 (n : Nat) (par dep : Nat → Nat) (lo : Nat) (pr : Nat → Nat → Rat) (wt : Nat → Rat) : Prop where
  ok : ∀ j, lo ≤ j → j < n → PrOk (dep j) (pr j)
  sum : ∀ j, lo ≤ j → j < n → ∀ k, k < 2 → 0 < (kidsP n par j).length → (S (kidsP n par j).length fun a => wt ((TT n par).kid j a) * pr ((TT n par).kid j a) k) = pr j k
  wp : ∀ j, 0 < j → j < n → lo ≤ par j → 0 < wt j
theorem P2.leaf {n : Nat} {par dep : Nat → Nat} {i : Nat} {pr : Nat → Nat → Rat} {wt : Nat → Rat} {p : Nat → Rat} (h : P2 n par dep (i + 1) pr wt) (sh : Sh n par dep) (hi : i < n) (hm : (kidsP n par i).length = 0) (hp : PrOk (dep i) p) : P2 n par dep i (setN pr i p) wt := by
  refine ⟨fun j h1 h2 => ?_, fun j h1 h2 k hk hj => ?_, fun j h1 h2 h3 => ?_⟩
  · by_cases e : j = i
    · subst e; rw [setN_eq]; exact hp
    · rw [setN_ne e]; exact h.ok j (by omega) h2
  · by_cases e : j = i
    · subst e; omega
    · rw [setN_ne e, ← h.sum j (by omega) h2 k hk hj]
      exact LP.S_congr fun a ha => by rw [setN_ne (by have := (sh.kid ha).2.2.2.1; omega)]
  · by_cases e : par j = i
    · have : j ∈ kidsP n par i := by
        unfold kidsP
        rw [List.mem_filter, List.mem_range, decide_eq_true_eq]
        exact ⟨h2, h1, e⟩
      rw [List.length_eq_zero_iff.mp hm] at this
      cases this
    · exact h.wp j h1 h2 (by omega)
theorem P2.row {n : Nat} {par dep : Nat → Nat} {i : Nat} {pr : Nat → Nat → Rat} {wt : Nat → Rat} {p : Nat → Rat} {sf : Nat → Rat} (h : P2 n par dep (i + 1) pr wt) (sh : Sh n par dep) (hi : i < n) (hs : ∀ a, a < (kidsP n par i).length → ShOk (sf a)) (hp : PrOk (dep i) p)
    (he : ∀ k, k < 2 → p k = S (kidsP n par i).length fun a => sf a * pr ((TT n par).kid i a) k) : P2 n par dep i (setN pr i p) (fun c => if par c = i then sf ((kidsP n par i).idxOf c) else wt c) := by
  refine ⟨fun j h1 h2 => ?_, fun j h1 h2 k hk hj => ?_, fun j h1 h2 h3 => ?_⟩
  · by_cases e : j = i
    · subst e; rw [setN_eq]; exact hp
    · rw [setN_ne e]; exact h.ok j (by omega) h2
  · by_cases e : j = i
    · subst e
      rw [setN_eq, he k hk]
      refine LP.S_congr fun a ha => ?_
      obtain ⟨x, y, z, l, d⟩ := sh.kid ha
      have ki : sf a = sf ((kidsP n par j).idxOf ((TT n par).kid j a)) := kid_idx (TT n par) j sf a ha
      rw [setN_ne (by omega), if_pos z, ← ki]
    · rw [setN_ne e, ← h.sum j (by omega) h2 k hk hj]
      refine LP.S_congr fun a ha => ?_
      obtain ⟨x, y, z, l, d⟩ := sh.kid ha
      rw [setN_ne (by omega), if_neg (by omega)]
  · by_cases e : par j = i
    · have hm : j ∈ kidsP n par i := by
        unfold kidsP
        rw [List.mem_filter, List.mem_range, decide_eq_true_eq]
        exact ⟨h2, h1, e⟩
      rw [if_pos e]
      have := (hs _ (List.idxOf_lt_length_of_mem hm)).lo
      grind
    · rw [if_neg e]; exact h.wp j h1 h2 (by omega)
theorem P2.fin {n : Nat} {par dep : Nat → Nat} {pr : Nat → Nat → Rat} {wt : Nat → Rat} (h : P2 n par dep 0 pr wt) (sh : Sh n par dep) (n12 : n ≤ 12) : Tr.Ok ⟨n, par, pr⟩ dep wt :=
  ⟨sh.n1, n12, sh.lt, sh.d0, sh.dS, sh.d3, sh.m4, fun j h1 h2 => h.wp j h1 h2 (Nat.zero_le _), fun i hi hm k hk => h.sum i (Nat.zero_le _) hi k hk hm, fun i hi => h.ok i (Nat.zero_le _) hi⟩
abbrev nmLT : List Str := ["draws", "names", "shape", "kids", "turn", "many", "up", "deep", "here", "prices", "node", "shares", "row", "k", "found", "j", "kid"]
section
variable {P : Program} {w : World} {K : PySem.W.Frag} {mg : Str → Option Value} {base : Heap}
theorem scLTree : FnScope nmLT ["draws", "names"] (defScope sLTree) := ⟨rfl, rfl, rfl, by decide +kernel, rfl, by decide +kernel, by decide +kernel⟩
theorem ok_lTree {f : Addr} {fd : FuncData} (F : Fun K "_law_tree" "_law_tree" sLTree f fd) (T : Txt K mg) (C1 : CTake P w K mg base) (C2' : CLow P w K mg base) (C3 : CLPlus P w K mg base) (C4 : CLTimes P w K mg base) : FnOk P w K mg base CX0 3 f fd ["draws", "names"] (spLTree K) := by
  refine F.ok scLTree (fun vs H Q E h => ?_) (fun cdv A outer s H vs Q E hr h => ?_)
  · obtain ⟨D, rfl, _⟩ := h
    rfl
  · obtain ⟨D, rfl, hD, k⟩ := h
    refine ⟨_, (pss_cons (ps_asg (pe_tup (pa_cons (pe_lst (pa_cons pe_non pa_nil)) (pa_cons (pe_lst (pa_cons (pe_lst pa_nil) pa_nil)) pa_nil))) (pg_tup rfl (pgs_cons (pg_name (i := 2) scLTree.nd rfl (Or.inr rfl)) (pgs_cons (pg_name (i := 3) scLTree.nd rfl (Or.inl rfl)) pgs_nil)))) (pss_cons (ps_for PassesOwn.never rfl (pi_range1 rfl T.range (pa_cons (pe_call C1.ok (hr.mono (by decide)) rfl C1.hm C1.kp C1.b .nil pass0 (pa_cons (pv 0) (pa_cons pe_int pa_nil))) pa_nil)) (pg_name (i := 4) scLTree.nd rfl (Or.inl rfl)) (pss_cons (ps_set (i := 5) scLTree.nd rfl (Or.inl rfl) (pe_callB (lenK K) (by rfl) T.len PySem.boot_len (pa_cons (pv 2) pa_nil))) (pss_cons (ps_set (i := 6) scLTree.nd rfl (Or.inl rfl) (pe_ifExp (pt_cmpR op_eq (pe_call C1.ok (hr.mono (by decide)) rfl C1.hm C1.kp C1.b .nil pass0 (pa_cons (pv 0) (pa_cons pe_int pa_nil))) pe_int (nomark _)) (pe_call C1.ok (hr.mono (by decide)) rfl C1.hm C1.kp C1.b .nil pass0 (pa_cons (pv 0) (pa_cons (pv 5) pa_nil))) (pe_callB (call_max2 rfl) (by rfl) T.max (by decide +kernel) (pa_cons pe_int (pa_cons (pe_op op_sub (pe_op op_sub (pv 5) pe_int) (pe_call C1.ok (hr.mono (by decide)) rfl C1.hm C1.kp C1.b .nil pass0 (pa_cons (pv 0) (pa_cons pe_int pa_nil)))) pa_nil))))) (pss_cons (ps_par (i := 7) (j := 8) rfl scLTree.nd rfl rfl (by decide) rfl rfl (pa_cons pe_int (pa_cons (pv 6) pa_nil)) rfl) (pss_cons (ps_while PassesOwn.never (pt_cmp (pc_notN (pe_ix (ixL K) (pv 2) (pv 8) (fun _ _ => rfl)))) (pss_one (ps_par (i := 8) (j := 7) rfl scLTree.nd rfl rfl (by decide) rfl rfl (pa_cons (pe_ix (ixL K) (pv 2) (pv 8) (fun _ _ => rfl)) (pa_cons (pe_op op_add (pv 7) pe_int) pa_nil)) rfl))) (pss_cons (ps_set (i := 6) scLTree.nd rfl (Or.inl rfl) (pe_ifExp (PW.pt (pw_and (pt_cmpR op_lt (pv 7) pe_int (nomark _)) (pw_and1 (pt_cmpR op_lt (pe_callB (lenK K) (by rfl) T.len PySem.boot_len (pa_cons (pe_ix (ixL K) (pv 3) (pv 6) (fun _ _ => rfl)) pa_nil)) pe_int (nomark _))))) (pv 6) pe_int)) (pss_one (ps_if (pt_cmpR op_lt (pe_callB (lenK K) (by rfl) T.len PySem.boot_len (pa_cons (pe_ix (ixL K) (pv 3) (pv 6) (fun _ _ => rfl)) pa_nil)) pe_int (nomark _)) (pss_cons (ps_expr (pe_bm PySem.F.plainAttrs_list PySem.F.slot_list_append PySem.F.type_list_append mt_append (pv 2) (pa_cons (pv 6) pa_nil))) (pss_cons (ps_expr (pe_bm PySem.F.plainAttrs_list PySem.F.slot_list_append PySem.F.type_list_append mt_append (pv 3) (pa_cons (pe_lst pa_nil) pa_nil))) (pss_one (ps_expr (pe_bm PySem.F.plainAttrs_list PySem.F.slot_list_append PySem.F.type_list_append mt_append (pe_ix (ixL K) (pv 3) (pv 6) (fun _ _ => rfl)) (pa_cons (pv 5) pa_nil)))))) pss_nil)))))))) (pss_cons (ps_set (i := 9) scLTree.nd rfl (Or.inr rfl) (pe_lc (own := [("node", 10)]) (g := gName 10) (tt := tYes) rfl scLTree.nd (listK K (pv 2)) (blkOk_by (N := nmLT) (by kernel_rfl)) (fun _ _ _ _ _ => (pg_name (i := 10) scLTree.nd rfl (Or.inl rfl))) (fun _ _ _ _ _ => pts_nil) (fun _ _ _ _ _ => pe_non))) (pss_cons (ps_for PassesOwn.never rfl (pi_range3 rfl T.range (pa_cons (pe_op op_sub (pe_callB (lenK K) (by rfl) T.len PySem.boot_len (pa_cons (pv 2) pa_nil)) pe_int) (pa_cons (pe_un un_neg pe_int) (pa_cons (pe_un un_neg pe_int) pa_nil)))) (pg_name (i := 10) scLTree.nd rfl (Or.inl rfl)) (pss_one (ps_if (pt_cmpR (eqK K hr.units) (pe_ix (ixL K) (pv 3) (pv 10) (fun _ _ => rfl)) (pe_lst pa_nil) (nomark _)) (pss_one (ps_asg (pe_callTy call_tuple_of (by rfl) T.tuple (by decide +kernel) (pa_cons (pe_lc (own := [("k", 13)]) (g := gName 13) (tt := tYes) rfl scLTree.nd (pi_range1 rfl T.range (pa_cons (pv 1) pa_nil)) (blkOk_by (N := nmLT) (by kernel_rfl)) (fun _ _ _ _ _ => (pg_name (i := 13) scLTree.nd rfl (Or.inl rfl))) (fun _ _ _ _ _ => pts_nil) (fun _ _ _ _ _ => (pe_call C2'.ok (hr.mono (by decide)) rfl C2'.hm C2'.kp C2'.b .nil pass0 (pa_cons (pe_op op_add (pe_ifExp (pt_cmpR op_eq (pv 13) pe_int (nomark _)) pe_int pe_int) (pe_call C1.ok (hr.mono (by decide)) rfl C1.hm C1.kp C1.b .nil pass0 (pa_cons (pv 0) (pa_cons (pe_ifExp (pt_cmpR op_eq (pv 13) pe_int (nomark _)) pe_int pe_int) pa_nil)))) (pa_cons (pe_op op_add pe_int (pe_call C1.ok (hr.mono (by decide)) rfl C1.hm C1.kp C1.b .nil pass0 (pa_cons (pv 0) (pa_cons pe_int pa_nil)))) pa_nil))))) pa_nil)) (pg_sub (pv 9) (pv 10) set_list))) (pss_cons (ps_setLc (i := 11) (own := [("kid", 16)]) (g := gName 16) (tt := tYes) rfl scLTree.nd rfl rfl (sw_true rfl rfl rfl rfl) (listK K (pe_ix (ixL K) (pv 3) (pv 10) (fun _ _ => rfl))) (blkOk_by (N := nmLT) (by kernel_rfl)) (fun _ _ _ _ _ => (pg_name (i := 16) scLTree.nd rfl (Or.inl rfl))) (fun _ _ _ _ _ => pts_nil) (fun _ _ _ _ _ => (pe_call C2'.ok (hr.mono (by decide)) rfl C2'.hm C2'.kp C2'.b .nil pass0 (pa_cons (pe_op op_add pe_int (pe_call C1.ok (hr.mono (by decide)) rfl C1.hm C1.kp C1.b .nil pass0 (pa_cons (pv 0) (pa_cons pe_int pa_nil)))) (pa_cons (pe_op op_add pe_int (pe_call C1.ok (hr.mono (by decide)) rfl C1.hm C1.kp C1.b .nil pass0 (pa_cons (pv 0) (pa_cons pe_int pa_nil)))) pa_nil))))) (pss_cons (ps_set (i := 12) scLTree.nd rfl (Or.inl rfl) (pe_lst pa_nil)) (pss_cons (ps_for PassesOwn.never rfl (pi_range1 rfl T.range (pa_cons (pv 1) pa_nil)) (pg_name (i := 13) scLTree.nd rfl (Or.inl rfl)) (pss_cons (ps_set (i := 14) scLTree.nd rfl (Or.inl rfl) (pe_tup (pa_cons pe_int (pa_cons pe_int pa_nil)))) (pss_cons (ps_for PassesOwn.never rfl (pi_range1 rfl T.range (pa_cons (pe_callB (lenK K) (by rfl) T.len PySem.boot_len (pa_cons (pv 11) pa_nil)) pa_nil)) (pg_name (i := 15) scLTree.nd rfl (Or.inl rfl)) (pss_one (ps_set (i := 14) scLTree.nd rfl (Or.inl rfl) (pe_call C3.ok (hr.mono (by decide)) rfl C3.hm C3.kp C3.b .nil pass0 (pa_cons (pv 14) (pa_cons (pe_call C4.ok (hr.mono (by decide)) rfl C4.hm C4.kp C4.b .nil pass0 (pa_cons (pe_ix (ixL K) (pv 11) (pv 15) (fun _ _ => rfl)) (pa_cons (pe_ix (ixT K) (pe_ix (ixL K) (pv 9) (pe_ix (ixL K) (pe_ix (ixL K) (pv 3) (pv 10) (fun _ _ => rfl)) (pv 15) (fun _ _ => rfl)) (fun _ _ => rfl)) (pv 13) (fun _ _ => rfl)) pa_nil))) pa_nil)))))) (pss_one (ps_expr (pe_bm PySem.F.plainAttrs_list PySem.F.slot_list_append PySem.F.type_list_append mt_append (pv 12) (pa_cons (pv 14) pa_nil))))))) (pss_one (ps_asg (pe_callTy call_tuple_of (by rfl) T.tuple (by decide +kernel) (pa_cons (pv 12) pa_nil)) (pg_sub (pv 9) (pv 10) set_list))))))))) (pss_one (ps_ret (pe_tup (pa_cons (pe_tup (pa_cons (pe_slice (slT K) (pe_tup (pa_cons pe_str (pa_cons pe_str (pa_cons pe_str pa_nil)))) po_none (po_some (pv 1))) (pa_cons (pe_callTy call_tuple_of (by rfl) T.tuple (by decide +kernel) (pa_cons (pe_lc (own := [("node", 10)]) (g := gName 10) (tt := tYes) rfl scLTree.nd (pi_range1 rfl T.range (pa_cons (pe_callB (lenK K) (by rfl) T.len PySem.boot_len (pa_cons (pv 2) pa_nil)) pa_nil)) (blkOk_by (N := nmLT) (by kernel_rfl)) (fun _ _ _ _ _ => (pg_name (i := 10) scLTree.nd rfl (Or.inl rfl))) (fun _ _ _ _ _ => pts_nil) (fun _ _ _ _ _ => (pe_tup (pa_cons (pe_ix (ixL K) (pv 2) (pv 10) (fun _ _ => rfl)) (pa_cons (pe_ix (ixL K) (pv 9) (pv 10) (fun _ _ => rfl)) pa_nil))))) pa_nil)) pa_nil))) (pa_cons (pv 3) pa_nil))))))))), ?_⟩
    refine ⟨(show 1 ≤ sizeLine by decide), fun Sa hS => ⟨(show 0 ≤ sizeLine by decide), fun k0 h0 => ⟨(show 1 ≤ sizeLine by decide), fun Kd hK => ⟨(show 2 ≤ sizeLine by decide), fun p hp => ?_⟩⟩⟩⟩
    refine ⟨p, _, rfl, SqT.of upd_same, rfl, _, _, rfl, _, _, rfl, rfl, ?_⟩
    have ph0 : Ph H (upd (upd (upd (upd H Sa (.lst [.non])) k0 (.lst [])) Kd (.lst [.ref k0])) p (.tup [.ref Sa, .ref Kd])) D Sa Kd 1 (fun _ => 0) (fun _ => k0) := by
      obtain ⟨a1, a2⟩ := none_upd h0
      obtain ⟨b1, b2⟩ := none_upd hK
      obtain ⟨b3, b4⟩ := none_upd b2
      obtain ⟨c1, c2⟩ := none_upd hp
      obtain ⟨c3, c4⟩ := none_upd c2
      obtain ⟨c5, c6⟩ := none_upd c4
      refine ⟨gw_updN (gw_updN (gw_updN (gw_updN (Gw.refl _) hS) a2) b4) c6, draws_upd (draws_upd (draws_upd (draws_upd hD (draws_ne hD hS)) (draws_ne hD a2)) (draws_ne hD b4)) (draws_ne hD c6), ?_, ?_, fun j hj => ?_, hS, b4, fun _ _ => a2, Ne.symm b3, fun _ _ => a1, fun _ _ => Ne.symm b1, fun j j' h1 h2 _ => by omega⟩
      · rw [upd_ne (Ne.symm c5), upd_ne (Ne.symm b3), upd_ne (Ne.symm a1), upd_same]; rfl
      · rw [upd_ne (Ne.symm c1), upd_same]; rfl
      · have : j = 0 := by omega
        subst this
        rw [upd_ne (Ne.symm c3), upd_ne (Ne.symm b1), upd_same]; rfl
    generalize upd (upd (upd (upd H Sa (.lst [.non])) k0 (.lst [])) Kd (.lst [.ref k0])) p (.tup [.ref Sa, .ref Kd]) = Hz at ph0 ⊢
    refine ⟨_, rfl, D, 12, rfl, by decide, ph0.d, fun v1 H1 a0 a1 g1 d1 => ?_⟩
    obtain ⟨tn, rfl⟩ : ∃ tn : Nat, v1 = (tn : Int) := ⟨v1.toNat, by omega⟩
    refine ⟨_, rfl, by omega, by omega, ?_⟩
    refine for_it (walk_rangeN (N := tn) (by omega)) (fun tr σ H' => (∃ u4 u5 u6 u7 u8, σ = [some (.ref D), some (.int 2), some (.ref Sa), some (.ref Kd), u4, u5, u6, u7, u8, none, none, none, none, none, none, none, none]) ∧ ∃ n par dep ks, n ≤ tr + 1 ∧ Sh n par dep ∧ Ph H H' D Sa Kd n par ks)
      ⟨⟨_, _, _, _, _, rfl⟩, 1, _, _, _, Nat.le_refl _, Sh.init, ph0.take hD g1 d1⟩ (fun _ _ _ _ _ => True.intro) ?_ ?_
    · rintro tr y σ H2' H2 htr ⟨⟨u4, u5, u6, u7, u8, rfl⟩, n, par, dep, ks, hn, sh, ph⟩ ⟨rfl, rfl⟩
      have n1 := sh.n1
      have lsh : ((List.range n).map (parF par)).length = n := by rw [List.length_map, List.length_range]
      refine ⟨_, rfl, Sa, _, rfl, .inl (SqL.of ph.sh), ?_⟩
      rw [lsh]
      have shg : ∀ {x : Nat}, x < n → ((List.range n).map (parF par))[x]? = some (parF par x) := fun hx => by rw [List.getElem?_map, List.getElem?_range hx]; rfl
      have kdg : ∀ {x : Nat}, x < n → ((List.range n).map fun j => V.ref (ks j))[x]? = some (V.ref (ks x)) := fun hx => by rw [List.getElem?_map, List.getElem?_range hx]; rfl
      refine ⟨_, rfl, D, 2, rfl, by decide, ph.d, fun v3 H3 b0 b1 g3 d3 => ⟨rfl, _, rfl, ?_⟩⟩
      have ph3 := ph.take hD g3 d3
      by_cases hv : v3 = 0
      case' pos =>
        rw [decide_eq_true (show V.int v3 = V.int 0 by rw [hv])]
        refine iteT ⟨_, rfl, _, rfl, D, _, rfl, by omega, ph3.d, fun v5 H5 c0 c1 g5 d5 => ?_⟩
        obtain ⟨u, rfl⟩ : ∃ u : Nat, v5 = (u : Int) := ⟨v5.toNat, by omega⟩
        have hu : u < n := by omega
        have ph5 := ph3.take hD g5 d5
      case' neg =>
        rw [decide_eq_false (show ¬ V.int v3 = V.int 0 from fun z => hv (V.int.inj z))]
        refine iteF ⟨_, rfl, _, _, rfl, rfl, _, rfl, D, 3, rfl, by decide, ph3.d, fun v5 H5 c0 c1 g5 d5 => ⟨_, _, rfl, rfl, _, _, rfl, ?_⟩⟩
        obtain ⟨u, eu, hu⟩ : ∃ u : Nat, (if ((n : Nat) : Int) - 1 - v5 > 0 then ((n : Nat) : Int) - 1 - v5 else 0) = (u : Int) ∧ u < n := by
          by_cases c : ((n : Nat) : Int) - 1 - v5 > 0
          · rw [if_pos c]; exact ⟨(((n : Nat) : Int) - 1 - v5).toNat, by omega, by omega⟩
          · rw [if_neg c]; exact ⟨0, rfl, by omega⟩
        rw [eu]
        have ph5 := ph3.take hD g5 d5
      all_goals
        have n12 : n ≤ 12 := by omega
        have dm := sh.d3 u hu
        refine ⟨_, rfl, _, _, rfl, ?_⟩
        refine ⟨fun m σ H' => H' = H5 ∧ ∃ s, s ≤ dep u ∧ m = dep u - s ∧ σ = [some (.ref D), some (.int 2), some (.ref Sa), some (.ref Kd), some (.int (tr : Nat)), some (.int (n : Nat)), some (.int (u : Nat)), some (.int (s : Nat)), some (.int (upS par u s : Nat)), none, none, none, none, none, none, none, none], ⟨dep u, rfl, 0, Nat.zero_le _, rfl, rfl⟩, ?_⟩
        rintro m σ H6 ⟨rfl, s, hs, rfl, rfl⟩
        obtain ⟨un, ud⟩ := sh.up hu s hs
        refine ⟨_, rfl, _, rfl, _, _, _, _, rfl, rfl, SqL.of ph5.sh, at_of rfl (shg un), _, rfl, ?_⟩
        by_cases hz : upS par u s = 0
        · rw [show parF par (upS par u s) = V.non from if_pos hz]
          have hd0 : dep u - s = 0 := by rw [← ud, hz]; exact sh.d0
          have es : s = dep u := by omega
          subst es
          refine iteF ⟨_, rfl, _, _, rfl, rfl, _, rfl, ?_⟩
          have h0n : 0 < n := by omega
          by_cases c1 : dep u < 3
          · rw [decide_eq_true (show ((dep u : Nat) : Int) < 3 by omega)]
            refine iteT ⟨_, rfl, _, rfl, _, _, _, _, rfl, rfl, SqL.of ph5.kd, at_of rfl (kdg hu), ks u, _, rfl, .inl (SqL.of (ph5.kl u hu)), _, _, rfl, rfl, _, rfl, ?_⟩
            rw [List.length_map]
            by_cases c2 : (kidsP n par u).length < 4
            · rw [decide_eq_true (show (((kidsP n par u).length : Nat) : Int) < 4 by omega)]
              refine iteT ⟨_, rfl, ?_⟩
              refine ⟨_, rfl, _, rfl, _, _, _, _, rfl, rfl, SqL.of ph5.kd, at_of rfl (kdg hu), ks u, _, rfl, .inl (SqL.of (ph5.kl u hu)), _, _, rfl, rfl, _, rfl, ?_⟩
              rw [List.length_map]
              by_cases c3 : (kidsP n par u).length < 4
              · rw [decide_eq_true (show (((kidsP n par u).length : Nat) : Int) < 4 by omega)]
                refine iteT ⟨_, rfl, .inl ⟨rfl, _, SqL.of ph5.sh⟩, _, rfl, Sa, _, _, rfl, rfl, ph5.sh, small1000 (by rw [List.length_map, List.length_range]; omega), ?_⟩
                have kd1 : upd H6 Sa (.lst ((List.range n).map (parF par) ++ [V.int ((u : Nat) : Int)])) Kd = some (.lst ((List.range n).map fun j => V.ref (ks j))) := by rw [upd_ne (Ne.symm ph5.s1)]; exact ph5.kd
                refine ⟨_, rfl, .inl ⟨rfl, _, SqL.of kd1⟩, (show 0 ≤ sizeLine by decide), fun p hp => ?_⟩
                have pK : p ≠ Kd := fun z => by rw [z, kd1] at hp; cases hp
                have kd2 : upd (upd H6 Sa (.lst ((List.range n).map (parF par) ++ [V.int ((u : Nat) : Int)]))) p (.lst []) Kd = some (.lst ((List.range n).map fun j => V.ref (ks j))) := by rw [upd_ne (Ne.symm pK)]; exact kd1
                refine ⟨Kd, _, _, rfl, rfl, kd2, small1000 (by rw [List.length_map, List.length_range]; omega), ?_⟩
                have pk : ks u ≠ p := fun z => by
                  have := (none_upd hp).2
                  rw [← z, ph5.kl u hu] at this; cases this
                have kl3 : upd (upd (upd H6 Sa (.lst ((List.range n).map (parF par) ++ [V.int ((u : Nat) : Int)]))) p (.lst [])) Kd (.lst (((List.range n).map fun j => V.ref (ks j)) ++ [V.ref p])) (ks u) = some (.lst ((kidsP n par u).map natV)) := by
                  rw [upd_ne (ph5.s3 u hu), upd_ne pk, upd_ne (ph5.s2 u hu)]; exact ph5.kl u hu
                have kat : (((List.range n).map fun j => V.ref (ks j)) ++ [V.ref p])[u]? = some (V.ref (ks u)) := by rw [List.getElem?_append_left (by rw [List.length_map, List.length_range]; exact hu)]; exact kdg hu
                refine ⟨_, rfl, _, rfl, _, _, _, _, rfl, rfl, SqL.of upd_same, at_of rfl kat, .inl ⟨rfl, _, SqL.of kl3⟩, _, rfl, ks u, _, _, rfl, rfl, kl3, small1000 (by rw [List.length_map]; omega), ?_⟩
                exact ⟨⟨_, _, _, _, _, rfl⟩, n + 1, _, _, _, by omega, sh.grow hu (by omega) c3, ph5.app hD (by omega) hu sh.kz hp⟩
              · rw [decide_eq_false (show ¬ (((kidsP n par u).length : Nat) : Int) < 4 by omega)]
                exact iteF ⟨⟨_, _, _, _, _, rfl⟩, n, par, dep, ks, by omega, sh, ph5⟩
            · rw [decide_eq_false (show ¬ (((kidsP n par u).length : Nat) : Int) < 4 by omega)]
              refine iteF ?_
              have dz : dep 0 ≤ 2 := by rw [sh.d0]; decide
              refine ⟨_, rfl, _, rfl, _, _, _, _, rfl, rfl, SqL.of ph5.kd, at_of rfl (kdg h0n), ks 0, _, rfl, .inl (SqL.of (ph5.kl 0 h0n)), _, _, rfl, rfl, _, rfl, ?_⟩
              rw [List.length_map]
              by_cases c3 : (kidsP n par 0).length < 4
              · rw [decide_eq_true (show (((kidsP n par 0).length : Nat) : Int) < 4 by omega)]
                refine iteT ⟨_, rfl, .inl ⟨rfl, _, SqL.of ph5.sh⟩, _, rfl, Sa, _, _, rfl, rfl, ph5.sh, small1000 (by rw [List.length_map, List.length_range]; omega), ?_⟩
                have kd1 : upd H6 Sa (.lst ((List.range n).map (parF par) ++ [V.int 0])) Kd = some (.lst ((List.range n).map fun j => V.ref (ks j))) := by rw [upd_ne (Ne.symm ph5.s1)]; exact ph5.kd
                refine ⟨_, rfl, .inl ⟨rfl, _, SqL.of kd1⟩, (show 0 ≤ sizeLine by decide), fun p hp => ?_⟩
                have pK : p ≠ Kd := fun z => by rw [z, kd1] at hp; cases hp
                have kd2 : upd (upd H6 Sa (.lst ((List.range n).map (parF par) ++ [V.int 0]))) p (.lst []) Kd = some (.lst ((List.range n).map fun j => V.ref (ks j))) := by rw [upd_ne (Ne.symm pK)]; exact kd1
                refine ⟨Kd, _, _, rfl, rfl, kd2, small1000 (by rw [List.length_map, List.length_range]; omega), ?_⟩
                have pk : ks 0 ≠ p := fun z => by
                  have := (none_upd hp).2
                  rw [← z, ph5.kl 0 h0n] at this; cases this
                have kl3 : upd (upd (upd H6 Sa (.lst ((List.range n).map (parF par) ++ [V.int 0]))) p (.lst [])) Kd (.lst (((List.range n).map fun j => V.ref (ks j)) ++ [V.ref p])) (ks 0) = some (.lst ((kidsP n par 0).map natV)) := by
                  rw [upd_ne (ph5.s3 0 h0n), upd_ne pk, upd_ne (ph5.s2 0 h0n)]; exact ph5.kl 0 h0n
                have kat : (((List.range n).map fun j => V.ref (ks j)) ++ [V.ref p])[0]? = some (V.ref (ks 0)) := by rw [List.getElem?_append_left (by rw [List.length_map, List.length_range]; exact h0n)]; exact kdg h0n
                refine ⟨_, rfl, _, rfl, _, _, _, _, rfl, rfl, SqL.of upd_same, at_of rfl kat, .inl ⟨rfl, _, SqL.of kl3⟩, _, rfl, ks 0, _, _, rfl, rfl, kl3, small1000 (by rw [List.length_map]; omega), ?_⟩
                exact ⟨⟨_, _, _, _, _, rfl⟩, n + 1, _, _, _, by omega, sh.grow h0n (by omega) c3, ph5.app hD (by omega) h0n sh.kz hp⟩
              · rw [decide_eq_false (show ¬ (((kidsP n par 0).length : Nat) : Int) < 4 by omega)]
                exact iteF ⟨⟨_, _, _, _, _, rfl⟩, n, par, dep, ks, by omega, sh, ph5⟩
          · rw [decide_eq_false (show ¬ ((dep u : Nat) : Int) < 3 by omega)]
            refine iteF (iteF ?_)
            have dz : dep 0 ≤ 2 := by rw [sh.d0]; decide
            refine ⟨_, rfl, _, rfl, _, _, _, _, rfl, rfl, SqL.of ph5.kd, at_of rfl (kdg h0n), ks 0, _, rfl, .inl (SqL.of (ph5.kl 0 h0n)), _, _, rfl, rfl, _, rfl, ?_⟩
            rw [List.length_map]
            by_cases c3 : (kidsP n par 0).length < 4
            · rw [decide_eq_true (show (((kidsP n par 0).length : Nat) : Int) < 4 by omega)]
              refine iteT ⟨_, rfl, .inl ⟨rfl, _, SqL.of ph5.sh⟩, _, rfl, Sa, _, _, rfl, rfl, ph5.sh, small1000 (by rw [List.length_map, List.length_range]; omega), ?_⟩
              have kd1 : upd H6 Sa (.lst ((List.range n).map (parF par) ++ [V.int 0])) Kd = some (.lst ((List.range n).map fun j => V.ref (ks j))) := by rw [upd_ne (Ne.symm ph5.s1)]; exact ph5.kd
              refine ⟨_, rfl, .inl ⟨rfl, _, SqL.of kd1⟩, (show 0 ≤ sizeLine by decide), fun p hp => ?_⟩
              have pK : p ≠ Kd := fun z => by rw [z, kd1] at hp; cases hp
              have kd2 : upd (upd H6 Sa (.lst ((List.range n).map (parF par) ++ [V.int 0]))) p (.lst []) Kd = some (.lst ((List.range n).map fun j => V.ref (ks j))) := by rw [upd_ne (Ne.symm pK)]; exact kd1
              refine ⟨Kd, _, _, rfl, rfl, kd2, small1000 (by rw [List.length_map, List.length_range]; omega), ?_⟩
              have pk : ks 0 ≠ p := fun z => by
                have := (none_upd hp).2
                rw [← z, ph5.kl 0 h0n] at this; cases this
              have kl3 : upd (upd (upd H6 Sa (.lst ((List.range n).map (parF par) ++ [V.int 0]))) p (.lst [])) Kd (.lst (((List.range n).map fun j => V.ref (ks j)) ++ [V.ref p])) (ks 0) = some (.lst ((kidsP n par 0).map natV)) := by
                rw [upd_ne (ph5.s3 0 h0n), upd_ne pk, upd_ne (ph5.s2 0 h0n)]; exact ph5.kl 0 h0n
              have kat : (((List.range n).map fun j => V.ref (ks j)) ++ [V.ref p])[0]? = some (V.ref (ks 0)) := by rw [List.getElem?_append_left (by rw [List.length_map, List.length_range]; exact h0n)]; exact kdg h0n
              refine ⟨_, rfl, _, rfl, _, _, _, _, rfl, rfl, SqL.of upd_same, at_of rfl kat, .inl ⟨rfl, _, SqL.of kl3⟩, _, rfl, ks 0, _, _, rfl, rfl, kl3, small1000 (by rw [List.length_map]; omega), ?_⟩
              exact ⟨⟨_, _, _, _, _, rfl⟩, n + 1, _, _, _, by omega, sh.grow h0n (by omega) c3, ph5.app hD (by omega) h0n sh.kz hp⟩
            · rw [decide_eq_false (show ¬ (((kidsP n par 0).length : Nat) : Int) < 4 by omega)]
              exact iteF ⟨⟨_, _, _, _, _, rfl⟩, n, par, dep, ks, by omega, sh, ph5⟩
        · rw [show parF par (upS par u s) = V.int (par (upS par u s) : Nat) from if_neg hz]
          have hlt : s < dep u := by
            rcases Nat.lt_or_ge s (dep u) with h | h
            · exact h
            · exact absurd ((sh.zero un).mp (by omega)) hz
          refine iteT ⟨fun σ' H' => ∃ m', m' < dep u - s ∧ (H' = H6 ∧ ∃ s, s ≤ dep u ∧ m' = dep u - s ∧ σ' = [some (.ref D), some (.int 2), some (.ref Sa), some (.ref Kd), some (.int (tr : Nat)), some (.int (n : Nat)), some (.int (u : Nat)), some (.int (s : Nat)), some (.int (upS par u s : Nat)), none, none, none, none, none, none, none, none]), fun _ _ h => h, ?_⟩
          refine ⟨_, rfl, _, rfl, _, _, _, _, rfl, rfl, SqL.of ph5.sh, at_of rfl (shg un), _, rfl, _, _, rfl, rfl, _, _, rfl, dep u - (s + 1), by omega, rfl, s + 1, by omega, rfl, ?_⟩
          rw [show parF par (upS par u s) = V.int (par (upS par u s) : Nat) from if_neg hz]
          rfl
    · rintro σ H2 ⟨⟨u4, u5, u6, u7, u8, rfl⟩, n, par, dep, ks, hn, sh, ph⟩
      have n12 : n ≤ 12 := by omega
      have n1 := sh.n1
      have lsh : ((List.range n).map (parF par)).length = n := by rw [List.length_map, List.length_range]
      have shg : ∀ {x : Nat}, x < n → ((List.range n).map (parF par))[x]? = some (parF par x) := fun hx => by rw [List.getElem?_map, List.getElem?_range hx]; rfl
      have kdg : ∀ {x : Nat}, x < n → ((List.range n).map fun j => V.ref (ks j))[x]? = some (V.ref (ks x)) := fun hx => by rw [List.getElem?_map, List.getElem?_range hx]; rfl
      refine ⟨_, rfl, Sa, rfl, ⟨_, SqL.of ph.sh⟩, fun Pr hPr => ?_⟩
      have neP : Pr ≠ D := draws_ne ph.d hPr
      refine lc_grow (walk_listY (K := K) (a := Sa) (xs := (List.range n).map (parF par)) (n := n) lsh) hPr (by omega) (fun j v H => v = .non) (fun _ _ _ _ _ r => r) (fun H' g => SqL.of (g.at ph.sh)) (fun j y H2' H2 hj _ g2 _ hY C9 hC9 => ?_) (fun H3 ps0 _ g3 hps0 lps0 _ => ?_)
      · obtain ⟨rfl, _⟩ := hY
        exact ⟨rfl, hC9 _ _ (Gw.refl _) rfl⟩
      have d3 : Draws H3 D := ph.d.gw (g3.trans Gw.rm_le)
      have gB0 : Gw (rm H2 D) (R2 H3 D Pr) := by
        show Gw (rm H2 D) (rm (rm H3 D) Pr)
        rw [rm_comm]; exact g3.rm
      have stat : ∀ {H' : Hp} {a : Addr} {xs : List V}, Gw (rm H2 D) (R2 H' D Pr) → a ≠ D → H2 a = some (.lst xs) → H' a = some (.lst xs) := @fun H' a xs g ne h => by
        have h' : rm H2 D a = some (HO.lst xs) := by rw [rm_ne ne]; exact h
        exact Gw.r2_le.at (g.at h')
      have SD := draws_ne hD ph.nS
      have KD := draws_ne hD ph.nK
      refine ⟨_, rfl, Sa, _, rfl, .inl (SqL.of (stat gB0 SD ph.sh)), _, _, rfl, rfl, 1, rfl, 1, rfl, ?_⟩
      rw [lsh]
      refine ⟨_, _, _, n, rfl, rg_down (by omega), ?_⟩
      refine for_it walk_down (fun s σ H' => (∃ u10 u11 u12 u13 u14 u15, σ = [some (.ref D), some (.int 2), some (.ref Sa), some (.ref Kd), u4, u5, u6, u7, u8, some (.ref Pr), u10, u11, u12, u13, u14, u15, none]) ∧ ∃ pr wt, P2 n par dep (n - s) pr wt ∧ Gw (rm H2 D) (R2 H' D Pr) ∧ Draws H' D ∧ ∃ ps, H' Pr = some (.lst ps) ∧ ps.length = n ∧ ∀ j, n - s ≤ j → j < n → ∃ x, ps[j]? = some x ∧ VT K (R2 H' D Pr) x 2 (pr j))
        ⟨⟨_, _, _, _, _, _, rfl⟩, fun _ _ => 0, fun _ => 0, ⟨fun j h1 h2 => by omega, fun j h1 h2 => by omega, fun j h1 h2 h3 => by have := sh.lt j h1 h2; omega⟩, gB0, d3, ps0, hps0, lps0, fun j h1 h2 => by omega⟩ (fun _ _ _ _ _ => True.intro) ?_ ?_
      · rintro s y σ H4' H4 hs ⟨⟨u10, u11, u12, u13, u14, u15, rfl⟩, pr, wt, p2, gB, d4, ps, q1, q2, q3⟩ ⟨rfl, rfl⟩
        dsimp only
        have hi : n - 1 - s < n := by omega
        have e1 : n - 1 - s + 1 = n - s := by omega
        have e2 : n - (s + 1) = n - 1 - s := by omega
        rw [e2]
        generalize n - 1 - s = i at hi e1
        rw [← e1] at p2 q3
        have kiD := draws_ne hD (ph.nk i hi)
        have kd4 := stat gB KD ph.kd
        have kl4 := stat gB kiD (ph.kl i hi)
        have m4 := sh.m4 i
        have di := sh.d3 i hi
        -- the end of a turn
        have fin : ∀ (H9 : Hp) (l : Addr) (p : Nat → Rat) (wt' : Nat → Rat), Gw (rm H4 D) (rm H9 D) → Draws H9 D → VT K H9 (.ref l) 2 p → P2 n par dep i (setN pr i p) wt' →
            H9 Pr = some (.lst ps) ∧ (∃ pr wt, P2 n par dep i pr wt ∧ Gw (rm H2 D) (R2 (upd H9 Pr (.lst (ps.set i (.ref l)))) D Pr) ∧ Draws (upd H9 Pr (.lst (ps.set i (.ref l)))) D ∧ ∃ ps', upd H9 Pr (.lst (ps.set i (.ref l))) Pr = some (.lst ps') ∧ ps'.length = n ∧ ∀ j, i ≤ j → j < n → ∃ x, ps'[j]? = some x ∧ VT K (R2 (upd H9 Pr (.lst (ps.set i (.ref l)))) D Pr) x 2 (pr j)) := fun H9 l p wt' g9 d9 v9 p9 => by
          have hP : rm H9 D Pr = some (.lst ps) := g9.at (by rw [rm_ne neP]; exact q1)
          have er : R2 (upd H9 Pr (.lst (ps.set i (.ref l)))) D Pr = R2 H9 D Pr := r2_updB (Ne.symm neP)
          refine ⟨(rm_some hP).2, setN pr i p, wt', p9, ?_, draws_upd d9 neP, _, upd_same, by rw [List.length_set]; exact q2, fun j h1 h2 => ?_⟩
          · rw [er]; exact gB.trans g9.rm
          · rw [er]
            by_cases e : j = i
            · subst e
              obtain ⟨ns, en⟩ := d9
              exact ⟨.ref l, by rw [List.getElem?_set_self (by omega)], by rw [setN_eq]; exact (v9.rmD en).rmD hP⟩
            · obtain ⟨x, e1, e2⟩ := q3 j (by omega) h2
              exact ⟨x, by rw [List.getElem?_set_ne (by omega)]; exact e1, by rw [setN_ne e]; exact e2.gw g9.rm⟩
        refine ⟨_, rfl, _, rfl, _, _, _, _, rfl, rfl, SqL.of kd4, at_of rfl (kdg hi), (show 0 ≤ sizeLine by decide), fun l3 hl3 => ?_⟩
        have g5 := Gw.new (.lst []) hl3
        refine ⟨_, _, .lst (SqL.of (g5.at kl4)) (nats_dp _), .lst (SqL.of upd_same) .nil, nats_shaped _, rfl, _, rfl, ?_⟩
        rw [nats_nil]
        have d5 := d4.gw g5
        generalize upd H4 l3 (.lst []) = H5 at g5 d5 ⊢
        by_cases hm : (kidsP n par i).length = 0
        · rw [decide_eq_true hm]
          refine iteT ⟨_, rfl, _, rfl, by decide, by decide, fun Lk hLk => ?_⟩
          refine lc_growD (walk_rangeN (N := 2) rfl) hLk d5 (by decide) (fun k v H => ∃ q, PAt K H v q ∧ LP.IsI (2 * q) ∧ (k = 0 → 1 / 2 ≤ q ∧ q ≤ 5) ∧ (k = 1 → 0 ≤ q ∧ q ≤ 11)) (fun _ _ _ _ g ⟨q, a, b⟩ => ⟨q, a.gw g, b⟩) (fun _ _ => True.intro) (fun k y H6' H6 hk g6 d6 ⟨ws, hw⟩ hY C9 hC9 => ?_) (fun H6 zs g6 d6 hzs neL lz iz => ?_)
          · obtain ⟨rfl, rfl⟩ := hY
            have neL := draws_ne d5 hLk
            have en : ∀ (a b lo : Int) (v : V) (H8 : Hp) (H7 : Hp), Gw (rm H6 D) (rm H7 D) → Draws H7 D → Gw H7 H8 → PAt K H8 v (Rat.divInt a b) → LP.IsI (2 * Rat.divInt a b) → (k = 0 → 1 / 2 ≤ Rat.divInt a b ∧ Rat.divInt a b ≤ 5) → (k = 1 → 0 ≤ Rat.divInt a b ∧ Rat.divInt a b ≤ 11) → C9 v H8 := fun a b lo v H8 H7 g7 d7 g8 r8 i1 i2 i3 => by
              have g68 := g7.trans g8.rm
              have hL8 : rm H8 D Lk = some (.lst ws) := g68.at (by rw [rm_ne neL]; exact hw)
              obtain ⟨ns, e⟩ := d7.gw g8
              exact hC9 v H8 g68 ⟨ns, e⟩ ⟨_, (PAt.rm r8 e).rm hL8, i1, i2, i3⟩
            have k2 : k = 0 ∨ k = 1 := by omega
            rcases k2 with rfl | rfl
            · have c0 : decide (V.int (((0 : Nat) : Nat) : Int) = V.int 0) = true := by decide +kernel
              refine ⟨rfl, _, rfl, rfl, _, rfl, ?_⟩
              rw [c0]
              refine iteT ⟨_, rfl, _, rfl, rfl, _, rfl, ?_⟩
              rw [c0]
              refine iteT ⟨D, 5, rfl, by decide, d6, fun a Ha a0 a1 ga da => ⟨_, _, rfl, rfl, _, rfl, D, 2, rfl, by decide, da, fun b Hb b0 b1 gb db => ⟨_, _, rfl, rfl, ?_⟩⟩⟩
              obtain ⟨i1, i2, i3, _⟩ := small_q (n := 1 + a) (d := 1 + b) (B := 5) (N := 5) (by omega) (by omega) (by omega) (by omega) (by decide)
              refine ⟨_, _, rfl, by omega, Nat.lt_of_le_of_lt (show (1 + b).natAbs ≤ 4 by omega) (Nat.lt_of_lt_of_le (show 4 < 2 ^ 10 by decide) (Nat.pow_le_pow_right (by decide) (by decide))), small_fit i1 i2 (by decide +kernel), fun v H8 g8 r8 => en _ _ 0 v H8 Hb (ga.trans gb) db g8 r8 (i3 (by omega)) (fun _ => ⟨?_, i2.2⟩) (fun z => by omega)⟩
              have e : Rat.divInt (1 + a) (1 + b) = ((1 + a : Int) : Rat) / ((1 + b : Int) : Rat) := Rat.divInt_eq_div _ _
              rw [e]
              have ra : ((1 : Int) : Rat) ≤ ((1 + a : Int) : Rat) := Rat.intCast_le_intCast.mpr (by omega)
              have b2 : 1 + b = 1 ∨ 1 + b = 2 := by omega
              rw [show ((1 : Int) : Rat) = 1 from rfl] at ra
              rcases b2 with z | z
              · rw [z, show ((1 : Int) : Rat) = 1 from rfl]; grind
              · rw [z, show ((2 : Int) : Rat) = 2 from rfl]; grind
            · have c0 : decide (V.int (((1 : Nat) : Nat) : Int) = V.int 0) = false := by decide +kernel
              refine ⟨rfl, _, rfl, rfl, _, rfl, ?_⟩
              rw [c0]
              refine iteF ⟨_, rfl, _, rfl, rfl, _, rfl, ?_⟩
              rw [c0]
              refine iteF ⟨D, 12, rfl, by decide, d6, fun a Ha a0 a1 ga da => ⟨_, _, rfl, rfl, _, rfl, D, 2, rfl, by decide, da, fun b Hb b0 b1 gb db => ⟨_, _, rfl, rfl, ?_⟩⟩⟩
              obtain ⟨i1, i2, i3, _⟩ := small_q (n := 0 + a) (d := 1 + b) (B := 11) (N := 11) (by omega) (by omega) (by omega) (by omega) (by decide)
              refine ⟨_, _, rfl, by omega, Nat.lt_of_le_of_lt (show (1 + b).natAbs ≤ 4 by omega) (Nat.lt_of_lt_of_le (show 4 < 2 ^ 10 by decide) (Nat.pow_le_pow_right (by decide) (by decide))), small_fit i1 i2 (by decide +kernel), fun v H8 g8 r8 => en _ _ 0 v H8 Hb (ga.trans gb) db g8 r8 (i3 (by omega)) (fun z => by omega) (fun _ => ⟨?_, i2.2⟩)⟩
              have e : Rat.divInt (0 + a) (1 + b) = ((0 + a : Int) : Rat) / ((1 + b : Int) : Rat) := Rat.divInt_eq_div _ _
              rw [e]
              have ra : ((0 : Int) : Rat) ≤ ((0 + a : Int) : Rat) := Rat.intCast_le_intCast.mpr (by omega)
              have b2 : 1 + b = 1 ∨ 1 + b = 2 := by omega
              rw [show ((0 : Int) : Rat) = 0 from rfl] at ra
              rcases b2 with z | z
              · rw [z, show ((1 : Int) : Rat) = 1 from rfl]; grind
              · rw [z, show ((2 : Int) : Rat) = 2 from rfl]; grind
          · obtain ⟨x0, ex0, qa, pa, ia, la, _⟩ := iz 0 (by omega)
            obtain ⟨x1, ex1, qb, pb, ib, _, lb⟩ := iz 1 (by omega)
            refine ⟨Lk, zs, rfl, .inl ⟨SqL.of hzs, fun l hl => ?_⟩⟩
            have gl := Gw.new (.tup zs) hl
            have g49 : Gw (rm H4 D) (rm (upd H6 l (.tup zs)) D) := g5.rm.trans (g6.trans gl.rm)
            have vl : VT K (upd H6 l (.tup zs)) (.ref l) 2 (fun k => if k = 0 then qa else qb) := ⟨l, zs, rfl, SqT.of upd_same, lz, fun k hk => by
              have k2 : k = 0 ∨ k = 1 := by omega
              rcases k2 with rfl | rfl
              · exact ⟨x0, ex0, ((pa.gw Gw.rm_le).gw Gw.rm_le).gw gl⟩
              · exact ⟨x1, ex1, ((pb.gw Gw.rm_le).gw Gw.rm_le).gw gl⟩⟩
            obtain ⟨f1, f2⟩ := fin _ l _ wt g49 (d6.gw gl) vl (p2.leaf sh hi hm (leaf_ok di (la rfl).1 (la rfl).2 (lb rfl).1 (lb rfl).2 fun k hk => by
              have k2 : k = 0 ∨ k = 1 := by omega
              rcases k2 with rfl | rfl
              · exact ia
              · exact ib))
            exact ⟨_, rfl, _, rfl, Pr, ps, _, i, rfl, rfl, f1, by rw [q2]; exact ixNat hi, ⟨_, _, _, _, _, _, rfl⟩, f2⟩
        · rw [decide_eq_false hm]
          have hm0 : 0 < (kidsP n par i).length := by omega
          have di2 : dep i ≤ 2 := by
            obtain ⟨a, _, _, _, d⟩ := sh.kid hm0
            have := sh.d3 _ a
            omega
          have lk : ((kidsP n par i).map natV).length = (kidsP n par i).length := List.length_map ..
          refine iteF ⟨_, rfl, _, rfl, _, _, _, _, rfl, rfl, SqL.of (g5.at kd4), at_of rfl (kdg hi), ks i, rfl, ⟨_, SqL.of (g5.at kl4)⟩, fun Ls hLs => ?_⟩
          refine lc_growD (walk_listY (K := K) (a := ks i) (xs := (kidsP n par i).map natV) (n := (kidsP n par i).length) lk) hLs d5 (by omega) (fun a v H => ∃ q, PAt K H v q ∧ ShOk q) (fun _ _ _ _ g ⟨q, a, b⟩ => ⟨q, a.gw g, b⟩) (fun H' g => SqL.of (at_rm g kiD (g5.at kl4))) (fun a y H6' H6 ha g6 d6 ⟨ws, hw⟩ hY C9 hC9 => ?_) (fun H6 zs g6 d6 hzs neL lz iz => ?_)
          · obtain ⟨rfl, _⟩ := hY
            have neL := draws_ne d5 hLs
            refine ⟨rfl, _, rfl, D, 3, rfl, by decide, d6, fun x Ha a0 a1 ga da => ⟨_, _, rfl, rfl, _, rfl, D, 3, rfl, by decide, da, fun b Hb b0 b1 gb db => ⟨_, _, rfl, rfl, ?_⟩⟩⟩
            obtain ⟨i1, i2, _, _⟩ := small_q (n := 1 + x) (d := 2 + b) (B := 3) (N := 3) (by omega) (by omega) (by omega) (by omega) (by decide)
            refine ⟨_, _, rfl, by omega, Nat.lt_of_le_of_lt (show (2 + b).natAbs ≤ 4 by omega) (Nat.lt_of_lt_of_le (show 4 < 2 ^ 10 by decide) (Nat.pow_le_pow_right (by decide) (by decide))), small_fit i1 i2 (by decide +kernel), fun v H8 g8 r8 => ?_⟩
            have g68 := ga.trans (gb.trans g8.rm)
            have hL8 : rm H8 D Ls = some (.lst ws) := g68.at (by rw [rm_ne neL]; exact hw)
            obtain ⟨ns', e'⟩ := db.gw g8
            refine hC9 v H8 g68 ⟨ns', e'⟩ ⟨_, (PAt.rm r8 e').rm hL8, i1, ?_, ?_⟩
            · rw [show Rat.divInt (1 + x) (2 + b) = ((1 + x : Int) : Rat) / ((2 + b : Int) : Rat) from Rat.divInt_eq_div _ _]
              have ra : ((1 : Int) : Rat) ≤ ((1 + x : Int) : Rat) := Rat.intCast_le_intCast.mpr (by omega)
              rw [show ((1 : Int) : Rat) = 1 from rfl] at ra
              have b3 : 2 + b = 2 ∨ 2 + b = 3 ∨ 2 + b = 4 := by omega
              rcases b3 with z | z | z
              · rw [z, show ((2 : Int) : Rat) = 2 from rfl]; grind
              · rw [z, show ((3 : Int) : Rat) = 3 from rfl]; grind
              · rw [z, show ((4 : Int) : Rat) = 4 from rfl]; grind
            · rw [show Rat.divInt (1 + x) (2 + b) = ((1 + x : Int) : Rat) / ((2 + b : Int) : Rat) from Rat.divInt_eq_div _ _]
              have ra : ((1 + x : Int) : Rat) ≤ ((3 : Int) : Rat) := Rat.intCast_le_intCast.mpr (by omega)
              have r0 : ((1 : Int) : Rat) ≤ ((1 + x : Int) : Rat) := Rat.intCast_le_intCast.mpr (by omega)
              rw [show ((3 : Int) : Rat) = 3 from rfl] at ra
              rw [show ((1 : Int) : Rat) = 1 from rfl] at r0
              have b3 : 2 + b = 2 ∨ 2 + b = 3 ∨ 2 + b = 4 := by omega
              rcases b3 with z | z | z
              · rw [z, show ((2 : Int) : Rat) = 2 from rfl]; grind
              · rw [z, show ((3 : Int) : Rat) = 3 from rfl]; grind
              · rw [z, show ((4 : Int) : Rat) = 4 from rfl]; grind
          have g46 : Gw (rm H4 D) (rm H6 D) := g5.rm.trans g6
          have kd6 : H6 Kd = some (.lst ((List.range n).map fun j => V.ref (ks j))) := at_rm g46 KD kd4
          have kl6 : H6 (ks i) = some (.lst ((kidsP n par i).map natV)) := at_rm g46 kiD kl4
          have ps6 : H6 Pr = some (.lst ps) := at_rm g46 neP q1
          obtain ⟨sf, hsf⟩ := choice_lt (P := fun a q => (∃ y, zs[a]? = some y ∧ PAt K (rm (rm H6 D) Ls) y q) ∧ ShOk q) (m := (kidsP n par i).length) (fun a ha => let ⟨y, e, q, pa, sq⟩ := iz a ha; ⟨q, ⟨y, e, pa⟩, sq⟩)
          have hso : ∀ a, a < (kidsP n par i).length → ShOk (sf a) := fun a ha => (hsf a ha).2
          have hpo : ∀ a, a < (kidsP n par i).length → PrOk (dep i + 1) (pr ((TT n par).kid i a)) := fun a ha => by
            obtain ⟨x, y, z, l, d⟩ := sh.kid ha
            rw [← d]; exact p2.ok _ (by omega) x
          have vt6 : ∀ a, a < (kidsP n par i).length → ∃ x, ps[(TT n par).kid i a]? = some x ∧ VT K H6 x 2 (pr ((TT n par).kid i a)) := fun a ha => by
            obtain ⟨x, y, z, l, d⟩ := sh.kid ha
            obtain ⟨x', e, p⟩ := q3 _ (by omega) x
            exact ⟨x', e, (p.gw g46.rm).gw Gw.r2_le⟩
          refine ⟨(show 0 ≤ sizeLine by decide), fun Rw hRw => ?_⟩
          refine ⟨_, rfl, _, rfl, by decide, by decide, ?_⟩
          refine for_it (walk_rangeN (N := 2) rfl) (fun k σ H' => (∃ u13 u14 u15, σ = [some (.ref D), some (.int 2), some (.ref Sa), some (.ref Kd), u4, u5, u6, u7, u8, some (.ref Pr), some (.int (i : Nat)), some (.ref Ls), some (.ref Rw), u13, u14, u15, none]) ∧ Gw H6 (rm H' Rw) ∧ ∃ xs, H' Rw = some (.lst xs) ∧ xs.length = k ∧ ∀ k', k' < k → ∃ x, xs[k']? = some x ∧ PAt K (rm H' Rw) x (S (kidsP n par i).length fun a => sf a * pr ((TT n par).kid i a) k'))
            ⟨⟨_, _, _, rfl⟩, by rw [rm_upd, rm_none hRw]; exact Gw.refl _, [], upd_same, rfl, fun k' h => absurd h (Nat.not_lt_zero _)⟩ (fun _ _ _ _ _ => True.intro) ?_ ?_
          · rintro k y σ H7' H7 hk ⟨⟨v13, v14, v15, rfl⟩, g7, xs, r1, r2, r3⟩ ⟨rfl, rfl⟩
            refine ⟨(show 2 ≤ sizeLine by decide), fun z1 hz1 => ?_⟩
            have gz := Gw.new (.tup [V.int 0, V.int 1]) hz1
            have G7 := g7.trans Gw.rm_le
            have pz : PAt K (upd H7 z1 (.tup [V.int 0, V.int 1])) (.ref z1) (0 : Rat) := ⟨⟨z1, rfl, SqT.of upd_same⟩, fit_zero⟩
            have r1' := gz.at r1
            have g7' : Gw H6 (rm (upd H7 z1 (.tup [V.int 0, V.int 1])) Rw) := g7.trans gz.rm
            generalize hH8 : upd H7 z1 (.tup [V.int 0, V.int 1]) = H8 at gz pz r1' g7'
            have G8 := g7'.trans Gw.rm_le
            refine ⟨_, rfl, Ls, zs, rfl, .inl (SqL.of (G8.at hzs)), ?_⟩
            rw [lz]
            refine ⟨_, rfl, by omega, by omega, ?_⟩
            refine for_it (walk_rangeN (N := (kidsP n par i).length) (by omega)) (fun a σ H' => (∃ fv u15, σ = [some (.ref D), some (.int 2), some (.ref Sa), some (.ref Kd), u4, u5, u6, u7, u8, some (.ref Pr), some (.int (i : Nat)), some (.ref Ls), some (.ref Rw), some (.int (k : Nat)), some fv, u15, none] ∧ PAt K H' fv (S a fun a => sf a * pr ((TT n par).kid i a) k)) ∧ Gw H8 H')
              ⟨⟨_, _, rfl, pz⟩, Gw.refl _⟩ (fun _ _ _ _ _ => True.intro) ?_ ?_
            · rintro a y σ H9' H9 ha ⟨⟨fv, w15, rfl, pf⟩, g9⟩ ⟨rfl, rfl⟩
              have G9 := G8.trans g9
              obtain ⟨⟨zz, ez, pzz⟩, sz⟩ := hsf a ha
              obtain ⟨xp, exp, ap, vp, rfl, sp, lp, ip⟩ := vt6 a ha
              obtain ⟨xk, exk, pxk⟩ := ip k hk
              refine ⟨_, rfl, _, rfl, _, rfl, _, _, _, _, rfl, rfl, SqL.of (G9.at hzs), at_of rfl ez, _, rfl, _, rfl, _, rfl, _, _, _, _, rfl, rfl, SqL.of (G9.at kd6), at_of rfl (kdg hi), _, rfl, _, _, _, _, rfl, rfl, SqL.of (G9.at kl6), at_of rfl (kid_get ha), _, _, _, _, rfl, rfl, SqL.of (G9.at ps6), at_of rfl exp, _, rfl, _, _, _, _, rfl, rfl, G9.sqT sp, at_of rfl exk, _, _, sf a, pr ((TT n par).kid i a) k, rfl, ((pzz.gw Gw.rm_le).gw Gw.rm_le).gw G9, pxk.gw G9, (fit_rows di2 hk m4 hso hpo 0 (Nat.zero_le _)).2 a ha, fun va Ha ga ra => ?_⟩
              exact ⟨_, _, _, _, rfl, pf.gw ga, ra, (fit_rows di2 hk m4 hso hpo (a + 1) (by omega)).1, fun vb Hb gb rb => ⟨⟨_, _, rfl, rb⟩, g9.trans (ga.trans gb)⟩⟩
            · rintro σ H9 ⟨⟨fv, w15, rfl, pf⟩, g9⟩
              have r9 := g9.at r1'
              refine ⟨_, rfl, .inl ⟨rfl, _, SqL.of r9⟩, _, rfl, Rw, xs, _, rfl, rfl, r9, small1000 (by omega), ⟨_, _, _, rfl⟩, by rw [rm_upd]; exact g7'.trans g9.rm, _, upd_same, by rw [List.length_append, r2]; rfl, fun k' hk' => ?_⟩
              rw [rm_upd]
              by_cases e : k' = k
              · subst e
                exact ⟨fv, by rw [List.getElem?_append_right (by omega), r2, Nat.sub_self]; rfl, pf.rm r9⟩
              · obtain ⟨x, e1, e2⟩ := r3 k' (by omega)
                exact ⟨x, by rw [List.getElem?_append_left (by omega)]; exact e1, e2.gw (gz.trans g9).rm⟩
          · rintro σ H7 ⟨⟨v13, v14, v15, rfl⟩, g7, xs, r1, r2, r3⟩
            have G7 := g7.trans Gw.rm_le
            refine ⟨_, rfl, Rw, xs, rfl, .inl ⟨SqL.of r1, fun l hl => ?_⟩⟩
            have gl := Gw.new (.tup xs) hl
            have g49 : Gw (rm H4 D) (rm (upd H7 l (.tup xs)) D) := g46.trans (G7.trans gl).rm
            have vl : VT K (upd H7 l (.tup xs)) (.ref l) 2 (fun k => S (kidsP n par i).length fun a => sf a * pr ((TT n par).kid i a) k) := ⟨l, xs, rfl, SqT.of upd_same, r2, fun k hk => let ⟨x, e, p⟩ := r3 k hk; ⟨x, e, (p.gw Gw.rm_le).gw gl⟩⟩
            obtain ⟨f1, f2⟩ := fin _ l _ _ g49 (d6.gw (G7.trans gl)) vl (p2.row sh hi hso (row_ok di2 hm0 m4 hso hpo fun k hk => rfl) fun k hk => rfl)
            exact ⟨_, rfl, _, rfl, Pr, ps, _, i, rfl, rfl, f1, by rw [q2]; exact ixNat hi, ⟨_, _, _, _, _, _, rfl⟩, f2⟩
      · rintro σ H4 ⟨⟨u10, u11, u12, u13, u14, u15, rfl⟩, pr, wt, p2, gB, d4, ps, q1, q2, q3⟩
        rw [Nat.sub_self] at p2 q3
        have Sa4 := stat gB SD ph.sh
        have Kd4 := stat gB KD ph.kd
        refine ⟨(show 3 ≤ sizeLine by decide), fun c1 f1 => ⟨_, rfl, 2, rfl, c1, _, rfl, SqT.of upd_same, (fun z => absurd z.2 (by decide)), fun c2 f2 => ?_⟩⟩
        have w1 := Gw.new (.tup [V.str "coin", V.str "oil", V.str "salt"]) f1
        have w2 := Gw.new (.tup (cutV [V.str "coin", V.str "oil", V.str "salt"] none (some 2))) f2
        have nm2 : SqT K (upd (upd H4 c1 (.tup [V.str "coin", V.str "oil", V.str "salt"])) c2 (.tup (cutV [V.str "coin", V.str "oil", V.str "salt"] none (some 2)))) c2 [V.str "coin", V.str "oil"] := SqT.of upd_same
        have w12 := w1.trans w2
        generalize upd (upd H4 c1 (.tup [V.str "coin", V.str "oil", V.str "salt"])) c2 (.tup (cutV [V.str "coin", V.str "oil", V.str "salt"] none (some 2))) = H5 at w12 nm2 ⊢
        refine ⟨_, rfl, Sa, _, rfl, .inl (SqL.of (w12.at Sa4)), ?_⟩
        rw [lsh]
        refine ⟨_, rfl, by omega, by omega, fun Ln hLn => ?_⟩
        refine lc_grow (walk_rangeN (N := n) (by omega)) hLn (by omega) (fun j v H => ∃ (t : Addr) (pt : V), v = .ref t ∧ SqT K H t [parF par j, pt] ∧ VT K H pt 2 (pr j)) (fun _ _ _ _ g ⟨t, pt, e, s, p⟩ => ⟨t, pt, e, g.sqT s, p.gw g⟩) (fun _ _ => True.intro) (fun j y H6' H6 hj _ g6 ⟨ws, hw⟩ hY C9 hC9 => ?_) (fun H6 zs g6 _ hzs lz iz => ?_)
        · obtain ⟨rfl, rfl⟩ := hY
          obtain ⟨x, ex, px⟩ := q3 j (Nat.zero_le _) hj
          have g46 := w12.trans g6
          refine ⟨rfl, _, rfl, _, rfl, _, _, _, _, rfl, rfl, SqL.of (g46.at Sa4), at_of rfl (shg hj), _, rfl, _, rfl, _, _, _, _, rfl, rfl, SqL.of (g46.at q1), at_of rfl ex, (show 2 ≤ sizeLine by decide), fun t ht => ?_⟩
          have gt := Gw.new (.tup [parF par j, x]) ht
          have hL := gt.at hw
          exact hC9 _ _ gt ⟨t, x, rfl, sqT_rm (SqT.of upd_same) hL, ((px.gw Gw.r2_le).gw (g46.trans gt)).rmD hL⟩
        · refine ⟨Ln, zs, rfl, .inl ⟨SqL.of hzs, fun l hl => ⟨(show 2 ≤ sizeLine by decide), fun m1 f3 => ⟨_, rfl, (show 2 ≤ sizeLine by decide), fun a f4 => ?_⟩⟩⟩⟩
          have w3 := Gw.new (.tup zs) hl
          have w4 := Gw.new (.tup [V.ref c2, V.ref l]) f3
          have w5 := Gw.new (.tup [V.ref m1, V.ref Kd]) f4
          have w56 := g6.trans (w3.trans (w4.trans w5))
          have w46 := w12.trans w56
          have d9 := d4.gw w46
          obtain ⟨nsD, eD⟩ := id d9
          have mk : MktAt K (upd (upd (upd H6 l (.tup zs)) m1 (.tup [V.ref c2, V.ref l])) a (.tup [V.ref m1, V.ref Kd])) (.ref m1) ⟨n, par, pr⟩ := ⟨m1, c2, l, zs, rfl, SqT.of (w5.at upd_same), w56.sqT nm2, SqT.of ((w4.trans w5).at upd_same), lz, fun j hj => let ⟨y, e, t, pt, e2, s, p⟩ := iz j hj; ⟨t, pt, by rw [e, e2], (w3.trans (w4.trans w5)).sqT (Gw.rm_le.sqT s), (p.gw Gw.rm_le).gw (w3.trans (w4.trans w5))⟩⟩
          have kk : KidsAt K (rm (upd (upd (upd H6 l (.tup zs)) m1 (.tup [V.ref c2, V.ref l])) a (.tup [V.ref m1, V.ref Kd])) D) (.ref Kd) ⟨n, par, pr⟩ := ⟨Kd, _, rfl, SqL.of (by rw [rm_ne KD]; exact w46.at Kd4), by rw [List.length_map, List.length_range], fun j hj => ⟨ks j, kdg hj, SqL.of (by rw [rm_ne (draws_ne hD (ph.nk j hj))]; exact w46.at (stat gB (draws_ne hD (ph.nk j hj)) (ph.kl j hj)))⟩⟩
          have gE : Gw (rm H D) (rm (upd (upd (upd H6 l (.tup zs)) m1 (.tup [V.ref c2, V.ref l])) a (.tup [V.ref m1, V.ref Kd])) D) := ph.g.trans ((gB.trans Gw.rm_le).trans w46.rm)
          exact k a (.ref m1) (.ref Kd) _ ⟨n, par, pr⟩ dep wt (p2.fin sh n12) (sqT_rm (SqT.of upd_same) eD) (mk.rmD eD) kk gE d9
end
end K44


set_option Elab.async false
set_option linter.all false
set_option maxRecDepth 100000
set_option maxHeartbeats 4000000
set_option exponentiation.threshold 3000
/-! The law. -/
namespace K44
open PySem L2
open LP (Fit lim S Tr)
abbrev sLaw : Stmt := top 92
def spLaw (K : PySem.W.Frag) (t : Tabs) : Sp := fun vs H Q _ => ∃ (a : Addr) (ns : List Int), vs = [.ref a] ∧ SqL K H a (ns.map V.int) ∧ ns.length ≤ 1000 ∧ TabsOk t H ∧ ∀ H', Q (.bl true) H'
abbrev nmLw : List Str := ["script", "draws", "turn", "market", "kids", "many", "dues", "offer", "call", "none", "whole", "node", "row", "one", "kid"]
theorem dpA_of {K : PySem.W.Frag} {H : Hp} {d : Nat → PyData} : ∀ {n : Nat} {xs : List V}, xs.length = n → (∀ i, i < n → ∃ x, xs[i]? = some x ∧ Dp K H x (d i)) → DpAll K H xs ((List.range n).map d) := by
  intro n
  induction n generalizing d with
  | zero =>
    intro xs h _
    rw [List.length_eq_zero_iff.mp h]; exact .nil
  | succ n ih =>
    intro xs h hx
    cases xs with
    | nil => cases h
    | cons x xs =>
      obtain ⟨y, e, p⟩ := hx 0 (by omega)
      rw [List.getElem?_cons_zero] at e
      cases e
      rw [List.range_succ_eq_map, List.map_cons, List.map_map]
      refine .cons p (ih (d := d ∘ Nat.succ) (by simpa using h) fun i hi => ?_)
      obtain ⟨y, e, p⟩ := hx (i + 1) (by omega)
      rw [List.getElem?_cons_succ] at e
      exact ⟨y, e, p⟩
theorem pl_nats (ns : List Nat) (h : ns.length ≤ 1000) (k : Nat) : Pl (k + 1) (.tuple (ns.map fun n => PyData.int ((n : Nat) : Int))) := .inr ⟨_, .inr rfl, by rw [List.length_map]; exact h, fun e he => by
  obtain ⟨n, _, rfl⟩ := List.mem_map.mp he
  cases k with
  | zero => exact ⟨_, rfl⟩
  | succ k => exact .inl ⟨_, rfl⟩⟩
theorem NatT.dp {K : PySem.W.Frag} {H : Hp} {v : V} {l : List Nat} (h : NatT K H v l) : Dp K H v (.tuple (l.map fun n => PyData.int ((n : Nat) : Int))) := by
  obtain ⟨a, rfl, s⟩ := h
  exact .tup s (nats_dp l)
theorem NatT.rmD {K : PySem.W.Frag} {H : Hp} {D : Addr} {v : V} {l : List Nat} {ys : List V} (h : NatT K H v l) (hD : H D = some (.lst ys)) : NatT K (rm H D) v l := let ⟨a, e, s⟩ := h; ⟨a, e, sqT_rm s hD⟩
theorem first_len {T : Tr} {dep : Nat → Nat} {B : List Nat} (h : B.length ≤ 12) : (firstL T dep B).length ≤ 1000 := Nat.le_trans (List.length_filter_le ..) (by omega)
section
variable {P : Program} {w : World} {K : PySem.W.Frag} {mg : Str → Option Value} {base : Heap}
theorem scLaw : FnScope nmLw ["script"] (defScope sLaw) := ⟨rfl, rfl, rfl, by decide +kernel, rfl, by decide +kernel, by decide +kernel⟩
theorem ok_law {t : Tabs} {f : Addr} {fd : FuncData} (F : Fun K "law" "law" sLaw f fd) (T : Txt K mg) (C0 : Cal P w K mg base "_law_draws" 1 ["script"] (spDraws K)) (C1 : Cal P w K mg base "_law_tree" 3 ["draws", "names"] (spLTree K)) (C2' : Cal P w K mg base "_law_part" 2 ["draws"] (spLPart K)) (C3 : CTake P w K mg base)
    (S0 : Cal P w K mg base "_law_says" 1 ["found", "due"] spSays) (IM : Cal P w K mg base "is_market" 6 ["value"] (spIsMarket K t)) (SG : Cal P w K mg base "sure_gain" 9 ["market"] (spGain K)) (CH : Cal P w K mg base "children" 3 ["market", "node"] (spChildren K))
    (A2 : Cal P w K mg base "_law_alike" 3 ["found", "due"] (spAlike K 2)) (A3 : Cal P w K mg base "_law_alike" 4 ["found", "due"] (spAlike K 3)) (CD : Cal P w K mg base "costs_of_dues" 12 ["market", "dues"] (spDues K t)) (LD : Cal P w K mg base "_law_dues" 5 ["market", "kids", "dues"] (spLDues K))
    (LM : CLMost P w K mg base) (LO : Cal P w K mg base "_law_offered" 5 ["market", "kids", "offer", "call"] (spLOffered K)) (IO : Cal P w K mg base "is_offer" 4 ["market", "value"] (spIsOffer K t)) (IC : Cal P w K mg base "is_call" 3 ["market", "offer", "value"] (spIsCall K))
    (CO : CCostsOf P w K mg base t) (CW : Cal P w K mg base "costs_with" 13 ["market", "offer", "call"] (spCostsWith K t)) (CF : Cal P w K mg base "costs_for" 12 ["market", "offer", "most"] (spCostsFor K t)) (LT : Cal P w K mg base "_law_times_taken" 5 ["market", "kids", "offer", "most_v"] (spLTimesT K))
    (EA : Cal P w K mg base "earliest" 13 ["market", "offer"] (spBest K t bestE)) (LA : Cal P w K mg base "latest" 13 ["market", "offer"] (spBest K t bestL)) (LF : Cal P w K mg base "_law_first" 5 ["market", "kids", "offer", "whole", "is_strict"] (spLFirst K)) (LS : Cal P w K mg base "_law_shown" 12 ["market", "kids", "node", "wanted"] (spLShown K t)) :
    FnOk P w K mg base CX0 14 f fd ["script"] (spLaw K t) := by
  refine F.ok scLaw (fun vs H Q E h => ?_) (fun cdv A outer s H vs Q E hr h => ?_)
  · obtain ⟨a, ns, rfl, _⟩ := h
    rfl
  · obtain ⟨a, ns, rfl, hs, hl, ht, k⟩ := h
    refine ⟨_, (pss_cons (ps_set (i := 1) scLaw.nd rfl (Or.inr rfl) (pe_call C0.ok (hr.mono (by decide)) rfl C0.hm C0.kp C0.b .nil pass0 (pa_cons (pv 0) pa_nil))) (pss_cons (ps_for PassesOwn.never rfl (pi_range1 rfl T.range (pa_cons pe_int pa_nil)) (pg_name (i := 2) scLaw.nd rfl (Or.inl rfl)) (pss_cons (ps_asg (pe_call C1.ok (hr.mono (by decide)) rfl C1.hm C1.kp C1.b .nil pass0 (pa_cons (pv 1) (pa_cons pe_int pa_nil))) (pg_tup rfl (pgs_cons (pg_name (i := 3) scLaw.nd rfl (Or.inr rfl)) (pgs_cons (pg_name (i := 4) scLaw.nd rfl (Or.inl rfl)) pgs_nil)))) (pss_cons (ps_set (i := 5) scLaw.nd rfl (Or.inl rfl) (pe_callB (lenK K) (by rfl) T.len PySem.boot_len (pa_cons (pv 4) pa_nil))) (pss_cons (ps_if (PW.pt (pw_or (pt_not (pt_val (pe_call S0.ok (hr.mono (by decide)) rfl S0.hm S0.kp S0.b .nil pass0 (pa_cons (pe_call IM.ok (hr.mono (by decide)) rfl IM.hm IM.kp IM.b .nil pass0 (pa_cons (pv 3) pa_nil)) (pa_cons pe_bl pa_nil))))) (pw_or (pt_cmp (pc_notN (pe_call SG.ok (hr.mono (by decide)) rfl SG.hm SG.kp SG.b .nil pass0 (pa_cons (pv 3) pa_nil)))) (pw_or1 (pt_not (pt_val (pe_call A2.ok (hr.mono (by decide)) rfl A2.hm A2.kp A2.b .nil pass0 (pa_cons (pe_lc (own := [("node", 11)]) (g := gName 11) (tt := tYes) rfl scLaw.nd (pi_range1 rfl T.range (pa_cons (pv 5) pa_nil)) (blkOk_by (N := nmLw) (by kernel_rfl)) (fun _ _ _ _ _ => (pg_name (i := 11) scLaw.nd rfl (Or.inl rfl))) (fun _ _ _ _ _ => pts_nil) (fun _ _ _ _ _ => (pe_call CH.ok (hr.mono (by decide)) rfl CH.hm CH.kp CH.b .nil pass0 (pa_cons (pv 3) (pa_cons (pv 11) pa_nil))))) (pa_cons (pe_lc (own := [("row", 12)]) (g := gName 12) (tt := tYes) rfl scLaw.nd (listK K (pv 4)) (blkOk_by (N := nmLw) (by kernel_rfl)) (fun _ _ _ _ _ => (pg_name (i := 12) scLaw.nd rfl (Or.inl rfl))) (fun _ _ _ _ _ => pts_nil) (fun _ _ _ _ _ => (pe_callTy (T := "tuple") (ctoK K) (by rfl) T.tuple (by decide +kernel) (pa_cons (pv 12) pa_nil)))) pa_nil))))))))) (pss_one ps_never) pss_nil) (pss_cons (ps_set (i := 6) scLaw.nd rfl (Or.inl rfl) (pe_callTy call_tuple_of (by rfl) T.tuple (by decide +kernel) (pa_cons (pe_lc (own := [("node", 11)]) (g := gName 11) (tt := tYes) rfl scLaw.nd (pi_range1 rfl T.range (pa_cons (pv 5) pa_nil)) (blkOk_by (N := nmLw) (by kernel_rfl)) (fun _ _ _ _ _ => (pg_name (i := 11) scLaw.nd rfl (Or.inl rfl))) (fun _ _ _ _ _ => pts_nil) (fun _ _ _ _ _ => (pe_call C2'.ok (hr.mono (by decide)) rfl C2'.hm C2'.kp C2'.b .nil pass0 (pa_cons (pv 1) pa_nil)))) pa_nil))) (pss_cons (ps_if (pt_not (pt_val (pe_call A2.ok (hr.mono (by decide)) rfl A2.hm A2.kp A2.b .nil pass0 (pa_cons (pe_callTy call_list_of (by rfl) T.list (by decide +kernel) (pa_cons (pe_call CD.ok (hr.mono (by decide)) rfl CD.hm CD.kp CD.b .nil pass0 (pa_cons (pv 3) (pa_cons (pv 6) pa_nil))) pa_nil)) (pa_cons (pe_call LD.ok (hr.mono (by decide)) rfl LD.hm LD.kp LD.b .nil pass0 (pa_cons (pv 3) (pa_cons (pv 4) (pa_cons (pv 6) pa_nil)))) pa_nil))))) (pss_one ps_never) pss_nil) (pss_cons (ps_set (i := 7) scLaw.nd rfl (Or.inr rfl) (pe_callTy call_tuple_of (by rfl) T.tuple (by decide +kernel) (pa_cons (pe_lc (own := [("node", 11)]) (g := gName 11) (tt := tYes) rfl scLaw.nd (pi_range1 rfl T.range (pa_cons (pv 5) pa_nil)) (blkOk_by (N := nmLw) (by kernel_rfl)) (fun _ _ _ _ _ => (pg_name (i := 11) scLaw.nd rfl (Or.inl rfl))) (fun _ _ _ _ _ => pts_nil) (fun _ _ _ _ _ => (pe_ifExp (pt_cmpR op_gt (pe_call C3.ok (hr.mono (by decide)) rfl C3.hm C3.kp C3.b .nil pass0 (pa_cons (pv 1) (pa_cons pe_int pa_nil))) pe_int (nomark _)) (pe_call C2'.ok (hr.mono (by decide)) rfl C2'.hm C2'.kp C2'.b .nil pass0 (pa_cons (pv 1) pa_nil)) pe_non))) pa_nil))) (pss_cons (ps_set (i := 8) scLaw.nd rfl (Or.inl rfl) (pe_callTy call_tuple_of (by rfl) T.tuple (by decide +kernel) (pa_cons (pe_lc (own := [("node", 11)]) (g := gName 11) (tt := tYes) rfl scLaw.nd (pi_range1 rfl T.range (pa_cons (pv 5) pa_nil)) (blkOk_by (N := nmLw) (by kernel_rfl)) (fun _ _ _ _ _ => (pg_name (i := 11) scLaw.nd rfl (Or.inl rfl))) (fun _ _ _ _ _ => pts_nil) (fun _ _ _ _ _ => (pe_ifExp (pt_cmpR op_eq (pe_call C3.ok (hr.mono (by decide)) rfl C3.hm C3.kp C3.b .nil pass0 (pa_cons (pv 1) (pa_cons pe_int pa_nil))) pe_int (nomark _)) (pe_call LM.ok (hr.mono (by decide)) rfl LM.hm LM.kp LM.b .nil pass0 (pa_cons (pe_op op_cat (pe_lst (pa_cons (pe_tup (pa_cons pe_int (pa_cons pe_int pa_nil))) pa_nil)) (pe_lc (own := [("one", 13)]) (g := gName 13) rfl scLaw.nd (listK K (pe_lst (pa_cons (pe_ix (ixT K) (pv 7) (pv 11) (fun _ _ => rfl)) (pa_cons (pe_call C2'.ok (hr.mono (by decide)) rfl C2'.hm C2'.kp C2'.b .nil pass0 (pa_cons (pv 1) pa_nil)) pa_nil)))) (blkOk_by (N := nmLw) (by kernel_rfl)) (fun _ _ _ _ _ => (pg_name (i := 13) scLaw.nd rfl (Or.inl rfl))) (fun _ _ _ _ _ => pts_one (pt_cmp (pc_notN (pv 13)))) (fun _ _ _ _ _ => (pv 13)))) pa_nil)) pe_non))) pa_nil))) (pss_cons (ps_par (i := 9) (j := 10) rfl scLaw.nd rfl rfl (by decide) rfl rfl (pa_cons (pe_op (op_rep1 K) (pe_tup (pa_cons pe_non pa_nil)) (pv 5)) (pa_cons (pe_call LO.ok (hr.mono (by decide)) rfl LO.hm LO.kp LO.b .nil pass0 (pa_cons (pv 3) (pa_cons (pv 4) (pa_cons (pv 7) (pa_cons (pe_op (op_rep1 K) (pe_tup (pa_cons pe_non pa_nil)) (pv 5)) pa_nil))))) pa_nil)) rfl) (pss_cons (ps_if (PW.pt (pw_or (pt_not (pt_val (pe_call S0.ok (hr.mono (by decide)) rfl S0.hm S0.kp S0.b .nil pass0 (pa_cons (pe_call IO.ok (hr.mono (by decide)) rfl IO.hm IO.kp IO.b .nil pass0 (pa_cons (pv 3) (pa_cons (pv 7) pa_nil))) (pa_cons pe_bl pa_nil))))) (pw_or (pt_not (pt_val (pe_call S0.ok (hr.mono (by decide)) rfl S0.hm S0.kp S0.b .nil pass0 (pa_cons (pe_call IC.ok (hr.mono (by decide)) rfl IC.hm IC.kp IC.b .nil pass0 (pa_cons (pv 3) (pa_cons (pv 7) (pa_cons (pv 8) pa_nil)))) (pa_cons pe_bl pa_nil))))) (pw_or1 (pt_not (pt_val (pe_call A2.ok (hr.mono (by decide)) rfl A2.hm A2.kp A2.b .nil pass0 (pa_cons (pe_callTy call_list_of (by rfl) T.list (by decide +kernel) (pa_cons (pe_call CO.ok (hr.mono (by decide)) rfl CO.hm CO.kp CO.b .nil pass0 (pa_cons (pv 3) (pa_cons (pv 7) pa_nil))) pa_nil)) (pa_cons (pv 10) pa_nil))))))))) (pss_one ps_never) pss_nil) (pss_cons (ps_if (PW.pt (pw_or (pt_not (pt_val (pe_call A2.ok (hr.mono (by decide)) rfl A2.hm A2.kp A2.b .nil pass0 (pa_cons (pe_callTy call_list_of (by rfl) T.list (by decide +kernel) (pa_cons (pe_call CW.ok hr rfl CW.hm CW.kp CW.b .nil pass0 (pa_cons (pv 3) (pa_cons (pv 7) (pa_cons (pv 8) pa_nil)))) pa_nil)) (pa_cons (pe_call LO.ok (hr.mono (by decide)) rfl LO.hm LO.kp LO.b .nil pass0 (pa_cons (pv 3) (pa_cons (pv 4) (pa_cons (pv 7) (pa_cons (pv 8) pa_nil))))) pa_nil))))) (pw_or1 (pt_not (pt_val (pe_call A3.ok (hr.mono (by decide)) rfl A3.hm A3.kp A3.b .nil pass0 (pa_cons (pe_call CF.ok (hr.mono (by decide)) rfl CF.hm CF.kp CF.b .nil pass0 (pa_cons (pv 3) (pa_cons (pv 7) (pa_cons pe_int pa_nil)))) (pa_cons (pe_call LT.ok (hr.mono (by decide)) rfl LT.hm LT.kp LT.b .nil pass0 (pa_cons (pv 3) (pa_cons (pv 4) (pa_cons (pv 7) (pa_cons pe_int pa_nil))))) pa_nil)))))))) (pss_one ps_never) pss_nil) (pss_cons (ps_if (pt_not (pt_val (pe_call A2.ok (hr.mono (by decide)) rfl A2.hm A2.kp A2.b .nil pass0 (pa_cons (pe_lst (pa_cons (pe_call EA.ok hr rfl EA.hm EA.kp EA.b .nil pass0 (pa_cons (pv 3) (pa_cons (pv 7) pa_nil))) (pa_cons (pe_call LA.ok hr rfl LA.hm LA.kp LA.b .nil pass0 (pa_cons (pv 3) (pa_cons (pv 7) pa_nil))) pa_nil))) (pa_cons (pe_lst (pa_cons (pe_call LF.ok (hr.mono (by decide)) rfl LF.hm LF.kp LF.b .nil pass0 (pa_cons (pv 3) (pa_cons (pv 4) (pa_cons (pv 7) (pa_cons (pv 10) (pa_cons pe_bl pa_nil)))))) (pa_cons (pe_call LF.ok (hr.mono (by decide)) rfl LF.hm LF.kp LF.b .nil pass0 (pa_cons (pv 3) (pa_cons (pv 4) (pa_cons (pv 7) (pa_cons (pv 10) (pa_cons pe_bl pa_nil)))))) pa_nil))) pa_nil))))) (pss_one ps_never) pss_nil) (pss_one (ps_for PassesOwn.never rfl (pi_range1 rfl T.range (pa_cons (pv 5) pa_nil)) (pg_name (i := 11) scLaw.nd rfl (Or.inl rfl)) (pss_one (ps_if (pt_not (pt_val (pe_call LS.ok (hr.mono (by decide)) rfl LS.hm LS.kp LS.b .nil pass0 (pa_cons (pv 3) (pa_cons (pv 4) (pa_cons (pv 11) (pa_cons (pe_lc (own := [("kid", 14)]) (g := gName 14) (tt := tYes) rfl scLaw.nd (listK K (pe_ix (ixL K) (pv 4) (pv 11) (fun _ _ => rfl))) (blkOk_by (N := nmLw) (by kernel_rfl)) (fun _ _ _ _ _ => (pg_name (i := 14) scLaw.nd rfl (Or.inl rfl))) (fun _ _ _ _ _ => pts_nil) (fun _ _ _ _ _ => (pe_call C2'.ok (hr.mono (by decide)) rfl C2'.hm C2'.kp C2'.b .nil pass0 (pa_cons (pv 1) pa_nil)))) pa_nil))))))) (pss_one ps_never) pss_nil)))))))))))))))) (pss_one (ps_ret pe_bl)))), ?_⟩
    refine ⟨_, rfl, a, ns, rfl, hs, hl, fun D H1 hD g1 d1 => ?_⟩
    have gt : ∀ {H'}, Gw (rm H1 D) (rm H' D) → TabsOk t H' := fun g => ht.gw ((g1.trans g).trans Gw.rm_le)
    refine ⟨2, rfl, by decide, by decide, ?_⟩
    refine for_it (walk_rangeN (N := 2) rfl) (fun i σ H' => (∃ u2 u3 u4 u5 u6 u7 u8 u9 u10 u11, σ = [some (.ref a), some (.ref D), u2, u3, u4, u5, u6, u7, u8, u9, u10, u11, none, none, none]) ∧ Gw (rm H1 D) (rm H' D) ∧ Draws H' D)
      ⟨⟨_, _, _, _, _, _, _, _, _, _, rfl⟩, Gw.refl _, d1⟩ (fun _ _ _ _ _ => True.intro) ?_ ?_
    · rintro tr y σ H2' H2 htr ⟨⟨u2, u3, u4, u5, u6, u7, u8, u9, u10, u11, rfl⟩, g2, d2⟩ ⟨rfl, rfl⟩
      refine ⟨_, rfl, D, rfl, d2, fun at' mv kv H3 M dep wt ok s3 hM hK g3 d3 => ?_⟩
      refine ⟨at', _, rfl, Gw.rm_le.sqT s3, rfl, _, _, rfl, _, _, rfl, rfl, ?_⟩
      obtain ⟨ak, ks, rfl, k1, k2, k3⟩ := id hK
      have n12 := ok.n12
      have n1 := ok.n1
      have mk : ∀ {H' : Hp}, Gw (rm H3 D) (rm H' D) → MktAt K H' mv M := fun g => hM.gw (g.trans Gw.rm_le)
      have kk : ∀ {H' : Hp}, Gw (rm H3 D) (rm H' D) → KidsAt K H' (.ref ak) M := fun g => hK.gw (g.trans Gw.rm_le)
      have kl : ∀ {H' : Hp}, Gw (rm H3 D) (rm H' D) → SqL K H' ak ks := fun g => (g.trans Gw.rm_le).sqL k1
      have tk : ∀ {H' : Hp}, Gw (rm H3 D) (rm H' D) → TabsOk t H' := fun g => gt ((g2.trans g3).trans g)
      refine ⟨_, rfl, ak, ks, rfl, .inl (Gw.rm_le.sqL k1), ?_⟩
      rw [k2]
      -- the market, its children
      refine ⟨_, rfl, mv, M, dep, wt, rfl, mk (Gw.refl _), ok, tk (Gw.refl _), fun v4 H4 g4 e => ?_⟩
      subst e
      refine ⟨true, true, rfl, ?_⟩
      rw [decide_eq_true rfl]
      refine ⟨_, rfl, iteF ⟨_, rfl, mv, M, dep, wt, rfl, mk g4.rm, ok, fun v5 H5 g5 e => ?_⟩⟩
      subst e
      have G5 : Gw (rm H3 D) (rm H5 D) := g4.rm.trans g5.rm
      refine ⟨_, rfl, iteF ⟨_, rfl, _, rfl, by omega, by omega, fun X1 hX1 => ?_⟩⟩
      refine lc_grow (walk_rangeN (N := M.N) (by omega)) hX1 (by omega) (fun j v H => NatT K H v (M.kids j)) (fun _ _ _ _ g r => r.gw g) (fun _ _ => True.intro) (fun j y Ha' Ha hj _ ga ⟨ws, hw'⟩ hY C9 hC9 => ?_) (fun H6 zs1 g6 _ hz1 lz1 iz1 => ?_)
      · obtain ⟨rfl, rfl⟩ := hY
        exact ⟨rfl, _, rfl, _, rfl, mv, M, j, rfl, mk (G5.trans ga.rm), hj, ok.n12, fun v H g r => hC9 v H g (r.rmD (g.at hw'))⟩
      have G6 := G5.trans g6.rm
      refine ⟨_, rfl, ak, rfl, ⟨_, kl G6⟩, fun X2 hX2 => ?_⟩
      refine lc_grow (walk_listY (K := K) (a := ak) (xs := ks) (n := M.N) k2) hX2 (by omega) (fun j v H => NatT K H v (M.kids j)) (fun _ _ _ _ g r => r.gw g) (fun H' g => kl (G6.trans g.rm)) (fun j y Ha' Ha hj _ ga ⟨ws, hw'⟩ hY C9 hC9 => ?_) (fun H7 zs2 g7 _ hz2 lz2 iz2 => ?_)
      · obtain ⟨rfl, hy⟩ := hY
        obtain ⟨b, eb, sb⟩ := k3 j hj
        rw [hy] at eb; cases eb
        refine ⟨rfl, _, rfl, b, _, rfl, .inl ⟨((G6.trans ga.rm).trans Gw.rm_le).sqL sb, fun l hl => ?_⟩⟩
        have gl := Gw.new (.tup ((M.kids j).map natV)) hl
        exact hC9 _ _ gl (NatT.rmD ⟨l, rfl, SqT.of upd_same⟩ (gl.at hw'))
      have G7 := G6.trans g7.rm
      refine ⟨_, _, .list ((List.range M.N).map fun i => .tuple ((M.kids i).map fun n => PyData.int ((n : Nat) : Int))), rfl, .lst (SqL.of (g7.at hz1)) (dpA_of lz1 fun i hi => let ⟨x, e, r⟩ := iz1 i hi; ⟨x, e, ((r.gw Gw.rm_le).gw g7).dp⟩), .lst (SqL.of hz2) (dpA_of lz2 fun i hi => let ⟨x, e, r⟩ := iz2 i hi; ⟨x, e, (r.gw Gw.rm_le).dp⟩), ?_, fun v8 H8 g8 e => ?_⟩
      · refine .inr ⟨_, .inl rfl, by rw [List.length_map, List.length_range]; omega, fun e he => ?_⟩
        obtain ⟨i, _, rfl⟩ := List.mem_map.mp he
        exact pl_nats _ (by have := ok.m4 i; exact Nat.le_trans this (by decide)) 0
      subst e
      have G8 := G7.trans g8.rm
      have d8 : Draws H8 D := d3.gw (g4.trans (g5.trans (g6.trans (g7.trans g8))))
      refine ⟨_, rfl, iteF ?_⟩
      -- dues
      refine ⟨_, rfl, _, rfl, by omega, by omega, fun X3 hX3 => ?_⟩
      refine lc_growD (walk_rangeN (N := M.N) (by omega)) hX3 d8 (by omega) (fun j v H => ∃ q, PAt K H v q ∧ LP.Du q) (fun _ _ _ _ g ⟨q, a, b⟩ => ⟨q, a.gw g, b⟩) (fun _ _ => True.intro) (fun j y Ha' Ha hj ga da ⟨ws, hw'⟩ hY C9 hC9 => ?_) (fun H9 zs3 g9 d9 hz3 ne3 lz3 iz3 => ?_)
      · obtain ⟨rfl, rfl⟩ := hY
        have ne := draws_ne d8 hX3
        exact ⟨rfl, _, rfl, D, rfl, da, fun v H' q pq du g dd => hC9 v H' g dd ⟨q, pq.rm (ys := ws) (g.at (by rw [rm_ne ne]; exact hw')), du⟩⟩
      obtain ⟨du, hdu⟩ := choice_lt (P := fun j q => (∃ x, zs3[j]? = some x ∧ PAt K (rm (rm H9 D) X3) x q) ∧ LP.Du q) (m := M.N) (fun j hj => let ⟨x, e, q, p, d⟩ := iz3 j hj; ⟨q, ⟨x, e, p⟩, d⟩)
      have hdu' : ∀ j, j < M.N → LP.Du (du j) := fun j hj => (hdu j hj).2
      refine ⟨X3, zs3, rfl, .inl ⟨SqL.of hz3, fun l3 hl3 => ?_⟩⟩
      have gn := Gw.new (.tup zs3) hl3
      have G10 : Gw (rm H3 D) (rm (upd H9 l3 (.tup zs3)) D) := G8.trans (g9.trans gn.rm)
      have d10 := d9.gw gn
      have vd : VT K (upd H9 l3 (.tup zs3)) (.ref l3) M.N du := ⟨l3, zs3, rfl, SqT.of upd_same, lz3, fun j hj => let ⟨⟨x, e, p⟩, _⟩ := hdu j hj; ⟨x, e, ((p.gw Gw.rm_le).gw Gw.rm_le).gw gn⟩⟩
      generalize upd H9 l3 (.tup zs3) = H10 at G10 d10 vd ⊢
      refine ⟨_, rfl, _, rfl, mv, _, M, dep, wt, du, rfl, mk G10, ok, vd, hdu', tk G10, fun v11 H11 g11 r11 => ?_⟩
      obtain ⟨p11, ys11, rfl, s11, it11⟩ := r11
      refine ⟨p11, ys11, rfl, .inr s11, fun l11 hl11 => ?_⟩
      have gl11 := Gw.new (.lst ys11) hl11
      have G11 := G10.trans (g11.trans gl11).rm
      refine ⟨_, rfl, _, rfl, _, rfl, mv, _, _, M, dep, wt, du, rfl, mk G11, kk G11, ok, vd.gw (g11.trans gl11), hdu', fun v12 H12 g12 r12 => ?_⟩
      have vl11 : VL K H12 (.ref l11) M.N (LP.dueF M du) := ⟨l11, ys11, rfl, SqL.of (g12.at upd_same), it11.gw (gl11.trans g12)⟩
      refine ⟨_, _, .list (rowD (LP.dueF M du) 0 M.N), rfl, vl11.dp, VL.dp r12, (pl_row _ _ 0 (by omega)).2, fun v13 H13 g13 e => ?_⟩
      subst e
      have g1013 := (g11.trans gl11).trans (g12.trans g13)
      have G13 := G10.trans g1013.rm
      have d13 := d10.gw g1013
      refine ⟨_, rfl, iteF ?_⟩
      -- offer
      refine ⟨_, rfl, _, rfl, by omega, by omega, fun X4 hX4 => ?_⟩
      refine lc_growD (walk_rangeN (N := M.N) (by omega)) hX4 d13 (by omega) (fun j v H => ∃ o : Option Rat, OptP K H v o ∧ ∀ q, o = some q → LP.Du q) (fun _ _ _ _ g ⟨q, a, b⟩ => ⟨q, a.gw g, b⟩) (fun _ _ => True.intro) (fun j y Ha' Ha hj ga da ⟨ws, hw'⟩ hY C9 hC9 => ?_) (fun H14 zs4 g14 d14 hz4 ne4 lz4 iz4 => ?_)
      · obtain ⟨rfl, rfl⟩ := hY
        have ne := draws_ne d13 hX4
        refine ⟨rfl, _, rfl, D, 3, rfl, by decide, da, fun v Hb b0 b1 gb db => ⟨_, _, rfl, rfl, _, rfl, ?_⟩⟩
        by_cases hv : 0 < v
        · rw [decide_eq_true hv]
          exact iteT ⟨_, rfl, D, rfl, db, fun v H' q pq du g dd => hC9 v H' (gb.trans g) dd ⟨some q, pq.rm (ys := ws) ((gb.trans g).at (by rw [rm_ne ne]; exact hw')), fun q' e => by cases e; exact du⟩⟩
        · rw [decide_eq_false hv]
          exact iteF (hC9 _ _ gb db ⟨none, rfl, fun q' e => by cases e⟩)
      obtain ⟨o, ho⟩ := choice_lt (P := fun j (q : Option Rat) => (∃ x, zs4[j]? = some x ∧ OptP K (rm (rm H14 D) X4) x q) ∧ ∀ r, q = some r → LP.Du r) (m := M.N) (fun j hj => let ⟨x, e, q, p, d⟩ := iz4 j hj; ⟨q, ⟨x, e, p⟩, d⟩)
      have hdo : LP.DuO M.N o := fun j q hj e => (ho j hj).2 q e
      refine ⟨X4, zs4, rfl, .inl ⟨SqL.of hz4, fun l4 hl4 => ?_⟩⟩
      have gn4 := Gw.new (.tup zs4) hl4
      have d15 := d14.gw gn4
      have G15 : Gw (rm H3 D) (rm (upd H14 l4 (.tup zs4)) D) := G13.trans (g14.trans gn4.rm)
      have vo : OptT K (rm (upd H14 l4 (.tup zs4)) D) (.ref l4) M.N o := ⟨l4, zs4, rfl, by obtain ⟨nn, en⟩ := d15; exact sqT_rm (SqT.of upd_same) en, lz4, fun j hj => let ⟨⟨x, e, p⟩, _⟩ := ho j hj; ⟨x, e, (p.gw Gw.rm_le).gw gn4.rm⟩⟩
      generalize upd H14 l4 (.tup zs4) = H15 at G15 d15 vo ⊢
      -- call
      refine ⟨_, rfl, _, rfl, by omega, by omega, fun X5 hX5 => ?_⟩
      refine lc_growD (walk_rangeN (N := M.N) (by omega)) hX5 d15 (by omega) (fun j v H => ∃ c : Option Rat, OptP K H v c ∧ ∀ q, c = some q → LP.Du q ∧ 0 ≤ q ∧ ∀ r, o j = some r → r ≤ q) (fun _ _ _ _ g ⟨q, a, b⟩ => ⟨q, a.gw g, b⟩) (fun _ _ => True.intro) (fun j y Ha' Ha hj ga da ⟨ws, hw'⟩ hY C9 hC9 => ?_) (fun H16 zs5 g16 d16 hz5 ne5 lz5 iz5 => ?_)
      · obtain ⟨rfl, rfl⟩ := hY
        have ne := draws_ne d15 hX5
        refine ⟨rfl, _, rfl, D, 3, rfl, by decide, da, fun v Hb b0 b1 gb db => ⟨rfl, _, rfl, ?_⟩⟩
        by_cases hv : v = 0
        · rw [decide_eq_true (show V.int v = V.int 0 by rw [hv])]
          obtain ⟨ao, vs4, eo4, so4, lo4, io4⟩ := id vo
          obtain ⟨x, ex, px⟩ := io4 j hj
          have Gab : Gw (rm H15 D) (rm Hb D) := ga.trans gb
          refine iteT ⟨(show 2 ≤ sizeLine by decide), fun z1 hz1 => ⟨(show 1 ≤ sizeLine by decide), fun L1 hL1 => ?_⟩⟩
          have w1 := Gw.new (.tup [V.int 0, V.int 1]) hz1
          have w2 := Gw.new (.lst [V.ref z1]) hL1
          have hL1' : upd (upd Hb z1 (.tup [V.int 0, V.int 1])) L1 (.lst [V.ref z1]) L1 = some (.lst [V.ref z1]) := upd_same
          have hz1' := w2.at (a := z1) upd_same
          have neL1 : L1 ≠ D := draws_ne (db.gw w1) hL1
          have w12 := w1.trans w2
          have dc := db.gw w12
          generalize upd (upd Hb z1 (.tup [V.int 0, V.int 1])) L1 (.lst [V.ref z1]) = Hc at w12 hL1' hz1' dc ⊢
          have Gc := Gab.trans w12.rm
          cases eo4
          refine ⟨_, rfl, _, rfl, _, _, _, _, rfl, rfl, (Gc.trans Gw.rm_le).sqT so4, at_of rfl ex, _, rfl, D, rfl, dc, fun pv' Hd q pq du gd dd => ⟨(show 2 ≤ sizeLine by decide), fun L2 hL2 => ?_⟩⟩
          have Gd := Gc.trans gd
          have w3 := Gw.new (.lst [x, pv']) hL2
          have de := dd.gw w3
          have hL2' : upd Hd L2 (.lst [x, pv']) L2 = some (.lst [x, pv']) := upd_same
          have pqe : PAt K (rm (upd Hd L2 (.lst [x, pv'])) D) pv' q := pq.gw w3.rm
          have Ge := Gd.trans w3.rm
          have gce := gd.trans w3.rm
          generalize upd Hd L2 (.lst [x, pv']) = He at w3 de hL2' pqe Ge gce ⊢
          refine ⟨L2, rfl, ⟨_, SqL.of hL2'⟩, fun X6 hX6 => ?_⟩
          have pxe := px.gw Ge
          have neX : X6 ≠ D := draws_ne de hX6
          refine lc_it (walk_listY (K := K) (a := L2) (xs := [x, pv']) (n := 2) rfl) (fun n H' => H' X6 = some (.lst ((if 0 < n ∧ o j ≠ none then [x] else []) ++ if 1 < n then [pv'] else [])) ∧ Gw He (rm H' X6))
            ⟨upd_same, by rw [rm_upd, rm_none hX6]; exact Gw.refl _⟩ (fun n H' _ h => SqL.of ((h.2.trans Gw.rm_le).at hL2')) ?_ ?_
          · rintro n y Hf' Hf hn ⟨qf, gf⟩ ⟨rfl, hy⟩
            have h2 : n = 0 ∨ n = 1 := by omega
            rcases h2 with rfl | rfl
            · cases hy
              refine ⟨rfl, _, rfl, _, rfl, ?_⟩
              cases eo : o j with
              | none =>
                rw [eo] at px
                have px : x = .non := px
                subst px
                rw [eo] at qf
                exact iteF ⟨by simpa using qf, gf⟩
              | some r =>
                rw [eo] at px qf
                obtain ⟨⟨ax, rfl, _⟩, _⟩ := id px
                refine iteT ⟨_, rfl, _, qf, (show 0 < sizeLine by decide), ?_, by rw [rm_upd]; exact gf⟩
                rw [upd_same]; simp
            · cases hy
              obtain ⟨⟨ap, rfl, _⟩, _⟩ := id pqe
              refine ⟨rfl, _, rfl, _, rfl, iteT ⟨_, rfl, _, qf, ?_, ?_, by rw [rm_upd]; exact gf⟩⟩
              · rw [List.length_append]
                split
                · exact (show 1 + 0 < sizeLine by decide)
                · exact (show 0 + 0 < sizeLine by decide)
              · rw [upd_same]
                congr 2
                by_cases e : o j = none
                · simp [e]
                · simp [e]
          · rintro Hf ⟨qf, gf⟩
            have qf : Hf X6 = some (.lst ((if 0 < 2 ∧ o j ≠ none then [x] else []) ++ [pv'])) := qf
            have Gf := gf.trans Gw.rm_le
            have hL1f : Hf L1 = some (.lst [V.ref z1]) := Gf.at ((rm_some (gce.at (by rw [rm_ne neL1]; exact hL1'))).2)
            have df := de.gw Gf
            have hz1f : SqT K Hf z1 [.int 0, .int 1] := (Gf).sqT (Gw.rm_le.sqT (gce.sqT (by
              obtain ⟨nn, en⟩ := id dc
              exact sqT_rm (SqT.of hz1') en)))
            refine ⟨L1, X6, _, _, rfl, rfl, hL1f, qf, ?_, fun p hp => ?_⟩
            · rw [List.length_append]
              split
              · exact (show 1 + (1 + 1) ≤ sizeLine by decide)
              · exact (show 1 + (0 + 1) ≤ sizeLine by decide)
            have gp := Gw.new (.lst ([V.ref z1] ++ ((if 0 < 2 ∧ o j ≠ none then [x] else []) ++ [pv']))) hp
            have pzp : PAt K (upd Hf p (.lst ([V.ref z1] ++ ((if 0 < 2 ∧ o j ≠ none then [x] else []) ++ [pv'])))) (.ref z1) (0 : Rat) := ⟨⟨z1, rfl, gp.sqT hz1f⟩, fit_zero⟩
            have pqp := (pqe.gw Gw.rm_le).gw (Gf.trans gp)
            have pxp := (pxe.gw Gw.rm_le).gw (Gf.trans gp)
            have spq : SqL K (upd Hf p (.lst ([V.ref z1] ++ ((if 0 < 2 ∧ o j ≠ none then [x] else []) ++ [pv'])))) p ([V.ref z1] ++ ((if 0 < 2 ∧ o j ≠ none then [x] else []) ++ [pv'])) := SqL.of upd_same
            have dp := df.gw gp
            have Gbp : Gw (rm Hb D) (rm (upd Hf p (.lst ([V.ref z1] ++ ((if 0 < 2 ∧ o j ≠ none then [x] else []) ++ [pv'])))) D) := w12.rm.trans (gce.trans (Gf.trans gp).rm)
            generalize upd Hf p (.lst ([V.ref z1] ++ ((if 0 < 2 ∧ o j ≠ none then [x] else []) ++ [pv']))) = Hg at pzp pqp pxp spq dp Gbp ⊢
            have ending : ∀ (Hz : Hp) (vz : V) (qz : Rat), Gw Hg Hz → PAt K Hz vz qz → (LP.Du qz ∧ 0 ≤ qz ∧ ∀ r, o j = some r → r ≤ qz) → C9 vz Hz := fun Hz vz qz gz pz hz => by
              obtain ⟨nn, en⟩ := id (dp.gw gz)
              have hX5 : rm Hz D X5 = some (.lst ws) := (gb.trans (Gbp.trans gz.rm)).at (by rw [rm_ne ne]; exact hw')
              exact hC9 vz Hz (gb.trans (Gbp.trans gz.rm)) ⟨nn, en⟩ ⟨some qz, (pz.rm en).rm hX5, fun q' e => by cases e; exact hz⟩
            have z0 : LP.Du 0 := ⟨by rw [Rat.mul_zero]; exact LP.isI_zero, by constructor <;> decide⟩
            cases eo : o j with
            | none =>
              rw [eo] at spq
              have spq : SqL K Hg p [V.ref z1, pv'] := by simpa using spq
              refine ⟨_, 2, fun k => if k = 0 then 0 else q, rfl, ⟨p, _, rfl, spq, rfl, fun k hk => ?_⟩, by decide, by decide, fun vz Hz gz ⟨qz, pz, ⟨k, hk, ek⟩, ub⟩ => ending Hz vz qz gz pz ⟨?_, ub 0 (by decide), fun r e => by rw [eo] at e; cases e⟩⟩
              · have k2 : k = 0 ∨ k = 1 := by omega
                rcases k2 with rfl | rfl
                · exact ⟨_, rfl, pzp⟩
                · exact ⟨_, rfl, pqp⟩
              · have k2 : k = 0 ∨ k = 1 := by omega
                rcases k2 with rfl | rfl
                · rw [← ek]; exact z0
                · rw [← ek]; exact du
            | some r =>
              rw [eo] at spq pxp
              have spq : SqL K Hg p [V.ref z1, x, pv'] := by simpa using spq
              have dr : LP.Du r := hdo j r hj eo
              refine ⟨_, 3, fun k => if k = 0 then 0 else if k = 1 then r else q, rfl, ⟨p, _, rfl, spq, rfl, fun k hk => ?_⟩, by decide, by decide, fun vz Hz gz ⟨qz, pz, ⟨k, hk, ek⟩, ub⟩ => ending Hz vz qz gz pz ⟨?_, ub 0 (by decide), fun r' e => by rw [eo] at e; cases e; exact ub 1 (by decide)⟩⟩
              · have k2 : k = 0 ∨ k = 1 ∨ k = 2 := by omega
                rcases k2 with rfl | rfl | rfl
                · exact ⟨_, rfl, pzp⟩
                · exact ⟨_, rfl, pxp⟩
                · exact ⟨_, rfl, pqp⟩
              · have k2 : k = 0 ∨ k = 1 ∨ k = 2 := by omega
                rcases k2 with rfl | rfl | rfl
                · rw [← ek]; exact z0
                · rw [← ek]; exact dr
                · rw [← ek]; exact du
        · rw [decide_eq_false (show ¬ V.int v = V.int 0 from fun z => hv (V.int.inj z))]
          exact iteF (hC9 _ _ gb db ⟨none, rfl, fun q' e => by cases e⟩)
      obtain ⟨cl, hcl⟩ := choice_lt (P := fun j (q : Option Rat) => (∃ x, zs5[j]? = some x ∧ OptP K (rm (rm H16 D) X5) x q) ∧ ∀ r, q = some r → LP.Du r ∧ 0 ≤ r ∧ ∀ s, o j = some s → s ≤ r) (m := M.N) (fun j hj => let ⟨x, e, q, p, d⟩ := iz5 j hj; ⟨q, ⟨x, e, p⟩, d⟩)
      have hdc : LP.DuO M.N cl := fun j q hj e => ((hcl j hj).2 q e).1
      refine ⟨X5, zs5, rfl, .inl ⟨SqL.of hz5, fun l5 hl5 => ?_⟩⟩
      have gn5 := Gw.new (.tup zs5) hl5
      have d17 := d16.gw gn5
      have G1517 : Gw (rm H15 D) (rm (upd H16 l5 (.tup zs5)) D) := g16.trans gn5.rm
      have vc : OptT K (upd H16 l5 (.tup zs5)) (.ref l5) M.N cl := ⟨l5, zs5, rfl, SqT.of upd_same, lz5, fun j hj => let ⟨⟨x, e, p⟩, _⟩ := hcl j hj; ⟨x, e, ((p.gw Gw.rm_le).gw Gw.rm_le).gw gn5⟩⟩
      generalize upd H16 l5 (.tup zs5) = H17 at G1517 d17 vc ⊢
      have G17 := G15.trans G1517
      have vo17 := (vo.gw G1517).gw Gw.rm_le
      have cz := LP.off_cz ok (cl := fun _ => none) hdo (fun i q _ h => by cases h)
      have dn0 : LP.DuO M.N (fun _ => none) := fun i q _ h => by cases h
      -- none, whole
      refine ⟨(show 1 ≤ sizeLine by decide), fun t1 ht1 => ⟨_, rfl, t1, _, _, rfl, rfl, SqT.of upd_same, List.cons_ne_nil _ _, by omega, by omega, (show 1 ≤ 1000 by decide), (fun eN => ?_), fun q1 hq1 => ?_⟩⟩
      case' refine_1 =>
        have gA := Gw.new (.tup [V.non]) ht1
        generalize upd H17 t1 (.tup [V.non]) = HA at gA ⊢
        generalize V.ref t1 = nv
      case' refine_2 =>
        have gA := (Gw.new (.tup [V.non]) ht1).trans (Gw.new (.tup (List.replicate ((M.N : Nat) : Int).toNat [V.non]).flatten) hq1)
        generalize upd (upd H17 t1 (.tup [V.non])) q1 (.tup (List.replicate ((M.N : Nat) : Int).toNat [V.non]).flatten) = HA at gA ⊢
        generalize V.ref q1 = nv
      all_goals
        have GA := G17.trans gA.rm
        refine ⟨_, rfl, _, rfl, _, rfl, (show 1 ≤ sizeLine by decide), fun t2 ht2 => ⟨_, rfl, t2, _, _, rfl, rfl, SqT.of upd_same, List.cons_ne_nil _ _, by omega, by omega, (show 1 ≤ 1000 by decide), (fun eN => ?_), fun q2 hq2 => ?_⟩⟩
        case' refine_1 =>
          have gB := Gw.new (.tup [V.non]) ht2
          have vn : OptT K (upd HA t2 (.tup [V.non])) (.ref t2) M.N (fun _ => none) := ⟨t2, _, rfl, SqT.of upd_same, by show 1 = M.N; omega, fun j hj => ⟨.non, by
            have : j = 0 := by omega
            subst this; rfl, rfl⟩⟩
          generalize upd HA t2 (.tup [V.non]) = HB at gB vn ⊢
          generalize V.ref t2 = nw at vn ⊢
        case' refine_2 =>
          have gB := (Gw.new (.tup [V.non]) ht2).trans (Gw.new (.tup (List.replicate ((M.N : Nat) : Int).toNat [V.non]).flatten) hq2)
          have vn : OptT K (upd (upd HA t2 (.tup [V.non])) q2 (.tup (List.replicate ((M.N : Nat) : Int).toNat [V.non]).flatten)) (.ref q2) M.N (fun _ => none) := ⟨q2, _, rfl, SqT.of upd_same, by rw [flat1, List.length_replicate]; omega, fun j hj => ⟨.non, by rw [flat1, List.getElem?_replicate, if_pos (by omega)], rfl⟩⟩
          generalize upd (upd HA t2 (.tup [V.non])) q2 (.tup (List.replicate ((M.N : Nat) : Int).toNat [V.non]).flatten) = HB at gB vn ⊢
          generalize V.ref q2 = nw at vn ⊢
        all_goals
          have gAB := gA.trans gB
          have GB := G17.trans gAB.rm
          refine ⟨mv, _, _, _, M, dep, wt, o, _, rfl, mk GB, kk GB, ok, vo17.gw gAB, hdo, vn, dn0, fun vw H18 g18 r18 => ⟨_, _, rfl, ?_⟩⟩
          have r18 : VL K H18 vw M.N (LP.offF M o fun _ => none) := r18
          have g1718 := gAB.trans g18
          have G18 := G17.trans g1718.rm
          -- the judges
          refine ⟨_, rfl, _, rfl, mv, _, M, o, rfl, mk G18, vo17.gw g1718, tk G18, fun v19 H19 g19 e => ?_⟩
          subst e
          refine ⟨true, true, rfl, ?_⟩
          rw [decide_eq_true rfl]
          have g1719 := g1718.trans g19
          have G19 := G17.trans g1719.rm
          refine ⟨_, rfl, iteF ⟨_, rfl, _, rfl, _, rfl, mv, _, _, M, o, cl, rfl, mk G19, n12, vo17.gw g1719, vc.gw g1719, fun j c hj e => ⟨((hcl j hj).2 c e).2.1, fun q hq => ((hcl j hj).2 c e).2.2 q hq⟩, fun v20 H20 g20 e => ?_⟩⟩
          subst e
          refine ⟨true, true, rfl, ?_⟩
          rw [decide_eq_true rfl]
          have g1720 := g1719.trans g20
          have G20 := G17.trans g1720.rm
          refine ⟨_, rfl, iteF ⟨_, rfl, _, rfl, mv, _, M, dep, wt, o, rfl, mk G20, ok, vo17.gw g1720, hdo, tk G20, fun v21 H21 g21 r21 => ?_⟩⟩
          obtain ⟨p21, ys21, rfl, s21, it21⟩ := r21
          refine ⟨p21, ys21, rfl, .inr s21, fun l21 hl21 => ?_⟩
          have gl21 := Gw.new (.lst ys21) hl21
          have vl21 : VL K (upd H21 l21 (.lst ys21)) (.ref l21) M.N (LP.offF M o fun _ => none) := ⟨l21, ys21, rfl, SqL.of upd_same, it21.gw gl21⟩
          refine ⟨_, rfl, _, _, .list (rowD (LP.offF M o fun _ => none) 0 M.N), rfl, vl21.dp, (r18.gw (g19.trans (g20.trans (g21.trans gl21)))).dp, (pl_row _ _ 0 (by omega)).2, fun v22 H22 g22 e => ?_⟩
          subst e
          have g1722 := g1720.trans (g21.trans (gl21.trans g22))
          have G22 := G17.trans g1722.rm
          refine ⟨_, rfl, iteF ?_⟩
          -- called off, several times
          refine ⟨_, rfl, _, rfl, _, rfl, mv, _, _, M, dep, wt, o, cl, rfl, mk G22, ok, vo17.gw g1722, hdo, vc.gw g1722, hdc, tk G22, fun v23 H23 g23 r23 => ?_⟩
          obtain ⟨p23, ys23, rfl, s23, it23⟩ := r23
          refine ⟨p23, ys23, rfl, .inr s23, fun l23 hl23 => ?_⟩
          have gl23 := Gw.new (.lst ys23) hl23
          have vl23 : VL K (upd H23 l23 (.lst ys23)) (.ref l23) M.N (LP.offF M o cl) := ⟨l23, ys23, rfl, SqL.of upd_same, it23.gw gl23⟩
          have g1723 := g1722.trans (g23.trans gl23)
          have G23 := G17.trans g1723.rm
          refine ⟨_, rfl, _, rfl, _, rfl, _, rfl, mv, _, _, _, M, dep, wt, o, cl, rfl, mk G23, kk G23, ok, vo17.gw g1723, hdo, vc.gw g1723, hdc, fun v24 H24 g24 r24 => ?_⟩
          refine ⟨_, _, .list (rowD (LP.offF M o cl) 0 M.N), rfl, (vl23.gw g24).dp, VL.dp r24, (pl_row _ _ 0 (by omega)).2, fun v25 H25 g25 e => ?_⟩
          subst e
          have g1725 := g1723.trans (g24.trans g25)
          have G25 := G17.trans g1725.rm
          refine ⟨_, rfl, iteF ⟨_, rfl, _, rfl, mv, _, M, dep, wt, o, 3, rfl, by decide, mk G25, ok, vo17.gw g1725, hdo, tk G25, fun v26 H26 g26 r26 => ?_⟩⟩
          have g1726 := g1725.trans g26
          have G26 := G17.trans g1726.rm
          refine ⟨_, rfl, _, rfl, _, rfl, mv, _, _, M, dep, wt, o, 3, rfl, by decide, mk G26, kk G26, ok, vo17.gw g1726, hdo, fun v27 H27 g27 r27 => ?_⟩
          obtain ⟨aa, za, rfl, sa, la, ia⟩ := r26
          obtain ⟨ab, zb, rfl, sb, lb, ib⟩ := r27
          refine ⟨_, _, .tuple ((List.range 4).map fun s => .tuple (rowD (LP.timF M o s) 0 M.N)), rfl, .tup (g27.sqT sa) (dpA_of la fun s hs => let ⟨x, e, r⟩ := ia s hs; ⟨x, e, (r.gw g27).dp⟩), .tup sb (dpA_of lb fun s hs => let ⟨x, e, r⟩ := ib s hs; ⟨x, e, r.dp⟩), ?_, fun v28 H28 g28 e => ?_⟩
          · refine .inr ⟨_, .inr rfl, by rw [List.length_map, List.length_range]; decide, fun e he => ?_⟩
            obtain ⟨s, _, rfl⟩ := List.mem_map.mp he
            exact (pl_row _ _ 0 (by omega)).1
          subst e
          have g1728 := g1726.trans (g27.trans g28)
          have G28 := G17.trans g1728.rm
          refine ⟨_, rfl, iteF ?_⟩
          -- best moments
          refine ⟨_, rfl, _, rfl, mv, _, M, dep, wt, o, rfl, mk G28, ok, vo17.gw g1728, hdo, tk G28, fun v29 H29 g29 r29 => ?_⟩
          have g1729 := g1728.trans g29
          have G29 := G17.trans g1729.rm
          refine ⟨_, rfl, _, rfl, mv, _, M, dep, wt, o, rfl, mk G29, ok, vo17.gw g1729, hdo, tk G29, fun v30 H30 g30 r30 => ⟨(show 2 ≤ sizeLine by decide), fun l30 hl30 => ?_⟩⟩
          have gl30 := Gw.new (.lst [v29, v30]) hl30
          have g1730 := g1729.trans (g30.trans gl30)
          have G30 := G17.trans g1730.rm
          have g1830 : Gw H18 (upd H30 l30 (.lst [v29, v30])) := g19.trans (g20.trans (g21.trans (gl21.trans (g22.trans (g23.trans (gl23.trans (g24.trans (g25.trans (g26.trans (g27.trans (g28.trans (g29.trans (g30.trans gl30)))))))))))))
          refine ⟨_, rfl, _, rfl, _, rfl, _, rfl, mv, _, _, _, false, M, dep, wt, o, rfl, mk G30, kk G30, ok, vo17.gw g1730, hdo, r18.gw g1830, fun v31 H31 g31 r31 => ?_⟩
          have g1731 := g1730.trans g31
          have G31 := G17.trans g1731.rm
          refine ⟨_, rfl, _, rfl, _, rfl, _, rfl, mv, _, _, _, true, M, dep, wt, o, rfl, mk G31, kk G31, ok, vo17.gw g1731, hdo, r18.gw (g1830.trans g31), fun v32 H32 g32 r32 => ⟨(show 2 ≤ sizeLine by decide), fun l32 hl32 => ?_⟩⟩
          have gl32 := Gw.new (.lst [v31, v32]) hl32
          have lE : (bestE M o).length ≤ 12 := Nat.le_trans (List.length_filter_le ..) (by rw [List.length_range]; exact n12)
          have lL : (bestL M o).length ≤ 12 := Nat.le_trans (List.length_filter_le ..) (by rw [List.length_range]; exact n12)
          refine ⟨_, _, .list [.tuple ((firstL M dep (bestE M o)).map fun n => PyData.int ((n : Nat) : Int)), .tuple ((firstL M dep (bestL M o)).map fun n => PyData.int ((n : Nat) : Int))], rfl,
            .lst (SqL.of ((g31.trans (g32.trans gl32)).at upd_same)) (.cons ((NatT.gw r29 (g30.trans (gl30.trans (g31.trans (g32.trans gl32))))).dp) (.cons ((NatT.gw r30 (gl30.trans (g31.trans (g32.trans gl32)))).dp) .nil)),
            .lst (SqL.of upd_same) (.cons ((NatT.gw r31 (g32.trans gl32)).dp) (.cons ((NatT.gw r32 gl32).dp) .nil)), ?_, fun v33 H33 g33 e => ?_⟩
          · refine .inr ⟨_, .inl rfl, (show 2 ≤ 1000 by decide), fun e he => ?_⟩
            rcases List.mem_cons.mp he with rfl | he
            · exact pl_nats _ (first_len lE) 0
            · rw [List.mem_singleton.mp he]
              exact pl_nats _ (first_len lL) 0
          subst e
          have g1733 := g1731.trans (g32.trans (gl32.trans g33))
          have G33 := G17.trans g1733.rm
          have d33 := d17.gw g1733
          refine ⟨_, rfl, iteF ?_⟩
          -- what it takes at each node
          refine ⟨_, rfl, _, rfl, by omega, by omega, ?_⟩
          generalize hmk : V.ref l4 = ov4 at *
          refine for_it (walk_rangeN (N := M.N) (by omega)) (fun i σ H' => (∃ u2 u6 u7 u8 u9 u10 u11, σ = [some (.ref a), some (.ref D), u2, some mv, some (.ref ak), some (.int (M.N : Nat)), u6, u7, u8, u9, u10, u11, none, none, none]) ∧ Gw (rm H3 D) (rm H' D) ∧ Draws H' D)
            ⟨⟨_, _, _, _, _, _, _, rfl⟩, G33, d33⟩ (fun _ _ _ _ _ => True.intro) ?_ ?_
          · rintro i y σ H34' H34 hi' ⟨⟨w2, w6, w7, w8, w9, w10, w11, rfl⟩, G34, d34⟩ ⟨rfl, rfl⟩
            obtain ⟨bk, bk1, bk2⟩ := k3 i hi'
            have lk : ((M.kids i).map natV).length = M.m i := List.length_map ..
            have m4 := ok.m4 i
            refine ⟨_, rfl, _, rfl, _, rfl, _, rfl, _, rfl, _, _, _, _, rfl, rfl, kl G34, at_of rfl bk1, bk, rfl, ⟨_, (G34.trans Gw.rm_le).sqL bk2⟩, fun X7 hX7 => ?_⟩
            refine lc_growD (walk_listY (K := K) (a := bk) (xs := (M.kids i).map natV) (n := M.m i) lk) hX7 d34 (by omega) (fun j v H => ∃ q, PAt K H v q ∧ LP.Du q) (fun _ _ _ _ g ⟨q, a, b⟩ => ⟨q, a.gw g, b⟩) (fun H' g => ((G34.trans g).trans Gw.rm_le).sqL bk2) (fun j y Ha' Ha hj ga da ⟨ws, hw'⟩ hY C9 hC9 => ?_) (fun H35 zs g35 d35 hz ne35 lz iz => ?_)
            · obtain ⟨rfl, _⟩ := hY
              have ne := draws_ne d34 hX7
              exact ⟨rfl, _, rfl, D, rfl, da, fun v H' q pq du g dd => hC9 v H' g dd ⟨q, pq.rm (ys := ws) (g.at (by rw [rm_ne ne]; exact hw')), du⟩⟩
            obtain ⟨c, hc⟩ := choice_lt (P := fun j q => (∃ x, zs[j]? = some x ∧ PAt K (rm (rm H35 D) X7) x q) ∧ LP.Du q) (m := M.m i) (fun j hj => let ⟨x, e, q, p, d⟩ := iz j hj; ⟨q, ⟨x, e, p⟩, d⟩)
            have G35 := G34.trans g35
            refine ⟨mv, _, _, M, dep, wt, i, c, rfl, mk G35, kk G35, ok, hi', ⟨X7, zs, rfl, SqL.of hz, lz, fun j hj => let ⟨⟨x, e, p⟩, _⟩ := hc j hj; ⟨x, e, (p.gw Gw.rm_le).gw Gw.rm_le⟩⟩, fun j hj => (hc j hj).2, tk G35, fun v36 H36 g36 e => ?_⟩
            subst e
            exact ⟨_, rfl, iteF ⟨⟨_, _, _, _, _, _, _, rfl⟩, G35.trans g36.rm, d35.gw g36⟩⟩
          · rintro σ H34 ⟨⟨w2, w6, w7, w8, w9, w10, w11, rfl⟩, G34, d34⟩
            exact ⟨⟨_, _, _, _, _, _, _, _, _, _, rfl⟩, g2.trans (g3.trans G34), d34⟩
    · rintro σ H2 _
      exact k _
end
end K44


set_option Elab.async false
set_option linter.all false
set_option maxRecDepth 100000
set_option maxHeartbeats 4000000
/-! What the top has written; the end. -/
namespace K44
open PySem L2
/-- the def st stands at f under its name -/
def FAt (K : PySem.W.Frag) (mg : Str → Option Value) (x : Str) (st : Stmt) : Prop := ∃ (f : Addr) (fd : FuncData), mg x = some (.ref f) ∧ Fun K x x st f fd
theorem FAt.of {K : PySem.W.Frag} {h : Heap} {mg : Str → Option Value} (X : K.In h) (G : h.Ns mainGlobals mg) {x : Str} {st : Stmt} {f : Addr} {oc : Value} {od an : Option Addr} {osl : Array (Option Value)} {kV doc pm cdv ct : Value}
    (a : PySem.W.nsIn K mainGlobals x = some (some (.ref f))) (l : K.lookup f = some ⟨oc, od, .func (PySem.W.fnOf x x (defArgs st) (defBody st) (defScope st) .none kV doc pm an cdv ct), osl⟩) (c : PySem.W.codeIn K cdv x = true) (k : PySem.W.keepIn K (.ref f) = true) : FAt K mg x st :=
  ⟨f, _, PySem.W.mg_of X G a, fun_mk l c k⟩
/-- .. its code object at c -/
def CAt (K : PySem.W.Frag) (mg : Str → Option Value) (x : Str) (st : Stmt) (c : Addr) : Prop := ∃ (f : Addr) (fd : FuncData), mg x = some (.ref f) ∧ FunC K x x st c f fd ∧ Fun K x x st f fd
theorem CAt.of {K : PySem.W.Frag} {h : Heap} {mg : Str → Option Value} (X : K.In h) (G : h.Ns mainGlobals mg) {x : Str} {st : Stmt} {f co : Addr} {oc : Value} {od an : Option Addr} {osl : Array (Option Value)} {kV doc pm ct : Value}
    (a : PySem.W.nsIn K mainGlobals x = some (some (.ref f))) (l : K.lookup f = some ⟨oc, od, .func (PySem.W.fnOf x x (defArgs st) (defBody st) (defScope st) .none kV doc pm an (.ref co) ct), osl⟩) (c : PySem.W.codeIn K (.ref co) x = true) (k : PySem.W.keepIn K (.ref f) = true) : CAt K mg x st co :=
  ⟨f, _, PySem.W.mg_of X G a, ⟨⟨oc, od, kV, doc, pm, an, ct, osl, rfl, l, c⟩, k⟩, fun_mk l c k⟩
/-- a method -/
def MAt (K : PySem.W.Frag) (C : Addr) (x qual : Str) (st : Stmt) : Prop := ∃ (f : Addr) (fd : FuncData), Meth K C x f ∧ Fun K x qual st f fd
theorem MAt.of {K : PySem.W.Frag} {C : Addr} {x qual : Str} {st : Stmt} {f : Addr} {oc : Value} {od an : Option Addr} {osl : Array (Option Value)} {kV doc pm cdv ct : Value}
    (a : PySem.W.findIn K (.ref C) x = some (some (.ref f))) (i : PySem.W.isFn K (.ref f) = true) (l : K.lookup f = some ⟨oc, od, .func (PySem.W.fnOf x qual (defArgs st) (defBody st) (defScope st) .none kV doc pm an cdv ct), osl⟩) (c : PySem.W.codeIn K cdv qual = true) (k : PySem.W.keepIn K (.ref f) = true) : MAt K C x qual st :=
  ⟨f, _, ⟨a, i, k⟩, fun_mk l c k⟩
/-- a constant that is a part -/
theorem two_sq {K : PySem.W.Frag} {h : Heap} {mg : Str → Option Value} (X : K.In h) (G : h.Ns mainGlobals mg) {x : Str} {a : Addr} {i j : Int} {t u : Tok} {od : Option Addr} {n : Nat} {sl : Array (Option Value)}
    (e : PySem.W.nsIn K mainGlobals x = some (some (.ref a))) (l : K.lookup a = some ⟨.type "tuple", od, .seq #[.int i t, .int j u] n, sl⟩) : ∃ a, mg x = some (.ref a) ∧ ∀ H, SqT K H a [.int i, .int j] :=
  ⟨a, PySem.W.mg_of X G e, fun _ => .inr ⟨_, _, _, l, rfl, rfl, (show 2 ≤ sizeLine by decide), .cons ⟨t, rfl⟩ (.cons ⟨u, rfl⟩ .nil)⟩⟩
theorem int_g {K : PySem.W.Frag} {h : Heap} {mg : Str → Option Value} (X : K.In h) (G : h.Ns mainGlobals mg) {x : Str} {i : Int} {t : Tok} (e : PySem.W.nsIn K mainGlobals x = some (some (.int i t))) : ∃ t, mg x = some (.int i t) := ⟨t, PySem.W.mg_of X G e⟩
theorem noat {K : PySem.W.Frag} {C : Addr} {f : Str} (h : PySem.W.findIn K (.ref C) f = some none) : NoAttr K C f := h
theorem str_g {K : PySem.W.Frag} {h : Heap} {mg : Str → Option Value} (X : K.In h) (G : h.Ns mainGlobals mg) {x z : Str} {t : Tok} (e : PySem.W.nsIn K mainGlobals x = some (some (.str z t))) : ∃ t, mg x = some (.str z t) := ⟨t, PySem.W.mg_of X G e⟩
abbrev tsT : List Addr := [124, 208, 215, 255, 262, 376, 407]
abbrev t0 : Tabs := ⟨262, 255, 124, 208, 215, 376, 407⟩
abbrev csT : List (Addr × Addr) := [(128, 124), (212, 208), (219, 215), (259, 255), (266, 262), (380, 376), (411, 407)]
theorem all_mk {l : PySem.W.OpenLaw} {w : World} {K : PySem.W.Frag} {h : Heap} {mg : Str → Option Value} {fa C : Addr} (X : K.In h) (G : h.Ns mainGlobals mg) (hfa : mg "law" = some (.ref fa)) (hT : ∀ P ∈ tsT, h.get? P = some (PySem.W.tabObj #[])) (nT : ∀ p ∈ csT, K.lookup p.2 = none) (hH : ∀ p ∈ csT, PySem.W.codeHdIn K p.1 p.2 = true)
    (T : Txt K mg) (U : CTxt K mg C) (mk : PySem.W.makesIn K C = true) (kc : PySem.W.keepIn K (.ref C) = true)
    (A_is_number : FAt K mg "is_number" sIsNumber)
    (A_is_part : FAt K mg "is_part" sIsPart)
    (A_part : FAt K mg "part" sPart)
    (A_plus : FAt K mg "plus" sPlus)
    (A_minus : FAt K mg "minus" sMinus)
    (A_times : FAt K mg "times" sTimes)
    (A_over : FAt K mg "over" sOver)
    (A_is_less : FAt K mg "is_less" sLess)
    (A_least_of : FAt K mg "least_of" sLeastOf)
    (A_most_of : FAt K mg "most_of" sMostOf)
    (A_sum_of : FAt K mg "sum_of" sSumOf)
    (A_weighed : FAt K mg "weighed" sWeighed)
    (A_is_market : FAt K mg "is_market" sIsMarket)
    (A_node_of : FAt K mg "node_of" sNodeOf)
    (A_children : FAt K mg "children" sChildren)
    (A_way_to : FAt K mg "way_to" sWayTo)
    (A_prices_of : FAt K mg "prices_of" sPricesOf)
    (A_most : FAt K mg "most" sMost)
    (A_least : FAt K mg "least" sLeast)
    (A_brought : FAt K mg "brought" sBrought)
    (A_brought_at : FAt K mg "brought_at" sBroughtAt)
    (A_weights_at : FAt K mg "weights_at" sWeightsAt)
    (A_sure_gain : FAt K mg "sure_gain" sSureGain)
    (A_check_gains : FAt K mg "check_gains" sCheckGains)
    (A_takes : FAt K mg "takes" sTakes)
    (A_needed : FAt K mg "needed" sNeeded)
    (A_costs_of : FAt K mg "costs_of" sCostsOf)
    (A_first_ones : FAt K mg "first_ones" sFirstOnes)
    (A_earliest : FAt K mg "earliest" sEarliest)
    (A_latest : FAt K mg "latest" sLatest)
    (A_is_call : FAt K mg "is_call" sIsCall)
    (A_uncalled : FAt K mg "uncalled" sUncalled)
    (A_costs_with : FAt K mg "costs_with" sCostsWith)
    (A_costs_of_dues : FAt K mg "costs_of_dues" sDues)
    (A_costs_for : FAt K mg "costs_for" sCostsFor)
    (A__law_draws : FAt K mg "_law_draws" sLDraws)
    (A__law_take : FAt K mg "_law_take" sLTake)
    (A__law_alike : FAt K mg "_law_alike" sLAlike)
    (A__law_says : FAt K mg "_law_says" sLSays)
    (A__law_low : FAt K mg "_law_low" sLLow)
    (A__law_plus : FAt K mg "_law_plus" sLPlus)
    (A__law_times : FAt K mg "_law_times" sLTimes)
    (A__law_minus : FAt K mg "_law_minus" sLMinus)
    (A__law_over : FAt K mg "_law_over" sLOver)
    (A__law_less : FAt K mg "_law_less" sLLess)
    (A__law_most : FAt K mg "_law_most" sLMost)
    (A__law_tree : FAt K mg "_law_tree" sLTree)
    (A__law_takes : FAt K mg "_law_takes" sLTakes)
    (A__law_dues : FAt K mg "_law_dues" sLDues)
    (A__law_offered : FAt K mg "_law_offered" sLOffered)
    (A__law_times_taken : FAt K mg "_law_times_taken" sLTimesT)
    (A__law_shown : FAt K mg "_law_shown" sLShown)
    (A__law_first : FAt K mg "_law_first" sLFirst)
    (A__law_part : FAt K mg "_law_part" sLPart)
    (A_law : FAt K mg "law" sLaw)
    (A_is_word : CAt K mg "is_word" sIsWord 128)
    (A_are_names : CAt K mg "are_names" sAreNames 212)
    (A_are_prices : CAt K mg "are_prices" sArePrices 219)
    (A_is_system : CAt K mg "is_system" sIsSystem 259)
    (A_is_places : CAt K mg "is_places" sIsPlaces 266)
    (A_is_offer : CAt K mg "is_offer" sIsOffer 380)
    (A_is_behind : CAt K mg "is_behind" sIsBehind 411)
    (A___init__ : MAt K C "__init__" "Table.__init__" (sT 0))
    (A_reduced : MAt K C "reduced" "Table.reduced" (sT 1))
    (A_entering : MAt K C "entering" "Table.entering" (sT 2))
    (A_leaving : MAt K C "leaving" "Table.leaving" (sT 3))
    (A_turn : MAt K C "turn" "Table.turn" (sT 4))
    (A_climb : MAt K C "climb" "Table.climb" (sT 5))
    (A_weights : MAt K C "weights" "Table.weights" (sT 6))
    (A_sides : MAt K C "sides" "Table.sides" (sT 7))
    (A_way : MAt K C "way" "Table.way" (sT 8))
    : LamX.LawAtS l w K CX0 14 63 "script" mg fa h := by
  obtain ⟨f_is_number, fd_is_number, m_is_number, F_is_number⟩ := A_is_number
  obtain ⟨f_is_part, fd_is_part, m_is_part, F_is_part⟩ := A_is_part
  obtain ⟨f_part, fd_part, m_part, F_part⟩ := A_part
  obtain ⟨f_plus, fd_plus, m_plus, F_plus⟩ := A_plus
  obtain ⟨f_minus, fd_minus, m_minus, F_minus⟩ := A_minus
  obtain ⟨f_times, fd_times, m_times, F_times⟩ := A_times
  obtain ⟨f_over, fd_over, m_over, F_over⟩ := A_over
  obtain ⟨f_is_less, fd_is_less, m_is_less, F_is_less⟩ := A_is_less
  obtain ⟨f_least_of, fd_least_of, m_least_of, F_least_of⟩ := A_least_of
  obtain ⟨f_most_of, fd_most_of, m_most_of, F_most_of⟩ := A_most_of
  obtain ⟨f_sum_of, fd_sum_of, m_sum_of, F_sum_of⟩ := A_sum_of
  obtain ⟨f_weighed, fd_weighed, m_weighed, F_weighed⟩ := A_weighed
  obtain ⟨f_is_market, fd_is_market, m_is_market, F_is_market⟩ := A_is_market
  obtain ⟨f_node_of, fd_node_of, m_node_of, F_node_of⟩ := A_node_of
  obtain ⟨f_children, fd_children, m_children, F_children⟩ := A_children
  obtain ⟨f_way_to, fd_way_to, m_way_to, F_way_to⟩ := A_way_to
  obtain ⟨f_prices_of, fd_prices_of, m_prices_of, F_prices_of⟩ := A_prices_of
  obtain ⟨f_most, fd_most, m_most, F_most⟩ := A_most
  obtain ⟨f_least, fd_least, m_least, F_least⟩ := A_least
  obtain ⟨f_brought, fd_brought, m_brought, F_brought⟩ := A_brought
  obtain ⟨f_brought_at, fd_brought_at, m_brought_at, F_brought_at⟩ := A_brought_at
  obtain ⟨f_weights_at, fd_weights_at, m_weights_at, F_weights_at⟩ := A_weights_at
  obtain ⟨f_sure_gain, fd_sure_gain, m_sure_gain, F_sure_gain⟩ := A_sure_gain
  obtain ⟨f_check_gains, fd_check_gains, m_check_gains, F_check_gains⟩ := A_check_gains
  obtain ⟨f_takes, fd_takes, m_takes, F_takes⟩ := A_takes
  obtain ⟨f_needed, fd_needed, m_needed, F_needed⟩ := A_needed
  obtain ⟨f_costs_of, fd_costs_of, m_costs_of, F_costs_of⟩ := A_costs_of
  obtain ⟨f_first_ones, fd_first_ones, m_first_ones, F_first_ones⟩ := A_first_ones
  obtain ⟨f_earliest, fd_earliest, m_earliest, F_earliest⟩ := A_earliest
  obtain ⟨f_latest, fd_latest, m_latest, F_latest⟩ := A_latest
  obtain ⟨f_is_call, fd_is_call, m_is_call, F_is_call⟩ := A_is_call
  obtain ⟨f_uncalled, fd_uncalled, m_uncalled, F_uncalled⟩ := A_uncalled
  obtain ⟨f_costs_with, fd_costs_with, m_costs_with, F_costs_with⟩ := A_costs_with
  obtain ⟨f_costs_of_dues, fd_costs_of_dues, m_costs_of_dues, F_costs_of_dues⟩ := A_costs_of_dues
  obtain ⟨f_costs_for, fd_costs_for, m_costs_for, F_costs_for⟩ := A_costs_for
  obtain ⟨f__law_draws, fd__law_draws, m__law_draws, F__law_draws⟩ := A__law_draws
  obtain ⟨f__law_take, fd__law_take, m__law_take, F__law_take⟩ := A__law_take
  obtain ⟨f__law_alike, fd__law_alike, m__law_alike, F__law_alike⟩ := A__law_alike
  obtain ⟨f__law_says, fd__law_says, m__law_says, F__law_says⟩ := A__law_says
  obtain ⟨f__law_low, fd__law_low, m__law_low, F__law_low⟩ := A__law_low
  obtain ⟨f__law_plus, fd__law_plus, m__law_plus, F__law_plus⟩ := A__law_plus
  obtain ⟨f__law_times, fd__law_times, m__law_times, F__law_times⟩ := A__law_times
  obtain ⟨f__law_minus, fd__law_minus, m__law_minus, F__law_minus⟩ := A__law_minus
  obtain ⟨f__law_over, fd__law_over, m__law_over, F__law_over⟩ := A__law_over
  obtain ⟨f__law_less, fd__law_less, m__law_less, F__law_less⟩ := A__law_less
  obtain ⟨f__law_most, fd__law_most, m__law_most, F__law_most⟩ := A__law_most
  obtain ⟨f__law_tree, fd__law_tree, m__law_tree, F__law_tree⟩ := A__law_tree
  obtain ⟨f__law_takes, fd__law_takes, m__law_takes, F__law_takes⟩ := A__law_takes
  obtain ⟨f__law_dues, fd__law_dues, m__law_dues, F__law_dues⟩ := A__law_dues
  obtain ⟨f__law_offered, fd__law_offered, m__law_offered, F__law_offered⟩ := A__law_offered
  obtain ⟨f__law_times_taken, fd__law_times_taken, m__law_times_taken, F__law_times_taken⟩ := A__law_times_taken
  obtain ⟨f__law_shown, fd__law_shown, m__law_shown, F__law_shown⟩ := A__law_shown
  obtain ⟨f__law_first, fd__law_first, m__law_first, F__law_first⟩ := A__law_first
  obtain ⟨f__law_part, fd__law_part, m__law_part, F__law_part⟩ := A__law_part
  obtain ⟨f_law, fd_law, m_law, F_law⟩ := A_law
  obtain ⟨f_is_word, fd_is_word, m_is_word, FC_is_word, F_is_word⟩ := A_is_word
  obtain ⟨f_are_names, fd_are_names, m_are_names, FC_are_names, F_are_names⟩ := A_are_names
  obtain ⟨f_are_prices, fd_are_prices, m_are_prices, FC_are_prices, F_are_prices⟩ := A_are_prices
  obtain ⟨f_is_system, fd_is_system, m_is_system, FC_is_system, F_is_system⟩ := A_is_system
  obtain ⟨f_is_places, fd_is_places, m_is_places, FC_is_places, F_is_places⟩ := A_is_places
  obtain ⟨f_is_offer, fd_is_offer, m_is_offer, FC_is_offer, F_is_offer⟩ := A_is_offer
  obtain ⟨f_is_behind, fd_is_behind, m_is_behind, FC_is_behind, F_is_behind⟩ := A_is_behind
  obtain ⟨g___init__, gd___init__, m____init__, G___init__⟩ := A___init__
  obtain ⟨g_reduced, gd_reduced, m__reduced, G_reduced⟩ := A_reduced
  obtain ⟨g_entering, gd_entering, m__entering, G_entering⟩ := A_entering
  obtain ⟨g_leaving, gd_leaving, m__leaving, G_leaving⟩ := A_leaving
  obtain ⟨g_turn, gd_turn, m__turn, G_turn⟩ := A_turn
  obtain ⟨g_climb, gd_climb, m__climb, G_climb⟩ := A_climb
  obtain ⟨g_weights, gd_weights, m__weights, G_weights⟩ := A_weights
  obtain ⟨g_sides, gd_sides, m__sides, G_sides⟩ := A_sides
  obtain ⟨g_way, gd_way, m__way, G_way⟩ := A_way
  have b_is_number := F_is_number.binds (ps := ["value", "least", "most"]) fun _ _ _ _ _ _ us hl => match us, hl with | [_, _, _], _ => rfl
  have b_is_part := F_is_part.binds (ps := ["value"]) fun _ _ _ _ _ _ us hl => match us, hl with | [_], _ => rfl
  have b_part := F_part.binds (ps := ["one", "other"]) fun _ _ _ _ _ _ us hl => match us, hl with | [_, _], _ => rfl
  have b_plus := F_plus.binds (ps := ["one", "other"]) fun _ _ _ _ _ _ us hl => match us, hl with | [_, _], _ => rfl
  have b_minus := F_minus.binds (ps := ["one", "other"]) fun _ _ _ _ _ _ us hl => match us, hl with | [_, _], _ => rfl
  have b_times := F_times.binds (ps := ["one", "other"]) fun _ _ _ _ _ _ us hl => match us, hl with | [_, _], _ => rfl
  have b_over := F_over.binds (ps := ["one", "other"]) fun _ _ _ _ _ _ us hl => match us, hl with | [_, _], _ => rfl
  have b_is_less := F_is_less.binds (ps := ["one", "other"]) fun _ _ _ _ _ _ us hl => match us, hl with | [_, _], _ => rfl
  have b_least_of := F_least_of.binds (ps := ["rows"]) fun _ _ _ _ _ _ us hl => match us, hl with | [_], _ => rfl
  have b_most_of := F_most_of.binds (ps := ["rows"]) fun _ _ _ _ _ _ us hl => match us, hl with | [_], _ => rfl
  have b_sum_of := F_sum_of.binds (ps := ["rows"]) fun _ _ _ _ _ _ us hl => match us, hl with | [_], _ => rfl
  have b_weighed := F_weighed.binds (ps := ["row", "other"]) fun _ _ _ _ _ _ us hl => match us, hl with | [_, _], _ => rfl
  have b_is_market := F_is_market.binds (ps := ["value"]) fun _ _ _ _ _ _ us hl => match us, hl with | [_], _ => rfl
  have b_node_of := F_node_of.binds (ps := ["market", "node"]) fun _ _ _ _ _ _ us hl => match us, hl with | [_, _], _ => rfl
  have b_children := F_children.binds (ps := ["market", "node"]) fun _ _ _ _ _ _ us hl => match us, hl with | [_, _], _ => rfl
  have b_way_to := F_way_to.binds (ps := ["market", "node"]) fun _ _ _ _ _ _ us hl => match us, hl with | [_, _], _ => rfl
  have b_prices_of := F_prices_of.binds (ps := ["market", "node"]) fun _ _ _ _ _ _ us hl => match us, hl with | [_, _], _ => rfl
  have b_most := F_most.binds (ps := ["columns", "wanted", "worths"]) fun _ _ _ _ _ _ us hl => match us, hl with | [_, _, _], _ => rfl
  have b_least := F_least.binds (ps := ["rows", "right", "goal"]) fun _ _ _ _ _ _ us hl => match us, hl with | [_, _, _], _ => rfl
  have b_brought := F_brought.binds (ps := ["prices", "below", "wanted"]) fun _ _ _ _ _ _ us hl => match us, hl with | [_, _, _], _ => rfl
  have b_brought_at := F_brought_at.binds (ps := ["market", "node", "wanted"]) fun _ _ _ _ _ _ us hl => match us, hl with | [_, _, _], _ => rfl
  have b_weights_at := F_weights_at.binds (ps := ["market", "node"]) fun _ _ _ _ _ _ us hl => match us, hl with | [_, _], _ => rfl
  have b_sure_gain := F_sure_gain.binds (ps := ["market"]) fun _ _ _ _ _ _ us hl => match us, hl with | [_], _ => rfl
  have b_check_gains := F_check_gains.binds (ps := ["market"]) fun _ _ _ _ _ _ us hl => match us, hl with | [_], _ => rfl
  have b_takes := F_takes.binds (ps := ["market", "node", "parts"]) fun _ _ _ _ _ _ us hl => match us, hl with | [_, _, _], _ => rfl
  have b_needed := F_needed.binds (ps := ["market", "node", "costs"]) fun _ _ _ _ _ _ us hl => match us, hl with | [_, _, _], _ => rfl
  have b_costs_of := F_costs_of.binds (ps := ["market", "offer"]) fun _ _ _ _ _ _ us hl => match us, hl with | [_, _], _ => rfl
  have b_first_ones := F_first_ones.binds (ps := ["market", "nodes"]) fun _ _ _ _ _ _ us hl => match us, hl with | [_, _], _ => rfl
  have b_earliest := F_earliest.binds (ps := ["market", "offer"]) fun _ _ _ _ _ _ us hl => match us, hl with | [_, _], _ => rfl
  have b_latest := F_latest.binds (ps := ["market", "offer"]) fun _ _ _ _ _ _ us hl => match us, hl with | [_, _], _ => rfl
  have b_is_call := F_is_call.binds (ps := ["market", "offer", "value"]) fun _ _ _ _ _ _ us hl => match us, hl with | [_, _, _], _ => rfl
  have b_uncalled := F_uncalled.binds (ps := ["market", "offer", "node", "costs"]) fun _ _ _ _ _ _ us hl => match us, hl with | [_, _, _, _], _ => rfl
  have b_costs_with := F_costs_with.binds (ps := ["market", "offer", "call"]) fun _ _ _ _ _ _ us hl => match us, hl with | [_, _, _], _ => rfl
  have b_costs_of_dues := F_costs_of_dues.binds (ps := ["market", "dues"]) fun _ _ _ _ _ _ us hl => match us, hl with | [_, _], _ => rfl
  have b_costs_for := F_costs_for.binds (ps := ["market", "offer", "most"]) fun _ _ _ _ _ _ us hl => match us, hl with | [_, _, _], _ => rfl
  have b__law_draws := F__law_draws.binds (ps := ["script"]) fun _ _ _ _ _ _ us hl => match us, hl with | [_], _ => rfl
  have b__law_take := F__law_take.binds (ps := ["draws", "bound"]) fun _ _ _ _ _ _ us hl => match us, hl with | [_, _], _ => rfl
  have b__law_alike := F__law_alike.binds (ps := ["found", "due"]) fun _ _ _ _ _ _ us hl => match us, hl with | [_, _], _ => rfl
  have b__law_says := F__law_says.binds (ps := ["found", "due"]) fun _ _ _ _ _ _ us hl => match us, hl with | [_, _], _ => rfl
  have b__law_low := F__law_low.binds (ps := ["one", "other"]) fun _ _ _ _ _ _ us hl => match us, hl with | [_, _], _ => rfl
  have b__law_plus := F__law_plus.binds (ps := ["one", "other"]) fun _ _ _ _ _ _ us hl => match us, hl with | [_, _], _ => rfl
  have b__law_times := F__law_times.binds (ps := ["one", "other"]) fun _ _ _ _ _ _ us hl => match us, hl with | [_, _], _ => rfl
  have b__law_minus := F__law_minus.binds (ps := ["one", "other"]) fun _ _ _ _ _ _ us hl => match us, hl with | [_, _], _ => rfl
  have b__law_over := F__law_over.binds (ps := ["one", "other"]) fun _ _ _ _ _ _ us hl => match us, hl with | [_, _], _ => rfl
  have b__law_less := F__law_less.binds (ps := ["one", "other"]) fun _ _ _ _ _ _ us hl => match us, hl with | [_, _], _ => rfl
  have b__law_most := F__law_most.binds (ps := ["rows"]) fun _ _ _ _ _ _ us hl => match us, hl with | [_], _ => rfl
  have b__law_tree := F__law_tree.binds (ps := ["draws", "names"]) fun _ _ _ _ _ _ us hl => match us, hl with | [_, _], _ => rfl
  have b__law_takes := F__law_takes.binds (ps := ["market", "kids", "node", "wanted"]) fun _ _ _ _ _ _ us hl => match us, hl with | [_, _, _, _], _ => rfl
  have b__law_dues := F__law_dues.binds (ps := ["market", "kids", "dues"]) fun _ _ _ _ _ _ us hl => match us, hl with | [_, _, _], _ => rfl
  have b__law_offered := F__law_offered.binds (ps := ["market", "kids", "offer", "call"]) fun _ _ _ _ _ _ us hl => match us, hl with | [_, _, _, _], _ => rfl
  have b__law_times_taken := F__law_times_taken.binds (ps := ["market", "kids", "offer", "most_v"]) fun _ _ _ _ _ _ us hl => match us, hl with | [_, _, _, _], _ => rfl
  have b__law_shown := F__law_shown.binds (ps := ["market", "kids", "node", "wanted"]) fun _ _ _ _ _ _ us hl => match us, hl with | [_, _, _, _], _ => rfl
  have b__law_first := F__law_first.binds (ps := ["market", "kids", "offer", "whole", "is_strict"]) fun _ _ _ _ _ _ us hl => match us, hl with | [_, _, _, _, _], _ => rfl
  have b__law_part := F__law_part.binds (ps := ["draws"]) fun _ _ _ _ _ _ us hl => match us, hl with | [_], _ => rfl
  have b_is_word := F_is_word.binds (ps := ["value"]) fun _ _ _ _ _ _ us hl => match us, hl with | [_], _ => rfl
  have b_are_names := F_are_names.binds (ps := ["value"]) fun _ _ _ _ _ _ us hl => match us, hl with | [_], _ => rfl
  have b_are_prices := F_are_prices.binds (ps := ["value", "many"]) fun _ _ _ _ _ _ us hl => match us, hl with | [_, _], _ => rfl
  have b_is_system := F_is_system.binds (ps := ["rows", "right", "goal"]) fun _ _ _ _ _ _ us hl => match us, hl with | [_, _, _], _ => rfl
  have b_is_places := F_is_places.binds (ps := ["value", "many"]) fun _ _ _ _ _ _ us hl => match us, hl with | [_, _], _ => rfl
  have b_is_offer := F_is_offer.binds (ps := ["market", "value"]) fun _ _ _ _ _ _ us hl => match us, hl with | [_, _], _ => rfl
  have b_is_behind := F_is_behind.binds (ps := ["market", "node", "moments"]) fun _ _ _ _ _ _ us hl => match us, hl with | [_, _, _], _ => rfl
  have b___init__ := G___init__.binds (ps := ["self", "columns", "wanted"]) fun _ _ _ _ _ _ us hl => match us, hl with | [_, _, _], _ => rfl
  have b_m_reduced := G_reduced.binds (ps := ["self", "worths"]) fun _ _ _ _ _ _ us hl => match us, hl with | [_, _], _ => rfl
  have b_m_entering := G_entering.binds (ps := ["self", "added", "many"]) fun _ _ _ _ _ _ us hl => match us, hl with | [_, _, _], _ => rfl
  have b_m_leaving := G_leaving.binds (ps := ["self", "place"]) fun _ _ _ _ _ _ us hl => match us, hl with | [_, _], _ => rfl
  have b_m_turn := G_turn.binds (ps := ["self", "number", "place"]) fun _ _ _ _ _ _ us hl => match us, hl with | [_, _, _], _ => rfl
  have b_m_climb := G_climb.binds (ps := ["self", "worths", "many"]) fun _ _ _ _ _ _ us hl => match us, hl with | [_, _, _], _ => rfl
  have b_m_weights := G_weights.binds (ps := ["self", "many"]) fun _ _ _ _ _ _ us hl => match us, hl with | [_, _], _ => rfl
  have b_m_sides := G_sides.binds (ps := ["self", "worths"]) fun _ _ _ _ _ _ us hl => match us, hl with | [_, _], _ => rfl
  have b_m_way := G_way.binds (ps := ["self", "place", "many"]) fun _ _ _ _ _ _ us hl => match us, hl with | [_, _, _], _ => rfl
  have e : fa = f_law := Value.ref.inj (Option.some.inj (hfa.symm.trans m_law))
  subst e
  refine ⟨fd_law, csT, spLaw K t0, fun p hp => ?_, nT, fun p hp => PySem.W.codeHd_of_K X (hH p hp), fun s u => ?_, fun H a ns hl _ hH hS => ⟨a, ns, rfl, hS, by omega, ?_, fun _ => rfl⟩, fun base KB NB TB => ?_⟩
  · simp only [csT, List.mem_cons, List.not_mem_nil, or_false] at hp
    rcases hp with rfl | rfl | rfl | rfl | rfl | rfl | rfl <;> exact hT _ (by decide)
  · obtain ⟨oc, od, kV, doc, pm, an, cdv, ct, osl, rfl, lk, hcd⟩ := F_law.ex
    exact .of_eq rfl
  · have tg : ∀ p ∈ csT, GxR.TabG H p.2 := fun p hp => ⟨#[], hH p hp, trivial⟩
    exact ⟨tg (266, 262) (by decide), tg (259, 255) (by decide), tg (128, 124) (by decide), tg (212, 208) (by decide), tg (219, 215) (by decide), tg (380, 376) (by decide), tg (411, 407) (by decide)⟩
  · have tb : ∀ p ∈ csT, GxR.TabB base mg p.1 p.2 := fun p hp => let z := TB p hp; ⟨z.code, z.bm, z.gP⟩
    have TBword := tb (128, 124) (by decide)
    have TBnames := tb (212, 208) (by decide)
    have TBprices := tb (219, 215) (by decide)
    have TBsystem := tb (259, 255) (by decide)
    have TBplaces := tb (266, 262) (by decide)
    have TBoffer := tb (380, 376) (by decide)
    have TBbehind := tb (411, 407) (by decide)
    have Cnumber : Cal l.prog w K mg base "is_number" 1 ["value", "least", "most"] spIsNumber := ⟨_, _, ok_isNumber F_is_number T, m_is_number, F_is_number.kp, b_is_number⟩
    have Cpart_ : Cal l.prog w K mg base "is_part" 2 ["value"] (spIsPart K) := ⟨_, _, ok_isPart F_is_part T Cnumber, m_is_part, F_is_part.kp, b_is_part⟩
    have Cpart : Cal l.prog w K mg base "part" 1 ["one", "other"] (spPart K) := ⟨_, _, ok_part F_part T, m_part, F_part.kp, b_part⟩
    have Cplus : Cal l.prog w K mg base "plus" 2 ["one", "other"] (sp2 K (· + ·)) := ⟨_, _, ok_plus F_plus Cpart, m_plus, F_plus.kp, b_plus⟩
    have Cminus : Cal l.prog w K mg base "minus" 2 ["one", "other"] (sp2 K (· - ·)) := ⟨_, _, ok_minus F_minus Cpart, m_minus, F_minus.kp, b_minus⟩
    have Ctimes : Cal l.prog w K mg base "times" 2 ["one", "other"] (sp2 K (· * ·)) := ⟨_, _, ok_times F_times Cpart, m_times, F_times.kp, b_times⟩
    have Cover : Cal l.prog w K mg base "over" 2 ["one", "other"] (sp2o K) := ⟨_, _, ok_over F_over Cpart, m_over, F_over.kp, b_over⟩
    have Cless : Cal l.prog w K mg base "is_less" 1 ["one", "other"] (spLess K) := ⟨_, _, ok_less F_is_less, m_is_less, F_is_less.kp, b_is_less⟩
    have Csum : Cal l.prog w K mg base "sum_of" 3 ["rows"] (spSumOf K) := ⟨_, _, ok_sumOf F_sum_of T Cplus, m_sum_of, F_sum_of.kp, b_sum_of⟩
    have Cweighed : Cal l.prog w K mg base "weighed" 4 ["row", "other"] (spWeighed K) := ⟨_, _, ok_weighed F_weighed T Ctimes Csum, m_weighed, F_weighed.kp, b_weighed⟩
    have CleastOf : Cal l.prog w K mg base "least_of" 2 ["rows"] (spTwoOf K LP.mn) := ⟨_, _, ok_leastOf F_least_of T Cless, m_least_of, F_least_of.kp, b_least_of⟩
    have CmostOf : Cal l.prog w K mg base "most_of" 2 ["rows"] (spTwoOf K LP.mx) := ⟨_, _, ok_mostOf F_most_of T Cless, m_most_of, F_most_of.kp, b_most_of⟩
    have Cplaces : Cal l.prog w K mg base "is_places" 4 ["value", "many"] (spIsPlaces K t0) := ⟨_, _, ok_isPlaces FC_is_places T TBplaces Cpart_, m_is_places, F_is_places.kp, b_is_places⟩
    have Csystem : Cal l.prog w K mg base "is_system" 6 ["rows", "right", "goal"] (spIsSystem K t0) := ⟨_, _, ok_isSystem FC_is_system T TBsystem Cpart_ Cplaces, m_is_system, F_is_system.kp, b_is_system⟩
    have Cword : Cal l.prog w K mg base "is_word" 3 ["value"] (spIsWord t0) := ⟨_, _, ok_isWord FC_is_word T TBword, m_is_word, F_is_word.kp, b_is_word⟩
    have Cnames : Cal l.prog w K mg base "are_names" 5 ["value"] (spAreNames K t0) := ⟨_, _, ok_areNames FC_are_names T TBnames Cword, m_are_names, F_are_names.kp, b_are_names⟩
    have Cprices : Cal l.prog w K mg base "are_prices" 4 ["value", "many"] (spArePrices K t0) := ⟨_, _, ok_arePrices FC_are_prices T TBprices Cpart_ Cless, m_are_prices, F_are_prices.kp, b_are_prices⟩
    have CisOffer : Cal l.prog w K mg base "is_offer" 4 ["market", "value"] (spIsOffer K t0) := ⟨_, _, ok_isOffer FC_is_offer T TBoffer Cpart_, m_is_offer, F_is_offer.kp, b_is_offer⟩
    have CisMarket : Cal l.prog w K mg base "is_market" 6 ["value"] (spIsMarket K t0) := ⟨_, _, ok_isMarket F_is_market T Cnumber Cnames Cprices, m_is_market, F_is_market.kp, b_is_market⟩
    have CisCall : Cal l.prog w K mg base "is_call" 3 ["market", "offer", "value"] (spIsCall K) := ⟨_, _, ok_isCall F_is_call T Cpart_ Cless, m_is_call, F_is_call.kp, b_is_call⟩
    have CnodeOf : Cal l.prog w K mg base "node_of" 2 ["market", "node"] (spNodeOf K) := ⟨_, _, ok_nodeOf F_node_of T Cnumber, m_node_of, F_node_of.kp, b_node_of⟩
    have CpricesOf : Cal l.prog w K mg base "prices_of" 3 ["market", "node"] (spPricesOf K) := ⟨_, _, ok_pricesOf F_prices_of T CnodeOf, m_prices_of, F_prices_of.kp, b_prices_of⟩
    have Cchildren : Cal l.prog w K mg base "children" 3 ["market", "node"] (spChildren K) := ⟨_, _, ok_children F_children T CnodeOf, m_children, F_children.kp, b_children⟩
    have CwayTo : Cal l.prog w K mg base "way_to" 3 ["market", "node"] (spWayTo K) := ⟨_, _, ok_wayTo F_way_to T CnodeOf, m_way_to, F_way_to.kp, b_way_to⟩
    have Cbehind : Cal l.prog w K mg base "is_behind" 4 ["market", "node", "moments"] (spIsBehind K t0) := ⟨_, _, ok_isBehind FC_is_behind T TBbehind CwayTo, m_is_behind, F_is_behind.kp, b_is_behind⟩
    have Cfirst : Cal l.prog w K mg base "first_ones" 5 ["market", "nodes"] (spFirstOnes K t0) := ⟨_, _, ok_firstOnes F_first_ones T Cbehind, m_first_ones, F_first_ones.kp, b_first_ones⟩
    have MK0 : Mk K C g___init__ := ⟨mk, m____init__.at_, m____init__.fn, kc⟩
    have G0 : FnOk l.prog w K mg base CX0 3 g___init__ gd___init__ ["self", "columns", "wanted"] (spInit K C) := ok_init G___init__ T U Cless Ctimes
    have G0L : FnOk l.prog w K mg base CX0 3 g___init__ gd___init__ ["self", "columns", "wanted"] (spInitL K C) := ok_initL G___init__ T U Cless Ctimes
    have Mreduced : MCal l.prog w K mg base C "reduced" 5 ["self", "worths"] (spReduced K C) := ⟨_, _, ok_reduced G_reduced T U Cweighed Cminus, m__reduced, b_m_reduced⟩
    have Mentering : MCal l.prog w K mg base C "entering" 2 ["self", "added", "many"] (spEntering K) := ⟨_, _, ok_entering G_entering T Cless, m__entering, b_m_entering⟩
    have Mleaving : MCal l.prog w K mg base C "leaving" 3 ["self", "place"] (spLeaving K C) := ⟨_, _, ok_leaving G_leaving T U Cless Cover, m__leaving, b_m_leaving⟩
    have Mturn : MCal l.prog w K mg base C "turn" 3 ["self", "number", "place"] (spTurn K C) := ⟨_, _, ok_turn G_turn T U Cminus Ctimes Cover, m__turn, b_m_turn⟩
    have Mclimb : MCal l.prog w K mg base C "climb" 6 ["self", "worths", "many"] (spClimb K C) := ⟨_, _, ok_climb G_climb T U Mreduced Mentering Mleaving Mturn, m__climb, b_m_climb⟩
    have Mweights : MCal l.prog w K mg base C "weights" 1 ["self", "many"] (spWeights K C) := ⟨_, _, ok_weights G_weights T U, m__weights, b_m_weights⟩
    have Msides : MCal l.prog w K mg base C "sides" 6 ["self", "worths"] (spSides K C) := ⟨_, _, ok_sides G_sides T U Cminus Ctimes Mreduced, m__sides, b_m_sides⟩
    have Mway : MCal l.prog w K mg base C "way" 3 ["self", "place", "many"] (spWay K C) := ⟨_, _, ok_way G_way T U Cminus, m__way, b_m_way⟩
    have Cmost : Cal l.prog w K mg base "most" 7 ["columns", "wanted", "worths"] (spMost K) := ⟨_, _, ok_most F_most T U MK0 G0 b___init__ Cless Mreduced Mturn Mclimb Mweights Msides Mway, m_most, F_most.kp, b_most⟩
    have CmostL : Cal l.prog w K mg base "most" 7 ["columns", "wanted", "worths"] (spMostL K) := ⟨_, _, ok_mostL F_most T U MK0 G0L b___init__ Cless Mreduced Mturn Mclimb Mweights Msides Mway, m_most, F_most.kp, b_most⟩
    have Cleast : Cal l.prog w K mg base "least" 8 ["rows", "right", "goal"] (spLeast K t0) := ⟨_, _, ok_least F_least T Csystem Cmost, m_least, F_least.kp, b_least⟩
    have Cbrought : Cal l.prog w K mg base "brought" 9 ["prices", "below", "wanted"] (spBrought K t0) := ⟨_, _, ok_brought F_brought T Cleast, m_brought, F_brought.kp, b_brought⟩
    have CbroughtAt : Cal l.prog w K mg base "brought_at" 10 ["market", "node", "wanted"] (spBroughtAt K t0) := ⟨_, _, ok_broughtAt F_brought_at T Cchildren CpricesOf Cbrought, m_brought_at, F_brought_at.kp, b_brought_at⟩
    have CweightsAt : Cal l.prog w K mg base "weights_at" 8 ["market", "node"] (spWeightsAt K) := ⟨_, _, ok_weightsAt F_weights_at T Cchildren CpricesOf CmostL Ctimes Csum, m_weights_at, F_weights_at.kp, b_weights_at⟩
    have CsureGain : Cal l.prog w K mg base "sure_gain" 9 ["market"] (spGain K) := ⟨_, _, ok_sureGain F_sure_gain T CweightsAt, m_sure_gain, F_sure_gain.kp, b_sure_gain⟩
    have Ccheck : Cal l.prog w K mg base "check_gains" 10 ["market"] (spGain K) := ⟨_, _, ok_checkGains F_check_gains T CsureGain, m_check_gains, F_check_gains.kp, b_check_gains⟩
    have Ctakes : Cal l.prog w K mg base "takes" 11 ["market", "node", "parts"] (spTakes K t0) := ⟨_, _, ok_takes F_takes T Ccheck Cplaces Cchildren CbroughtAt, m_takes, F_takes.kp, b_takes⟩
    have Cneeded : Cal l.prog w K mg base "needed" 11 ["market", "node", "costs"] (spNeeded K t0) := ⟨_, _, ok_needed F_needed T Cchildren CbroughtAt, m_needed, F_needed.kp, b_needed⟩
    have CneededT : Cal l.prog w K mg base "needed" 11 ["market", "node", "costs"] (spNeededT K t0) := ⟨_, _, ok_neededT F_needed T Cchildren CbroughtAt, m_needed, F_needed.kp, b_needed⟩
    have CcostsOf : Cal l.prog w K mg base "costs_of" 12 ["market", "offer"] (spCostsOf K t0) := ⟨_, _, ok_costsOf F_costs_of T Ccheck Cneeded CmostOf, m_costs_of, F_costs_of.kp, b_costs_of⟩
    have Cuncalled : Cal l.prog w K mg base "uncalled" 12 ["market", "offer", "node", "costs"] (spUncalled K t0) := ⟨_, _, ok_uncalled F_uncalled T Cneeded CmostOf, m_uncalled, F_uncalled.kp, b_uncalled⟩
    have CcostsWith : Cal l.prog w K mg base "costs_with" 13 ["market", "offer", "call"] (spCostsWith K t0) := ⟨_, _, ok_costsWith F_costs_with T Ccheck Cuncalled CleastOf, m_costs_with, F_costs_with.kp, b_costs_with⟩
    have Cdues : Cal l.prog w K mg base "costs_of_dues" 12 ["market", "dues"] (spDues K t0) := ⟨_, _, ok_dues F_costs_of_dues T Ccheck Cneeded Cplus, m_costs_of_dues, F_costs_of_dues.kp, b_costs_of_dues⟩
    have CcostsFor : Cal l.prog w K mg base "costs_for" 12 ["market", "offer", "most"] (spCostsFor K t0) := ⟨_, _, ok_costsFor F_costs_for T Cnumber Ccheck Cneeded CmostOf Cplus, m_costs_for, F_costs_for.kp, b_costs_for⟩
    have Cearliest : Cal l.prog w K mg base "earliest" 13 ["market", "offer"] (spBest K t0 bestE) := ⟨_, _, ok_earliest F_earliest T CcostsOf Cfirst, m_earliest, F_earliest.kp, b_earliest⟩
    have Clatest : Cal l.prog w K mg base "latest" 13 ["market", "offer"] (spBest K t0 bestL) := ⟨_, _, ok_latest F_latest T CcostsOf Cfirst CneededT Cless, m_latest, F_latest.kp, b_latest⟩
    have Ltake : Cal l.prog w K mg base "_law_take" 1 ["draws", "bound"] spTake := ⟨_, _, ok_lTake F__law_take T, m__law_take, F__law_take.kp, b__law_take⟩
    have Lsays : Cal l.prog w K mg base "_law_says" 1 ["found", "due"] spSays := ⟨_, _, ok_lSays F__law_says T, m__law_says, F__law_says.kp, b__law_says⟩
    have Llow : Cal l.prog w K mg base "_law_low" 1 ["one", "other"] (spLow K) := ⟨_, _, ok_lLow F__law_low T, m__law_low, F__law_low.kp, b__law_low⟩
    have Lplus : Cal l.prog w K mg base "_law_plus" 2 ["one", "other"] (sp2 K (· + ·)) := ⟨_, _, ok_lPlus F__law_plus Llow, m__law_plus, F__law_plus.kp, b__law_plus⟩
    have Ltimes : Cal l.prog w K mg base "_law_times" 2 ["one", "other"] (sp2 K (· * ·)) := ⟨_, _, ok_lTimes F__law_times Llow, m__law_times, F__law_times.kp, b__law_times⟩
    have Lminus : Cal l.prog w K mg base "_law_minus" 3 ["one", "other"] (sp2 K (· - ·)) := ⟨_, _, ok_lMinus F__law_minus Lplus, m__law_minus, F__law_minus.kp, b__law_minus⟩
    have Lover : Cal l.prog w K mg base "_law_over" 2 ["one", "other"] (sp2o K) := ⟨_, _, ok_lOver F__law_over Llow, m__law_over, F__law_over.kp, b__law_over⟩
    have Lless : Cal l.prog w K mg base "_law_less" 1 ["one", "other"] (spLess K) := ⟨_, _, ok_lLess F__law_less, m__law_less, F__law_less.kp, b__law_less⟩
    have Lalike0 : Cal l.prog w K mg base "_law_alike" 1 ["found", "due"] (spAlike K 0) := ⟨_, _, ok_lAlike0 F__law_alike T, m__law_alike, F__law_alike.kp, b__law_alike⟩
    have Lalike1 : Cal l.prog w K mg base "_law_alike" 2 ["found", "due"] (spAlike K 1) := ⟨_, _, ok_lAlikeS F__law_alike T (by decide) Lalike0, m__law_alike, F__law_alike.kp, b__law_alike⟩
    have Lalike2 : Cal l.prog w K mg base "_law_alike" 3 ["found", "due"] (spAlike K 2) := ⟨_, _, ok_lAlikeS F__law_alike T (by decide) Lalike1, m__law_alike, F__law_alike.kp, b__law_alike⟩
    have Lalike3 : Cal l.prog w K mg base "_law_alike" 4 ["found", "due"] (spAlike K 3) := ⟨_, _, ok_lAlikeS F__law_alike T (by decide) Lalike2, m__law_alike, F__law_alike.kp, b__law_alike⟩
    have Lmost : Cal l.prog w K mg base "_law_most" 2 ["rows"] (spLMost K) := ⟨_, _, ok_lMost F__law_most T Lless, m__law_most, F__law_most.kp, b__law_most⟩
    have Ldraws : Cal l.prog w K mg base "_law_draws" 1 ["script"] (spDraws K) := ⟨_, _, ok_lDraws F__law_draws T, m__law_draws, F__law_draws.kp, b__law_draws⟩
    have Lpart : Cal l.prog w K mg base "_law_part" 2 ["draws"] (spLPart K) := ⟨_, _, ok_lPart F__law_part Ltake Llow, m__law_part, F__law_part.kp, b__law_part⟩
    have Ltree : Cal l.prog w K mg base "_law_tree" 3 ["draws", "names"] (spLTree K) := ⟨_, _, ok_lTree F__law_tree T Ltake Llow Lplus Ltimes, m__law_tree, F__law_tree.kp, b__law_tree⟩
    have Ltakes : Cal l.prog w K mg base "_law_takes" 4 ["market", "kids", "node", "wanted"] (spLTakes K) := ⟨_, _, ok_lTakes F__law_takes T Lover Lminus Lplus Ltimes Lless Lmost, m__law_takes, F__law_takes.kp, b__law_takes⟩
    have Ldues : Cal l.prog w K mg base "_law_dues" 5 ["market", "kids", "dues"] (spLDues K) := ⟨_, _, ok_lDues F__law_dues T Ltakes Lplus, m__law_dues, F__law_dues.kp, b__law_dues⟩
    have Loffered : Cal l.prog w K mg base "_law_offered" 5 ["market", "kids", "offer", "call"] (spLOffered K) := ⟨_, _, ok_lOffered F__law_offered T Ltakes Lless Lmost, m__law_offered, F__law_offered.kp, b__law_offered⟩
    have LtimesT : Cal l.prog w K mg base "_law_times_taken" 5 ["market", "kids", "offer", "most_v"] (spLTimesT K) := ⟨_, _, ok_lTimesT F__law_times_taken T Ltakes Lplus Lmost, m__law_times_taken, F__law_times_taken.kp, b__law_times_taken⟩
    have Lshown : Cal l.prog w K mg base "_law_shown" 12 ["market", "kids", "node", "wanted"] (spLShown K t0) := ⟨_, _, ok_lShown F__law_shown T CbroughtAt Ltakes Lalike1 Lalike3 Ctakes Lplus Ltimes Lless, m__law_shown, F__law_shown.kp, b__law_shown⟩
    have Lfirst : Cal l.prog w K mg base "_law_first" 5 ["market", "kids", "offer", "whole", "is_strict"] (spLFirst K) := ⟨_, _, ok_lFirst F__law_first T Ltakes Lless, m__law_first, F__law_first.kp, b__law_first⟩
    exact ok_law F_law T Ldraws Ltree Lpart Ltake Lsays CisMarket CsureGain Cchildren Lalike2 Lalike3 Cdues Ldues Lmost Loffered CisOffer CisCall CcostsOf CcostsWith CcostsFor LtimesT Cearliest Clatest Lfirst Lshown
theorem walk {l : PySem.W.OpenLaw} {q : Program} {loose : List Str} {XP : (Str → Option Value) → Heap → Prop} {YP : World → Heap → Prop} {d : DefRec} {K : Params → PySem.W.Frag} (hn : l.most = some 63) (hdf : d.params.defaults = [])
    (hY : ∀ (w : World) (h : Heap), YP w h → (K w.params).In h)
    (F : ∀ (w : World) (mg : Str → Option Value) (fa : Addr) (h : Heap), YP w h → (K w.params).In h → h.Ns mainGlobals mg → mg d.name = some (.ref fa) → LamX.LawAtS l w (K w.params) CX0 14 63 "script" mg fa h) :
    PySem.W.WalkO q loose XP YP l.row.toRowW d [] (fun f vs => PySem.call f vs) :=
  LamX.walk_ofTs (n := 63) (k := 14) (CX := fun _ => CX0) (x := "script") hn (by decide) hdf ⟨rfl, by decide, by decide⟩ hY F fun _ _ _ _ _ z => z
end K44


open PySem PySem.W PyProof.Rows
local macro_rules | `(tactic| o_head ($_f $K $as $e)) => `(tactic| o_head (PySem.W.kmHook $K $as $e [124, 208, 215, 255, 262, 376, 407]))
set_option maxRecDepth 100000 in
set_option maxHeartbeats 0 in
theorem PySem.Challenge.cw_paidallways_k10_whole_costs_by_straight_holds : PySem.Challenge.rw_paidallways_k10_whole_costs_by_straight.Holds := by
  w_on; o_law; k_head; (case hw => w_witness2)
  k_fill
  refine K44.walk (l := PySem.Challenge.rw_paidallways_k10_whole_costs_by_straight) rfl rfl (fun w h Y => PySem.W.km_in_of Y) ?F
  case F =>
    intro w mg fa h Y KX G hmg
    refine' K44.all_mk (C := ?C) KX G hmg (PySem.W.km_tabs_of Y) ?nT ?hH ?T ?U ?mk ?kc ?A_is_number ?A_is_part ?A_part ?A_plus ?A_minus ?A_times ?A_over ?A_is_less ?A_least_of ?A_most_of ?A_sum_of ?A_weighed ?A_is_market ?A_node_of ?A_children ?A_way_to ?A_prices_of ?A_most ?A_least ?A_brought ?A_brought_at ?A_weights_at ?A_sure_gain ?A_check_gains ?A_takes ?A_needed ?A_costs_of ?A_first_ones ?A_earliest ?A_latest ?A_is_call ?A_uncalled ?A_costs_with ?A_costs_of_dues ?A_costs_for ?A__law_draws ?A__law_take ?A__law_alike ?A__law_says ?A__law_low ?A__law_plus ?A__law_times ?A__law_minus ?A__law_over ?A__law_less ?A__law_most ?A__law_tree ?A__law_takes ?A__law_dues ?A__law_offered ?A__law_times_taken ?A__law_shown ?A__law_first ?A__law_part ?A_law ?A_is_word ?A_are_names ?A_are_prices ?A_is_system ?A_is_places ?A_is_offer ?A_is_behind ?A___init__ ?A_reduced ?A_entering ?A_leaving ?A_turn ?A_climb ?A_weights ?A_sides ?A_way
    (case U =>
      refine' ⟨⟨?pg, ?hd, ?po, ?sa⟩, K44.noat ?nC, K44.noat ?nS, K44.noat ?nR, K44.noat ?nB, PySem.W.mg_of KX G ?mC⟩
      (case mC => k_is)
      (case pg => k_is)
      (case hd => k_is)
      (case po => k_is)
      (case sa => k_is)
      (case nC => k_is)
      (case nS => k_is)
      (case nR => k_is)
      (case nB => k_is)
      )
    (case nT =>
      intro p hp
      simp only [K44.csT, List.mem_cons, List.not_mem_nil, or_false] at hp
      rcases hp with rfl | rfl | rfl | rfl | rfl | rfl | rfl <;> kernel_rfl)
    (case hH =>
      intro p hp
      simp only [K44.csT, List.mem_cons, List.not_mem_nil, or_false] at hp
      rcases hp with rfl | rfl | rfl | rfl | rfl | rfl | rfl <;> kernel_rfl)
    (case mk => k_is)
    (case kc => k_is)
    (case T =>
      refine' ⟨PySem.W.mg_of KX G ?gcd, K44.int_g KX G ?most, K44.two_sq KX G ?z1 ?z2, K44.two_sq KX G ?o1 ?o2, PySem.W.mg_none_of KX G ?n_abs, PySem.W.mg_none_of KX G ?n_isinstance, PySem.W.mg_none_of KX G ?n_int, PySem.W.mg_none_of KX G ?n_bool, PySem.W.mg_none_of KX G ?n_tuple, PySem.W.mg_none_of KX G ?n_list, PySem.W.mg_none_of KX G ?n_str, PySem.W.mg_none_of KX G ?n_len, PySem.W.mg_none_of KX G ?n_range, PySem.W.mg_none_of KX G ?n_zip, PySem.W.mg_none_of KX G ?n_enumerate, PySem.W.mg_none_of KX G ?n_all, PySem.W.mg_none_of KX G ?n_any, PySem.W.mg_none_of KX G ?n_sum, PySem.W.mg_none_of KX G ?n_min, PySem.W.mg_none_of KX G ?n_reversed, K44.int_g KX G ?mr, K44.int_g KX G ?mp, K44.int_g KX G ?mn, K44.int_g KX G ?mk1, K44.int_g KX G ?mm, K44.int_g KX G ?mna, K44.int_g KX G ?mt, K44.str_g KX G ?lt, PySem.W.mg_none_of KX G ?n_max⟩
      (case gcd => k_is)
      (case most => k_is)
      (case z1 => k_is)
      (case z2 => k_is)
      (case o1 => k_is)
      (case o2 => k_is)
      (case n_abs => k_is)
      (case n_isinstance => k_is)
      (case n_int => k_is)
      (case n_bool => k_is)
      (case n_tuple => k_is)
      (case n_list => k_is)
      (case n_str => k_is)
      (case n_len => k_is)
      (case n_range => k_is)
      (case n_zip => k_is)
      (case n_enumerate => k_is)
      (case n_all => k_is)
      (case n_any => k_is)
      (case n_sum => k_is)
      (case n_min => k_is)
      (case n_reversed => k_is)
      (case mr => k_is)
      (case mp => k_is)
      (case mn => k_is)
      (case mk1 => k_is)
      (case mm => k_is)
      (case mna => k_is)
      (case mt => k_is)
      (case lt => k_is)
      (case n_max => k_is)
      )
    (case A_is_number => (refine' K44.FAt.of KX G ?a ?l ?c ?k); (case a => k_is); (case l => k_is); (case c => k_is); (case k => k_is))
    (case A_is_part => (refine' K44.FAt.of KX G ?a ?l ?c ?k); (case a => k_is); (case l => k_is); (case c => k_is); (case k => k_is))
    (case A_part => (refine' K44.FAt.of KX G ?a ?l ?c ?k); (case a => k_is); (case l => k_is); (case c => k_is); (case k => k_is))
    (case A_plus => (refine' K44.FAt.of KX G ?a ?l ?c ?k); (case a => k_is); (case l => k_is); (case c => k_is); (case k => k_is))
    (case A_minus => (refine' K44.FAt.of KX G ?a ?l ?c ?k); (case a => k_is); (case l => k_is); (case c => k_is); (case k => k_is))
    (case A_times => (refine' K44.FAt.of KX G ?a ?l ?c ?k); (case a => k_is); (case l => k_is); (case c => k_is); (case k => k_is))
    (case A_over => (refine' K44.FAt.of KX G ?a ?l ?c ?k); (case a => k_is); (case l => k_is); (case c => k_is); (case k => k_is))
    (case A_is_less => (refine' K44.FAt.of KX G ?a ?l ?c ?k); (case a => k_is); (case l => k_is); (case c => k_is); (case k => k_is))
    (case A_least_of => (refine' K44.FAt.of KX G ?a ?l ?c ?k); (case a => k_is); (case l => k_is); (case c => k_is); (case k => k_is))
    (case A_most_of => (refine' K44.FAt.of KX G ?a ?l ?c ?k); (case a => k_is); (case l => k_is); (case c => k_is); (case k => k_is))
    (case A_sum_of => (refine' K44.FAt.of KX G ?a ?l ?c ?k); (case a => k_is); (case l => k_is); (case c => k_is); (case k => k_is))
    (case A_weighed => (refine' K44.FAt.of KX G ?a ?l ?c ?k); (case a => k_is); (case l => k_is); (case c => k_is); (case k => k_is))
    (case A_is_market => (refine' K44.FAt.of KX G ?a ?l ?c ?k); (case a => k_is); (case l => k_is); (case c => k_is); (case k => k_is))
    (case A_node_of => (refine' K44.FAt.of KX G ?a ?l ?c ?k); (case a => k_is); (case l => k_is); (case c => k_is); (case k => k_is))
    (case A_children => (refine' K44.FAt.of KX G ?a ?l ?c ?k); (case a => k_is); (case l => k_is); (case c => k_is); (case k => k_is))
    (case A_way_to => (refine' K44.FAt.of KX G ?a ?l ?c ?k); (case a => k_is); (case l => k_is); (case c => k_is); (case k => k_is))
    (case A_prices_of => (refine' K44.FAt.of KX G ?a ?l ?c ?k); (case a => k_is); (case l => k_is); (case c => k_is); (case k => k_is))
    (case A_most => (refine' K44.FAt.of KX G ?a ?l ?c ?k); (case a => k_is); (case l => k_is); (case c => k_is); (case k => k_is))
    (case A_least => (refine' K44.FAt.of KX G ?a ?l ?c ?k); (case a => k_is); (case l => k_is); (case c => k_is); (case k => k_is))
    (case A_brought => (refine' K44.FAt.of KX G ?a ?l ?c ?k); (case a => k_is); (case l => k_is); (case c => k_is); (case k => k_is))
    (case A_brought_at => (refine' K44.FAt.of KX G ?a ?l ?c ?k); (case a => k_is); (case l => k_is); (case c => k_is); (case k => k_is))
    (case A_weights_at => (refine' K44.FAt.of KX G ?a ?l ?c ?k); (case a => k_is); (case l => k_is); (case c => k_is); (case k => k_is))
    (case A_sure_gain => (refine' K44.FAt.of KX G ?a ?l ?c ?k); (case a => k_is); (case l => k_is); (case c => k_is); (case k => k_is))
    (case A_check_gains => (refine' K44.FAt.of KX G ?a ?l ?c ?k); (case a => k_is); (case l => k_is); (case c => k_is); (case k => k_is))
    (case A_takes => (refine' K44.FAt.of KX G ?a ?l ?c ?k); (case a => k_is); (case l => k_is); (case c => k_is); (case k => k_is))
    (case A_needed => (refine' K44.FAt.of KX G ?a ?l ?c ?k); (case a => k_is); (case l => k_is); (case c => k_is); (case k => k_is))
    (case A_costs_of => (refine' K44.FAt.of KX G ?a ?l ?c ?k); (case a => k_is); (case l => k_is); (case c => k_is); (case k => k_is))
    (case A_first_ones => (refine' K44.FAt.of KX G ?a ?l ?c ?k); (case a => k_is); (case l => k_is); (case c => k_is); (case k => k_is))
    (case A_earliest => (refine' K44.FAt.of KX G ?a ?l ?c ?k); (case a => k_is); (case l => k_is); (case c => k_is); (case k => k_is))
    (case A_latest => (refine' K44.FAt.of KX G ?a ?l ?c ?k); (case a => k_is); (case l => k_is); (case c => k_is); (case k => k_is))
    (case A_is_call => (refine' K44.FAt.of KX G ?a ?l ?c ?k); (case a => k_is); (case l => k_is); (case c => k_is); (case k => k_is))
    (case A_uncalled => (refine' K44.FAt.of KX G ?a ?l ?c ?k); (case a => k_is); (case l => k_is); (case c => k_is); (case k => k_is))
    (case A_costs_with => (refine' K44.FAt.of KX G ?a ?l ?c ?k); (case a => k_is); (case l => k_is); (case c => k_is); (case k => k_is))
    (case A_costs_of_dues => (refine' K44.FAt.of KX G ?a ?l ?c ?k); (case a => k_is); (case l => k_is); (case c => k_is); (case k => k_is))
    (case A_costs_for => (refine' K44.FAt.of KX G ?a ?l ?c ?k); (case a => k_is); (case l => k_is); (case c => k_is); (case k => k_is))
    (case A__law_draws => (refine' K44.FAt.of KX G ?a ?l ?c ?k); (case a => k_is); (case l => k_is); (case c => k_is); (case k => k_is))
    (case A__law_take => (refine' K44.FAt.of KX G ?a ?l ?c ?k); (case a => k_is); (case l => k_is); (case c => k_is); (case k => k_is))
    (case A__law_alike => (refine' K44.FAt.of KX G ?a ?l ?c ?k); (case a => k_is); (case l => k_is); (case c => k_is); (case k => k_is))
    (case A__law_says => (refine' K44.FAt.of KX G ?a ?l ?c ?k); (case a => k_is); (case l => k_is); (case c => k_is); (case k => k_is))
    (case A__law_low => (refine' K44.FAt.of KX G ?a ?l ?c ?k); (case a => k_is); (case l => k_is); (case c => k_is); (case k => k_is))
    (case A__law_plus => (refine' K44.FAt.of KX G ?a ?l ?c ?k); (case a => k_is); (case l => k_is); (case c => k_is); (case k => k_is))
    (case A__law_times => (refine' K44.FAt.of KX G ?a ?l ?c ?k); (case a => k_is); (case l => k_is); (case c => k_is); (case k => k_is))
    (case A__law_minus => (refine' K44.FAt.of KX G ?a ?l ?c ?k); (case a => k_is); (case l => k_is); (case c => k_is); (case k => k_is))
    (case A__law_over => (refine' K44.FAt.of KX G ?a ?l ?c ?k); (case a => k_is); (case l => k_is); (case c => k_is); (case k => k_is))
    (case A__law_less => (refine' K44.FAt.of KX G ?a ?l ?c ?k); (case a => k_is); (case l => k_is); (case c => k_is); (case k => k_is))
    (case A__law_most => (refine' K44.FAt.of KX G ?a ?l ?c ?k); (case a => k_is); (case l => k_is); (case c => k_is); (case k => k_is))
    (case A__law_tree => (refine' K44.FAt.of KX G ?a ?l ?c ?k); (case a => k_is); (case l => k_is); (case c => k_is); (case k => k_is))
    (case A__law_takes => (refine' K44.FAt.of KX G ?a ?l ?c ?k); (case a => k_is); (case l => k_is); (case c => k_is); (case k => k_is))
    (case A__law_dues => (refine' K44.FAt.of KX G ?a ?l ?c ?k); (case a => k_is); (case l => k_is); (case c => k_is); (case k => k_is))
    (case A__law_offered => (refine' K44.FAt.of KX G ?a ?l ?c ?k); (case a => k_is); (case l => k_is); (case c => k_is); (case k => k_is))
    (case A__law_times_taken => (refine' K44.FAt.of KX G ?a ?l ?c ?k); (case a => k_is); (case l => k_is); (case c => k_is); (case k => k_is))
    (case A__law_shown => (refine' K44.FAt.of KX G ?a ?l ?c ?k); (case a => k_is); (case l => k_is); (case c => k_is); (case k => k_is))
    (case A__law_first => (refine' K44.FAt.of KX G ?a ?l ?c ?k); (case a => k_is); (case l => k_is); (case c => k_is); (case k => k_is))
    (case A__law_part => (refine' K44.FAt.of KX G ?a ?l ?c ?k); (case a => k_is); (case l => k_is); (case c => k_is); (case k => k_is))
    (case A_law => (refine' K44.FAt.of KX G ?a ?l ?c ?k); (case a => k_is); (case l => k_is); (case c => k_is); (case k => k_is))
    (case A_is_word => (refine' K44.CAt.of KX G ?a ?l ?c ?k); (case a => k_is); (case l => k_is); (case c => k_is); (case k => k_is))
    (case A_are_names => (refine' K44.CAt.of KX G ?a ?l ?c ?k); (case a => k_is); (case l => k_is); (case c => k_is); (case k => k_is))
    (case A_are_prices => (refine' K44.CAt.of KX G ?a ?l ?c ?k); (case a => k_is); (case l => k_is); (case c => k_is); (case k => k_is))
    (case A_is_system => (refine' K44.CAt.of KX G ?a ?l ?c ?k); (case a => k_is); (case l => k_is); (case c => k_is); (case k => k_is))
    (case A_is_places => (refine' K44.CAt.of KX G ?a ?l ?c ?k); (case a => k_is); (case l => k_is); (case c => k_is); (case k => k_is))
    (case A_is_offer => (refine' K44.CAt.of KX G ?a ?l ?c ?k); (case a => k_is); (case l => k_is); (case c => k_is); (case k => k_is))
    (case A_is_behind => (refine' K44.CAt.of KX G ?a ?l ?c ?k); (case a => k_is); (case l => k_is); (case c => k_is); (case k => k_is))
    (case A___init__ => (refine' K44.MAt.of ?a ?i ?l ?c ?k); (case a => k_is); (case i => k_is); (case l => k_is); (case c => k_is); (case k => k_is))
    (case A_reduced => (refine' K44.MAt.of ?a ?i ?l ?c ?k); (case a => k_is); (case i => k_is); (case l => k_is); (case c => k_is); (case k => k_is))
    (case A_entering => (refine' K44.MAt.of ?a ?i ?l ?c ?k); (case a => k_is); (case i => k_is); (case l => k_is); (case c => k_is); (case k => k_is))
    (case A_leaving => (refine' K44.MAt.of ?a ?i ?l ?c ?k); (case a => k_is); (case i => k_is); (case l => k_is); (case c => k_is); (case k => k_is))
    (case A_turn => (refine' K44.MAt.of ?a ?i ?l ?c ?k); (case a => k_is); (case i => k_is); (case l => k_is); (case c => k_is); (case k => k_is))
    (case A_climb => (refine' K44.MAt.of ?a ?i ?l ?c ?k); (case a => k_is); (case i => k_is); (case l => k_is); (case c => k_is); (case k => k_is))
    (case A_weights => (refine' K44.MAt.of ?a ?i ?l ?c ?k); (case a => k_is); (case i => k_is); (case l => k_is); (case c => k_is); (case k => k_is))
    (case A_sides => (refine' K44.MAt.of ?a ?i ?l ?c ?k); (case a => k_is); (case i => k_is); (case l => k_is); (case c => k_is); (case k => k_is))
    (case A_way => (refine' K44.MAt.of ?a ?i ?l ?c ?k); (case a => k_is); (case i => k_is); (case l => k_is); (case c => k_is); (case k => k_is))
#print axioms PySem.Challenge.cw_paidallways_k10_whole_costs_by_straight_holds
