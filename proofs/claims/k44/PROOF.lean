import PyProof.Rows.All
import Wide.All
import OpenK.AllK
import Wide.FinOn
import HandS.ForMost
import HandS.AnyAll
import HandS.GenOver
import HandS.Gcd
import HandS.Wide
import HandS.IsInst
import HandS.Star
import HandS.Walk
import HandS.Zip
import HandS.TupMul
import KE.GoesMore
import HandS.Flow
import HandS.Rev
import HandS.RevTup
import PyProof.ListNew
import HandS.EndTab
import KE.KNestM
import PySem.Challenge.RW_paidallways_k44_whole_systems_that_ask_o
set_option Elab.async false
set_option linter.all false
/-! Finite sums and determinants of functions of naturals, over Rat. -/
namespace LP
def S : Nat → (Nat → Rat) → Rat
  | 0, _ => 0
  | n + 1, f => S n f + f n
theorem S_congr {n : Nat} {f g : Nat → Rat} (h : ∀ i, i < n → f i = g i) : S n f = S n g := by
  induction n with
  | zero => rfl
  | succ n ih => simp only [S]; rw [ih (fun i hi => h i (by omega)), h n (by omega)]
theorem S_zero {n : Nat} {f : Nat → Rat} (h : ∀ i, i < n → f i = 0) : S n f = 0 := by
  induction n with
  | zero => rfl
  | succ n ih => simp only [S]; rw [ih (fun i hi => h i (by omega)), h n (by omega)]; grind
theorem S_add (n : Nat) (f g : Nat → Rat) : S n (fun i => f i + g i) = S n f + S n g := by
  induction n with
  | zero => simp only [S]; grind
  | succ n ih => simp only [S]; rw [ih]; grind
theorem S_sub (n : Nat) (f g : Nat → Rat) : S n (fun i => f i - g i) = S n f - S n g := by
  induction n with
  | zero => simp only [S]; grind
  | succ n ih => simp only [S]; rw [ih]; grind
theorem S_mul (n : Nat) (a : Rat) (f : Nat → Rat) : S n (fun i => a * f i) = a * S n f := by
  induction n with
  | zero => simp only [S]; grind
  | succ n ih => simp only [S]; rw [ih]; grind
theorem S_mulr (n : Nat) (a : Rat) (f : Nat → Rat) : S n (fun i => f i * a) = S n f * a := by
  induction n with
  | zero => simp only [S]; grind
  | succ n ih => simp only [S]; rw [ih]; grind
theorem S_comm (n m : Nat) (f : Nat → Nat → Rat) : S n (fun i => S m (fun j => f i j)) = S m (fun j => S n (fun i => f i j)) := by
  induction n with
  | zero => simp only [S]; exact (S_zero (fun _ _ => rfl)).symm
  | succ n ih => simp only [S]; rw [ih, ← S_add]
theorem S_one {n c : Nat} (hc : c < n) {f : Nat → Rat} (h : ∀ i, i < n → i ≠ c → f i = 0) : S n f = f c := by
  induction n with
  | zero => omega
  | succ n ih =>
    simp only [S]
    by_cases e : c = n
    · subst e
      rw [S_zero (fun i hi => h i (by omega) (by omega))]; grind
    · rw [ih (by omega) (fun i hi hne => h i (by omega) hne), h n (by omega) (by omega)]; grind
theorem S_le {n : Nat} {f g : Nat → Rat} (h : ∀ i, i < n → f i ≤ g i) : S n f ≤ S n g := by
  induction n with
  | zero => simp only [S]; grind
  | succ n ih =>
    simp only [S]
    have h1 := ih (fun i hi => h i (by omega))
    have h2 := h n (by omega)
    grind
theorem S_nonneg {n : Nat} {f : Nat → Rat} (h : ∀ i, i < n → 0 ≤ f i) : 0 ≤ S n f := by
  have := S_le (n := n) (f := fun _ => 0) h
  rw [S_zero (fun _ _ => rfl)] at this
  exact this
theorem S_nonpos {n : Nat} {f : Nat → Rat} (h : ∀ i, i < n → f i ≤ 0) : S n f ≤ 0 := by
  have := S_le (n := n) (g := fun _ => 0) h
  rw [S_zero (f := fun _ => 0) (fun _ _ => rfl)] at this
  exact this
/-- a positive sum has a positive term -/
theorem S_pos_ex {n : Nat} {f : Nat → Rat} (h : 0 < S n f) : ∃ i, i < n ∧ 0 < f i := by
  induction n with
  | zero => simp only [S] at h; grind
  | succ n ih =>
    simp only [S] at h
    by_cases h1 : 0 < f n
    · exact ⟨n, by omega, h1⟩
    · have : 0 < S n f := by grind
      obtain ⟨i, hi, hp⟩ := ih this
      exact ⟨i, by omega, hp⟩
/-- a sum of terms from 0 that is 0 has terms 0 -/
theorem S_all_zero {n : Nat} {f : Nat → Rat} (h : ∀ i, i < n → 0 ≤ f i) (e : S n f = 0) : ∀ i, i < n → f i = 0 := by
  induction n with
  | zero => intro i hi; omega
  | succ n ih =>
    simp only [S] at e
    have h1 : 0 ≤ S n f := S_nonneg (fun i hi => h i (by omega))
    have h2 := h n (by omega)
    intro i hi
    by_cases hin : i = n
    · subst hin; grind
    · exact ih (fun i hi => h i (by omega)) (by grind) i (by omega)
theorem S_ge_term {n c : Nat} {f : Nat → Rat} (hc : c < n) (h : ∀ i, i < n → 0 ≤ f i) : f c ≤ S n f := by
  induction n with
  | zero => omega
  | succ n ih =>
    simp only [S]
    by_cases e : c = n
    · subst e
      have := S_nonneg (n := c) (f := f) (fun i hi => h i (by omega)); grind
    · have := ih (by omega) (fun i hi => h i (by omega))
      have := h n (by omega); grind

/-! ### determinants: M c k is the entry of column c in row k -/
def sg (c : Nat) : Rat := if c % 2 = 0 then 1 else -1
theorem sg_succ (c : Nat) : sg (c + 1) = - sg c := by
  unfold sg
  split <;> split <;> first | omega | grind
def skip (c i : Nat) : Nat := if i < c then i else i + 1
def unskip (c i : Nat) : Nat := if i < c then i else i - 1
theorem skip_ne (c i : Nat) : skip c i ≠ c := by unfold skip; split <;> omega
theorem skip_iff {c c' i : Nat} (h : c' ≠ c) : skip c i = c' ↔ i = unskip c c' := by
  unfold skip unskip; split <;> split <;> omega
theorem unskip_lt {c c' n : Nat} (h : c' ≠ c) (h1 : c' < n + 1) (h2 : c < n + 1) : unskip c c' < n := by
  unfold unskip; split <;> omega
theorem skip_lt {c i n : Nat} (hi : i < n) : skip c i < n + 1 := by unfold skip; split <;> omega
def minor (M : Nat → Nat → Rat) (c : Nat) : Nat → Nat → Rat := fun i k => M (skip c i) (k + 1)
def det : Nat → (Nat → Nat → Rat) → Rat
  | 0, _ => 1
  | n + 1, M => S (n + 1) (fun c => sg c * M c 0 * det n (minor M c))
theorem det_succ (n : Nat) (M : Nat → Nat → Rat) : det (n + 1) M = S (n + 1) (fun c => sg c * M c 0 * det n (minor M c)) := rfl
theorem det_congr : ∀ {n : Nat} {M N : Nat → Nat → Rat}, (∀ c k, c < n → k < n → M c k = N c k) → det n M = det n N
  | 0, _, _, _ => rfl
  | n + 1, M, N, h => by
    rw [det_succ, det_succ]
    refine S_congr fun c hc => ?_
    rw [h c 0 hc (by omega), det_congr (n := n) (M := minor M c) (N := minor N c) fun i k hi hk => h _ _ (skip_lt hi) (by omega)]
def setc (M : Nat → Nat → Rat) (c : Nat) (u : Nat → Rat) : Nat → Nat → Rat := fun i k => if i = c then u k else M i k
theorem setc_same (M : Nat → Nat → Rat) (c : Nat) (u : Nat → Rat) (k : Nat) : setc M c u c k = u k := if_pos rfl
theorem setc_ne (M : Nat → Nat → Rat) {c i : Nat} (u : Nat → Rat) (k : Nat) (h : i ≠ c) : setc M c u i k = M i k := if_neg h
theorem minor_setc_same (M : Nat → Nat → Rat) (c : Nat) (u : Nat → Rat) : minor (setc M c u) c = minor M c := by
  funext i k; unfold minor; rw [setc_ne _ _ _ (skip_ne c i)]
theorem minor_setc (M : Nat → Nat → Rat) {c c' : Nat} (u : Nat → Rat) (h : c' ≠ c) : minor (setc M c' u) c = setc (minor M c) (unskip c c') (fun k => u (k + 1)) := by
  funext i k
  unfold minor setc
  by_cases e : skip c i = c'
  · rw [if_pos e, if_pos ((skip_iff h).mp e)]
  · rw [if_neg e, if_neg (fun z => e ((skip_iff h).mpr z))]
/-- linear in each column -/
theorem det_lin : ∀ {n c : Nat} (M : Nat → Nat → Rat) (u v : Nat → Rat) (a : Rat), c < n →
    det n (setc M c (fun k => u k + a * v k)) = det n (setc M c u) + a * det n (setc M c v)
  | 0, c, _, _, _, _, h => by omega
  | n + 1, c, M, u, v, a, h => by
    rw [det_succ, det_succ, det_succ, ← S_mul, ← S_add]
    refine S_congr fun d hd => ?_
    by_cases e : c = d
    · subst e
      rw [minor_setc_same, minor_setc_same, minor_setc_same, setc_same, setc_same, setc_same]
      grind
    · rw [minor_setc _ _ e, minor_setc _ _ e, minor_setc _ _ e, setc_ne _ _ _ (Ne.symm e), setc_ne _ _ _ (Ne.symm e), setc_ne _ _ _ (Ne.symm e)]
      rw [det_lin (minor M d) (fun k => u (k + 1)) (fun k => v (k + 1)) a (unskip_lt e h hd)]
      grind
theorem det_zero {n c : Nat} (M : Nat → Nat → Rat) (h : c < n) : det n (setc M c (fun _ => 0)) = 0 := by
  have e := det_lin M (fun _ => 0) (fun _ => 0) 1 h
  have : (fun (k : Nat) => (0 : Rat) + 1 * 0) = fun _ => 0 := by funext k; grind
  rw [this] at e
  grind
/-- two columns alike side by side -/
theorem det_adj : ∀ {n c : Nat} {M : Nat → Nat → Rat}, c + 1 < n → (∀ k, M c k = M (c + 1) k) → det n M = 0
  | 0, c, _, h, _ => by omega
  | n + 1, c, M, h, e => by
    rw [det_succ]
    have key : ∀ d, d < n + 1 → d ≠ c → d ≠ c + 1 → sg d * M d 0 * det n (minor M d) = 0 := fun d hd h1 h2 => by
      have : det n (minor M d) = 0 := by
        refine det_adj (c := unskip d c) ?_ fun k => ?_
        · unfold unskip; split <;> omega
        · unfold minor
          have e1 : skip d (unskip d c) = c := (skip_iff (Ne.symm h1)).mpr rfl
          have e2 : skip d (unskip d c + 1) = c + 1 := by
            refine (skip_iff (Ne.symm h2)).mpr ?_
            unfold unskip; split <;> split <;> omega
          rw [e1, e2, e]
      rw [this]; grind
    have two : ∀ (f : Nat → Rat) (m : Nat), c + 1 < m → (∀ d, d < m → d ≠ c → d ≠ c + 1 → f d = 0) → S m f = f c + f (c + 1) := by
      intro f m
      induction m with
      | zero => intro h; omega
      | succ m ih =>
        intro hm hz
        simp only [S]
        by_cases em : m = c + 1
        · subst em
          simp only [S]
          rw [S_zero (fun i hi => hz i (by omega) (by omega) (by omega))]; grind
        · rw [ih (by omega) (fun d hd => hz d (by omega)), hz m (by omega) (by omega) (by omega)]; grind
    rw [two _ _ h key]
    have em : minor M c = minor M (c + 1) := by
      funext i k
      unfold minor skip
      by_cases h1 : i < c
      · rw [if_pos h1, if_pos (by omega)]
      · rw [if_neg h1]
        by_cases h2 : i = c
        · subst h2; rw [if_pos (by omega)]; exact (e (k + 1)).symm
        · rw [if_neg (by omega)]
    show sg c * M c 0 * det n (minor M c) + sg (c + 1) * M (c + 1) 0 * det n (minor M (c + 1)) = 0
    rw [em, sg_succ, e 0]
    grind
theorem setc_comm (M : Nat → Nat → Rat) {c d : Nat} (u v : Nat → Rat) (h : c ≠ d) : setc (setc M c u) d v = setc (setc M d v) c u := by
  funext i k; unfold setc; split <;> split <;> first | rfl | (subst_vars; exact absurd rfl h)
theorem setc_self (M : Nat → Nat → Rat) (c : Nat) : setc M c (M c) = M := by
  funext i k; unfold setc; split <;> first | rfl | (subst_vars; rfl)
/-- the neighbours exchanged -/
theorem det_swap {n c : Nat} (M : Nat → Nat → Rat) (u v : Nat → Rat) (h : c + 1 < n) : det n (setc (setc M c v) (c + 1) u) = - det n (setc (setc M c u) (c + 1) v) := by
  have hc : c ≠ c + 1 := by omega
  have lin2 : ∀ (x y z : Nat → Rat), det n (setc (setc M c x) (c + 1) (fun k => y k + 1 * z k)) = det n (setc (setc M c x) (c + 1) y) + 1 * det n (setc (setc M c x) (c + 1) z) := fun x y z => det_lin _ y z 1 h
  have lin1 : ∀ (x y z : Nat → Rat), det n (setc (setc M c (fun k => x k + 1 * y k)) (c + 1) z) = det n (setc (setc M c x) (c + 1) z) + 1 * det n (setc (setc M c y) (c + 1) z) := fun x y z => by
    rw [setc_comm _ _ _ hc, setc_comm _ _ _ hc, setc_comm _ _ _ hc]
    exact det_lin _ x y 1 (by omega)
  have al : ∀ x : Nat → Rat, det n (setc (setc M c x) (c + 1) x) = 0 := fun x => by
    refine det_adj h fun k => ?_
    rw [setc_same, setc_ne _ _ _ hc, setc_same]
  have e := al (fun k => u k + 1 * v k)
  rw [lin2, lin1, lin1, al, al] at e
  grind
theorem det_alike : ∀ (j : Nat) {n c : Nat} {M : Nat → Nat → Rat}, c + j + 1 < n → (∀ k, M c k = M (c + j + 1) k) → det n M = 0
  | 0, n, c, M, h, e => det_adj h e
  | j + 1, n, c, M, h, e => by
    have s := det_swap (c := c + j + 1) M (M (c + j + 1)) (M (c + j + 2)) h
    have e1 : setc (setc M (c + j + 1) (M (c + j + 1))) (c + j + 1 + 1) (M (c + j + 2)) = M := by rw [setc_self]; exact setc_self M (c + j + 2)
    rw [e1] at s
    have z : det n (setc (setc M (c + j + 1) (M (c + j + 2))) (c + j + 1 + 1) (M (c + j + 1))) = 0 := by
      refine det_alike j (c := c) (by omega) fun k => ?_
      rw [setc_ne _ _ _ (by omega), setc_ne _ _ _ (by omega), setc_ne _ _ _ (by omega), setc_same]
      exact e k
    rw [z] at s
    grind
theorem det_eq_cols {n c d : Nat} {M : Nat → Nat → Rat} (hc : c < n) (hd : d < n) (hcd : c ≠ d) (e : ∀ k, M c k = M d k) : det n M = 0 := by
  rcases Nat.lt_or_gt_of_ne hcd with h | h
  · obtain ⟨j, rfl⟩ : ∃ j, d = c + j + 1 := ⟨d - c - 1, by omega⟩
    exact det_alike j hd e
  · obtain ⟨j, rfl⟩ : ∃ j, c = d + j + 1 := ⟨c - d - 1, by omega⟩
    exact det_alike j hc fun k => (e k).symm
theorem det_S {n c : Nat} (M : Nat → Nat → Rat) (hc : c < n) (x : Nat → Rat) (V : Nat → Nat → Rat) : ∀ m, det n (setc M c (fun k => S m (fun j => x j * V j k))) = S m (fun j => x j * det n (setc M c (V j)))
  | 0 => by simp only [S]; exact det_zero M hc
  | m + 1 => by
    simp only [S]
    rw [det_lin M (fun k => S m (fun j => x j * V j k)) (V m) (x m) hc, det_S M hc x V m]
/-- Cramer: if a is the sum of the columns times x, then a in the place of column c has the determinant x c times as great -/
theorem cramer {n c : Nat} {M : Nat → Nat → Rat} (hc : c < n) {x a : Nat → Rat} (h : ∀ k, k < n → a k = S n (fun i => x i * M i k)) : det n (setc M c a) = x c * det n M := by
  have e1 : det n (setc M c a) = det n (setc M c (fun k => S n (fun j => x j * M j k))) := det_congr fun i k _ hk => by
    unfold setc; split
    · exact h k hk
    · rfl
  rw [e1, det_S M hc x M n, S_one hc]
  · rw [setc_self]
  · intro i hi hne
    have : det n (setc M c (M i)) = 0 := by
      refine det_eq_cols hc hi (Ne.symm hne) fun k => ?_
      rw [setc_same, setc_ne _ _ _ hne]
    rw [this]; grind
theorem det_id : ∀ n, det n (fun c k => if c = k then 1 else 0) = 1
  | 0 => rfl
  | n + 1 => by
    rw [det_succ, S_one (c := 0) (by omega)]
    · have e : minor (fun c k => if c = k then (1 : Rat) else 0) 0 = fun c k => if c = k then 1 else 0 := by
        funext i k
        unfold minor skip
        rw [if_neg (by omega)]
        show (if i + 1 = k + 1 then (1 : Rat) else 0) = if i = k then 1 else 0
        by_cases h : i = k
        · rw [if_pos h, if_pos (by omega)]
        · rw [if_neg h, if_neg (by omega)]
      rw [e, det_id n]
      unfold sg; grind
    · intro i _ hne
      rw [if_neg hne]; grind

/-! ### whole and bounded -/
def IsI (q : Rat) : Prop := ∃ z : Int, q = (z : Rat)
def Bd (B : Rat) (q : Rat) : Prop := -B ≤ q ∧ q ≤ B
theorem IsI.add {a b : Rat} : IsI a → IsI b → IsI (a + b) | ⟨x, hx⟩, ⟨y, hy⟩ => ⟨x + y, by rw [hx, hy, Rat.intCast_add]⟩
theorem IsI.mul {a b : Rat} : IsI a → IsI b → IsI (a * b) | ⟨x, hx⟩, ⟨y, hy⟩ => ⟨x * y, by rw [hx, hy, Rat.intCast_mul]⟩
theorem IsI.sub {a b : Rat} : IsI a → IsI b → IsI (a - b) | ⟨x, hx⟩, ⟨y, hy⟩ => ⟨x - y, by rw [hx, hy, Rat.intCast_sub]⟩
theorem IsI.neg {a : Rat} : IsI a → IsI (-a) | ⟨x, hx⟩ => ⟨-x, by rw [hx, Rat.intCast_neg]⟩
theorem isI_int (z : Int) : IsI (z : Rat) := ⟨z, rfl⟩
theorem isI_zero : IsI 0 := ⟨0, rfl⟩
theorem isI_one : IsI 1 := ⟨1, rfl⟩
theorem isI_sg (c : Nat) : IsI (sg c) := by unfold sg; split; exact ⟨1, rfl⟩; exact ⟨-1, rfl⟩
theorem isI_S {n : Nat} {f : Nat → Rat} (h : ∀ i, i < n → IsI (f i)) : IsI (S n f) := by
  induction n with
  | zero => exact isI_zero
  | succ n ih => exact (ih fun i hi => h i (by omega)).add (h n (by omega))
theorem isI_det : ∀ {n : Nat} {M : Nat → Nat → Rat}, (∀ c k, c < n → k < n → IsI (M c k)) → IsI (det n M)
  | 0, _, _ => isI_one
  | n + 1, M, h => by
    rw [det_succ]
    refine isI_S fun c hc => ((isI_sg c).mul (h c 0 hc (by omega))).mul ?_
    exact isI_det fun i k hi hk => h _ _ (skip_lt hi) (by omega)
theorem bd_mul {A B a b : Rat} (ha : Bd A a) (hb : Bd B b) : Bd (A * B) (a * b) := by
  have hA : 0 ≤ A := by have := ha.1; have := ha.2; grind
  have hB : 0 ≤ B := by have := hb.1; have := hb.2; grind
  obtain ⟨a1, a2⟩ := ha
  obtain ⟨b1, b2⟩ := hb
  have p1 : 0 ≤ (A - a) * (B + b) := Rat.mul_nonneg (by grind) (by grind)
  have p2 : 0 ≤ (A + a) * (B - b) := Rat.mul_nonneg (by grind) (by grind)
  have p3 : 0 ≤ (A - a) * (B - b) := Rat.mul_nonneg (by grind) (by grind)
  have p4 : 0 ≤ (A + a) * (B + b) := Rat.mul_nonneg (by grind) (by grind)
  constructor <;> grind
theorem bd_add {A B a b : Rat} (ha : Bd A a) (hb : Bd B b) : Bd (A + B) (a + b) := by
  obtain ⟨a1, a2⟩ := ha; obtain ⟨b1, b2⟩ := hb; constructor <;> grind
theorem bd_sub {A B a b : Rat} (ha : Bd A a) (hb : Bd B b) : Bd (A + B) (a - b) := by
  obtain ⟨a1, a2⟩ := ha; obtain ⟨b1, b2⟩ := hb; constructor <;> grind
theorem bd_neg {A a : Rat} (ha : Bd A a) : Bd A (-a) := by
  obtain ⟨a1, a2⟩ := ha; constructor <;> grind
theorem bd_mono {A B a : Rat} (h : A ≤ B) (ha : Bd A a) : Bd B a := by
  obtain ⟨a1, a2⟩ := ha; constructor <;> grind
theorem bd_zero {A : Rat} (h : 0 ≤ A) : Bd A 0 := by constructor <;> grind
theorem bd_S {n : Nat} {f : Nat → Rat} {B : Rat} (h : ∀ i, i < n → Bd B (f i)) : Bd ((n : Rat) * B) (S n f) := by
  induction n with
  | zero => simp only [S]; constructor <;> grind
  | succ n ih =>
    simp only [S]
    have h1 := bd_add (ih fun i hi => h i (by omega)) (h n (by omega))
    have e : ((n + 1 : Nat) : Rat) * B = (n : Rat) * B + B := by
      rw [show ((n + 1 : Nat) : Rat) = (n : Rat) + 1 from by simp]; grind
    rw [e]; exact h1
def fac (W : Rat) : Nat → Rat
  | 0 => 1
  | n + 1 => ((n + 1 : Nat) : Rat) * (W * fac W n)
theorem bd_det {W : Rat} : ∀ {n : Nat} {M : Nat → Nat → Rat}, (∀ c k, c < n → k < n → Bd W (M c k)) → Bd (fac W n) (det n M)
  | 0, _, _ => by unfold fac det; constructor <;> grind
  | n + 1, M, h => by
    rw [det_succ]
    unfold fac
    refine bd_S fun c hc => ?_
    have h1 : Bd W (sg c * M c 0) := by
      have := h c 0 hc (by omega)
      unfold sg; split
      · rw [Rat.one_mul]; exact this
      · have e : (-1 : Rat) * M c 0 = - M c 0 := by grind
        rw [e]; exact bd_neg this
    exact bd_mul h1 (bd_det fun i k hi hk => h _ _ (skip_lt hi) (by omega))
end LP


/-! Tables of the simplex method, turned; Bland's rule ends. -/
namespace LP
structure Tab where
  T : Nat → Nat → Rat
  b : Nat → Nat
def piv (s : Tab) (r c : Nat) : Tab :=
  { T := fun i j => if i = r then s.T r j / s.T r c else s.T i j - s.T i c * (s.T r j / s.T r c), b := fun i => if i = r then c else s.b i }
theorem piv_T_r (s : Tab) (r c j : Nat) : (piv s r c).T r j = s.T r j / s.T r c := if_pos rfl
theorem piv_T_ne (s : Tab) {r i : Nat} (c j : Nat) (h : i ≠ r) : (piv s r c).T i j = s.T i j - s.T i c * (s.T r j / s.T r c) := if_neg h
theorem piv_b_r (s : Tab) (r c : Nat) : (piv s r c).b r = c := if_pos rfl
theorem piv_b_ne (s : Tab) {r i : Nat} (c : Nat) (h : i ≠ r) : (piv s r c).b i = s.b i := if_neg h
/-- n rows; columns: m given ones, n own ones, the right side -/
structure Inv (n m : Nat) (A : Nat → Nat → Rat) (s : Tab) : Prop where
  bl : ∀ i, i < n → s.b i < m + n
  id : ∀ i k, i < n → k < n → s.T i (s.b k) = if i = k then 1 else 0
  rows : ∀ i j, i < n → j ≤ m + n → s.T i j = S n (fun k => s.T i (m + k) * A k j)
  cols : ∀ k j, k < n → j ≤ m + n → A k j = S n (fun i => A k (s.b i) * s.T i j)
def Feas (n m : Nat) (s : Tab) : Prop := ∀ i, i < n → 0 ≤ s.T i (m + n)
theorem S_upd {n r : Nat} {f g : Nat → Rat} (hr : r < n) (h : ∀ i, i < n → i ≠ r → f i = g i) : S n f = S n g + (f r - g r) := by
  have e : S n (fun i => f i - g i) = f r - g r := S_one hr (f := fun i => f i - g i) (fun i hi hne => by
    show f i - g i = 0
    rw [h i hi hne]; grind)
  rw [S_sub] at e
  grind
section
variable {n m : Nat} {A : Nat → Nat → Rat} {s : Tab}
theorem Inv.inj (I : Inv n m A s) {i k : Nat} (hi : i < n) (hk : k < n) (e : s.b i = s.b k) : i = k := by
  have h1 := I.id i i hi hi
  have h2 := I.id i k hi hk
  rw [if_pos rfl] at h1
  rw [← e, h1] at h2
  by_cases q : i = k
  · exact q
  · rw [if_neg q] at h2; grind
theorem Inv.piv (I : Inv n m A s) {r c : Nat} (hr : r < n) (hc : c < m + n) (hp : s.T r c ≠ 0) : Inv n m A (piv s r c) where
  bl := fun i hi => by
    by_cases h : i = r
    · subst h; rw [piv_b_r]; exact hc
    · rw [piv_b_ne s c h]; exact I.bl i hi
  id := fun i k hi hk => by
    by_cases hkr : k = r
    · subst hkr
      rw [piv_b_r]
      by_cases h : i = k
      · subst h; rw [piv_T_r, if_pos rfl]; grind
      · rw [piv_T_ne s c _ h, if_neg h]; grind
    · rw [piv_b_ne s c hkr]
      have z := I.id r k hr hk
      rw [if_neg (Ne.symm hkr)] at z
      by_cases h : i = r
      · subst h; rw [piv_T_r, if_neg (Ne.symm hkr), z]; grind
      · rw [piv_T_ne s c _ h, z, I.id i k hi hk]; grind
  rows := fun i j hi hj => by
    by_cases h : i = r
    · subst h
      have e : S n (fun k => (LP.piv s i c).T i (m + k) * A k j) = S n (fun k => s.T i (m + k) * A k j) / s.T i c := by
        rw [Rat.div_def, ← S_mulr]
        refine S_congr fun k _ => ?_
        rw [piv_T_r]; grind
      rw [e, ← I.rows i j hi hj, piv_T_r]
    · have e : S n (fun k => (LP.piv s r c).T i (m + k) * A k j) = S n (fun k => s.T i (m + k) * A k j) - (s.T i c / s.T r c) * S n (fun k => s.T r (m + k) * A k j) := by
        rw [← S_mul, ← S_sub]
        refine S_congr fun k _ => ?_
        rw [piv_T_ne s c _ h]; grind
      rw [e, ← I.rows i j hi hj, ← I.rows r j hr hj, piv_T_ne s c _ h]; grind
  cols := fun k j hk hj => by
    have e := S_upd (n := n) (r := r) (f := fun i => A k ((LP.piv s r c).b i) * (LP.piv s r c).T i j) (g := fun i => A k (s.b i) * (s.T i j - s.T i c * (s.T r j / s.T r c))) hr (fun i _ hne => by
      show _ * _ = _
      rw [piv_b_ne s c hne, piv_T_ne s c _ hne])
    have e2 : S n (fun i => A k (s.b i) * (s.T i j - s.T i c * (s.T r j / s.T r c))) = S n (fun i => A k (s.b i) * s.T i j) - S n (fun i => A k (s.b i) * s.T i c) * (s.T r j / s.T r c) := by
      rw [← S_mulr, ← S_sub]
      exact S_congr fun i _ => by grind
    rw [e2, ← I.cols k j hk hj, ← I.cols k c hk (by omega)] at e
    rw [e]
    show _ = A k j - A k c * (s.T r j / s.T r c) + (A k ((LP.piv s r c).b r) * (LP.piv s r c).T r j - A k (s.b r) * (s.T r j - s.T r c * (s.T r j / s.T r c)))
    rw [piv_b_r, piv_T_r]
    grind
/-- the table hangs on the basis alone -/
theorem Inv.unique {s' : Tab} (I : Inv n m A s) (I' : Inv n m A s') (h : ∀ i, i < n → s'.b i = s.b i) {i j : Nat} (hi : i < n) (hj : j ≤ m + n) : s'.T i j = s.T i j := by
  rw [I'.rows i j hi hj]
  have e : S n (fun k => s'.T i (m + k) * A k j) = S n (fun k => S n (fun l => s'.T i (m + k) * A k (s.b l) * s.T l j)) := S_congr fun k hk => by
    show _ * A k j = _
    rw [I.cols k j hk hj, ← S_mul]
    exact S_congr fun l _ => by grind
  rw [e, S_comm]
  have e2 : S n (fun l => S n (fun k => s'.T i (m + k) * A k (s.b l) * s.T l j)) = S n (fun l => (if i = l then 1 else 0) * s.T l j) := S_congr fun l hl => by
    rw [S_mulr, ← I'.rows i (s.b l) hi (Nat.le_of_lt (I.bl l hl)), ← h l hl, I'.id i l hi hl]
  rw [e2, S_one hi]
  · rw [if_pos rfl]; grind
  · intro l _ hne
    rw [if_neg (Ne.symm hne)]; grind
end
/-! ### worths -/
def used (n : Nat) (c : Nat → Rat) (s : Tab) (j : Nat) : Rat := S n (fun i => c (s.b i) * s.T i j)
def red (n : Nat) (c : Nat → Rat) (s : Tab) (j : Nat) : Rat := c j - used n c s j
def yv (n m : Nat) (c : Nat → Rat) (s : Tab) (k : Nat) : Rat := used n c s (m + k)
section
variable {n m : Nat} {A : Nat → Nat → Rat} {s : Tab} {c : Nat → Rat}
theorem Inv.used_y (I : Inv n m A s) {j : Nat} (hj : j ≤ m + n) : used n c s j = S n (fun k => yv n m c s k * A k j) := by
  have e : used n c s j = S n (fun i => S n (fun k => c (s.b i) * (s.T i (m + k) * A k j))) := S_congr fun i hi => by
    rw [S_mul, ← I.rows i j hi hj]
  rw [e, S_comm]
  refine S_congr fun k _ => ?_
  show _ = S n (fun i => c (s.b i) * s.T i (m + k)) * A k j
  rw [← S_mulr]
  exact S_congr fun i _ => by grind
theorem Inv.red_basic (I : Inv n m A s) {k : Nat} (hk : k < n) : red n c s (s.b k) = 0 := by
  unfold red used
  rw [S_one hk]
  · rw [I.id k k hk hk, if_pos rfl]; grind
  · intro i hi hne
    rw [I.id i k hi hk, if_neg hne]; grind
/-- along what sums up to nothing the worths may be read off the reduced ones -/
theorem Inv.red_null (I : Inv n m A s) {d : Nat → Rat} (hd : ∀ k, k < n → S (m + n) (fun j => A k j * d j) = 0) : S (m + n) (fun j => red n c s j * d j) = S (m + n) (fun j => c j * d j) := by
  have e : S (m + n) (fun j => red n c s j * d j) = S (m + n) (fun j => c j * d j - S n (fun k => yv n m c s k * (A k j * d j))) := S_congr fun j hj => by
    unfold red
    rw [I.used_y (Nat.le_of_lt hj)]
    have : S n (fun k => yv n m c s k * (A k j * d j)) = S n (fun k => yv n m c s k * A k j) * d j := by
      rw [← S_mulr]; exact S_congr fun k _ => by grind
    rw [this]; grind
  rw [e, S_sub, S_comm]
  have z : S n (fun k => S (m + n) (fun j => yv n m c s k * (A k j * d j))) = 0 := S_zero fun k hk => by
    rw [S_mul, hd k hk]; grind
  rw [z]; grind
/-- one more of column e, the basis following -/
def dir (n : Nat) (s : Tab) (e j : Nat) : Rat := (if j = e then 1 else 0) - S n (fun i => if s.b i = j then s.T i e else 0)
theorem S_pick {N b : Nat} (hb : b < N) (f : Nat → Rat) (x : Rat) : S N (fun j => f j * (if b = j then x else 0)) = f b * x := by
  rw [S_one hb]
  · rw [if_pos rfl]
  · intro i _ hne
    rw [if_neg (Ne.symm hne)]; grind
theorem Inv.dir_sum (I : Inv n m A s) {e : Nat} (he : e < m + n) (f : Nat → Rat) : S (m + n) (fun j => f j * dir n s e j) = f e - S n (fun i => f (s.b i) * s.T i e) := by
  have h : S (m + n) (fun j => f j * dir n s e j) = S (m + n) (fun j => f j * (if e = j then 1 else 0)) - S (m + n) (fun j => S n (fun i => f j * (if s.b i = j then s.T i e else 0))) := by
    rw [← S_sub]
    refine S_congr fun j _ => ?_
    unfold dir
    rw [S_mul]
    by_cases q : j = e
    · rw [if_pos q, if_pos q.symm]; grind
    · rw [if_neg q, if_neg (Ne.symm q)]; grind
  rw [h, S_pick he, S_comm]
  have h2 : S n (fun i => S (m + n) (fun j => f j * (if s.b i = j then s.T i e else 0))) = S n (fun i => f (s.b i) * s.T i e) := S_congr fun i hi => S_pick (I.bl i hi) f _
  rw [h2]; grind
theorem Inv.dir_null (I : Inv n m A s) {e : Nat} (he : e < m + n) : ∀ k, k < n → S (m + n) (fun j => A k j * dir n s e j) = 0 := fun k hk => by
  rw [I.dir_sum he, ← I.cols k e hk (Nat.le_of_lt he)]; grind
theorem Inv.dir_worth (I : Inv n m A s) {e : Nat} (he : e < m + n) : S (m + n) (fun j => c j * dir n s e j) = red n c s e := I.dir_sum he c
theorem Inv.dir_basic (I : Inv n m A s) {e i : Nat} (hi : i < n) (h : s.b i ≠ e) : dir n s e (s.b i) = - s.T i e := by
  unfold dir
  rw [if_neg h, S_one hi]
  · rw [if_pos rfl]; grind
  · intro k hk hne
    rw [if_neg fun q => hne (I.inj hk hi q)]
def Basic (n : Nat) (s : Tab) (v : Nat) : Prop := ∃ i, i < n ∧ s.b i = v
theorem dir_free {e j : Nat} (h : ¬ Basic n s j) (hj : j ≠ e) : dir n s e j = 0 := by
  unfold dir
  rw [if_neg hj, S_zero fun i hi => if_neg fun q => h ⟨i, hi, q⟩]; grind
theorem dir_e {e : Nat} (h : ¬ Basic n s e) : dir n s e e = 1 := by
  unfold dir
  rw [if_pos rfl, S_zero fun i hi => if_neg fun q => h ⟨i, hi, q⟩]; grind
theorem Inv.val_piv (I : Inv n m A s) {r e : Nat} (hr : r < n) (hp : s.T r e ≠ 0) (j : Nat) : used n c (LP.piv s r e) j = used n c s j + red n c s e * (s.T r j / s.T r e) := by
  have h := S_upd (n := n) (r := r) (f := fun i => c ((LP.piv s r e).b i) * (LP.piv s r e).T i j) (g := fun i => c (s.b i) * (s.T i j - s.T i e * (s.T r j / s.T r e))) hr (fun i _ hne => by
    show _ * _ = _
    rw [piv_b_ne s e hne, piv_T_ne s e _ hne])
  have e2 : S n (fun i => c (s.b i) * (s.T i j - s.T i e * (s.T r j / s.T r e))) = S n (fun i => c (s.b i) * s.T i j) - S n (fun i => c (s.b i) * s.T i e) * (s.T r j / s.T r e) := by
    rw [← S_mulr, ← S_sub]
    exact S_congr fun i _ => by grind
  show S n _ = _
  rw [h, e2]
  show S n (fun i => c (s.b i) * s.T i j) - S n (fun i => c (s.b i) * s.T i e) * (s.T r j / s.T r e) + (c ((LP.piv s r e).b r) * (LP.piv s r e).T r j - c (s.b r) * (s.T r j - s.T r e * (s.T r j / s.T r e))) = _
  rw [piv_b_r, piv_T_r]
  unfold red used
  grind
end
/-! ### Bland's rule -/
structure Enter (n m : Nat) (c : Nat → Rat) (s : Tab) (e : Nat) : Prop where
  lt : e < m
  pos : 0 < red n c s e
  first : ∀ j, j < e → red n c s j ≤ 0
structure Leave (n m : Nat) (s : Tab) (e r : Nat) : Prop where
  lt : r < n
  pos : 0 < s.T r e
  least : ∀ i, i < n → 0 < s.T i e → s.T r (m + n) / s.T r e < s.T i (m + n) / s.T i e ∨ (s.T r (m + n) / s.T r e = s.T i (m + n) / s.T i e ∧ s.b r ≤ s.b i)
theorem div_le_mul {a b p q : Rat} (hp : 0 < p) (hq : 0 < q) (h : a / p ≤ b / q) : q * (a / p) ≤ b := by
  have h1 := Rat.mul_le_mul_of_nonneg_left h (Rat.le_of_lt hq)
  have h2 : q * (b / q) = b := by grind
  rw [h2] at h1
  exact h1
theorem div_nonneg {a p : Rat} (ha : 0 ≤ a) (hp : 0 < p) : 0 ≤ a / p := by
  rw [Rat.div_def]
  exact Rat.mul_nonneg ha (Rat.le_of_lt (Rat.inv_pos.mpr hp))
section
variable {n m : Nat} {A : Nat → Nat → Rat} {s : Tab} {c : Nat → Rat}
theorem Leave.feas {e r : Nat} (F : Feas n m s) (L : Leave n m s e r) : Feas n m (piv s r e) := fun i hi => by
  have q0 := div_nonneg (F r L.lt) L.pos
  by_cases h : i = r
  · subst h; rw [piv_T_r]; exact q0
  · rw [piv_T_ne s e _ h]
    have fi := F i hi
    by_cases hp : 0 < s.T i e
    · have : s.T i e * (s.T r (m + n) / s.T r e) ≤ s.T i (m + n) := div_le_mul L.pos hp (by rcases L.least i hi hp with z | z <;> grind)
      grind
    · have : 0 ≤ (- s.T i e) * (s.T r (m + n) / s.T r e) := Rat.mul_nonneg (by grind) q0
      grind
theorem Enter.free {e : Nat} (I : Inv n m A s) (En : Enter n m c s e) : ¬ Basic n s e := fun ⟨i, hi, h⟩ => by
  have := I.red_basic (c := c) hi
  have p := En.pos
  rw [← h] at p
  grind
theorem basic_piv {r e v : Nat} (I : Inv n m A s) (hr : r < n) : Basic n (piv s r e) v ↔ v = e ∨ (Basic n s v ∧ v ≠ s.b r) := by
  constructor
  · rintro ⟨i, hi, h⟩
    by_cases q : i = r
    · subst q; rw [piv_b_r] at h; exact .inl h.symm
    · rw [piv_b_ne s e q] at h
      exact .inr ⟨⟨i, hi, h⟩, fun z => q (I.inj hi hr (h.trans z))⟩
  · rintro (h | ⟨⟨i, hi, h⟩, hne⟩)
    · exact ⟨r, hr, by rw [piv_b_r, h]⟩
    · have q : i ≠ r := fun z => hne (by rw [← h, z])
      exact ⟨i, hi, by rw [piv_b_ne s e q, h]⟩
end
theorem pigeon : ∀ (N : Nat) (f : Nat → Nat), (∀ k, f k < N) → ∃ i j, i < j ∧ f i = f j
  | 0, f, h => absurd (h 0) (Nat.not_lt_zero _)
  | N + 1, f, h => by
    by_cases q : ∃ K, ∀ k, K ≤ k → f k ≠ N
    · obtain ⟨K, hK⟩ := q
      obtain ⟨i, j, hij, e⟩ := pigeon N (fun k => f (K + k)) fun k => by
        have h1 := h (K + k)
        have h2 := hK (K + k) (by omega)
        show f (K + k) < N
        omega
      exact ⟨K + i, K + j, by omega, e⟩
    · have ex : ∀ K, ∃ k, K ≤ k ∧ f k = N := fun K => Classical.byContradiction fun z => q ⟨K, fun k hk e => z ⟨k, hk, e⟩⟩
      obtain ⟨i, _, hi⟩ := ex 0
      obtain ⟨j, hj, hj2⟩ := ex (i + 1)
      exact ⟨i, j, by omega, hi.trans hj2.symm⟩
def enc (N : Nat) (b : Nat → Nat) : Nat → Nat
  | 0 => 0
  | n + 1 => enc N b n + b n * N ^ n
theorem enc_lt {N : Nat} {b : Nat → Nat} : ∀ {n : Nat}, (∀ i, i < n → b i < N) → enc N b n < N ^ n
  | 0, _ => by simp [enc]
  | n + 1, h => by
    have h1 := enc_lt (n := n) fun i hi => h i (by omega)
    have h2 := h n (by omega)
    have h3 : b n * N ^ n + N ^ n ≤ N * N ^ n := by
      rw [← Nat.succ_mul]; exact Nat.mul_le_mul_right _ h2
    show enc N b n + b n * N ^ n < N ^ (n + 1)
    rw [Nat.pow_succ, Nat.mul_comm (N ^ n) N]
    omega
theorem enc_inj {N : Nat} {b d : Nat → Nat} : ∀ {n : Nat}, (∀ i, i < n → b i < N) → (∀ i, i < n → d i < N) → enc N b n = enc N d n → ∀ i, i < n → b i = d i
  | 0, _, _, _, i, hi => by omega
  | n + 1, hb, hd, e, i, hi => by
    have l1 := enc_lt (n := n) fun i hi => hb i (by omega)
    have l2 := enc_lt (n := n) fun i hi => hd i (by omega)
    have e : enc N b n + b n * N ^ n = enc N d n + d n * N ^ n := e
    have hp : 0 < N ^ n := by omega
    have q : b n = d n := by
      have e1 : (enc N b n + b n * N ^ n) / N ^ n = b n := by rw [Nat.add_mul_div_right _ _ hp, Nat.div_eq_of_lt l1]; omega
      have e2 : (enc N d n + d n * N ^ n) / N ^ n = d n := by rw [Nat.add_mul_div_right _ _ hp, Nat.div_eq_of_lt l2]; omega
      rw [← e1, ← e2, e]
    by_cases h : i = n
    · rw [h]; exact q
    · rw [q] at e
      exact enc_inj (n := n) (fun i hi => hb i (by omega)) (fun i hi => hd i (by omega)) (by omega) i (by omega)
theorem ex_max {P : Nat → Prop} : ∀ (N : Nat), (∀ v, P v → v < N) → (∃ v, P v) → ∃ t, P t ∧ ∀ v, P v → v ≤ t
  | 0, h, ⟨v, hv⟩ => absurd (h v hv) (Nat.not_lt_zero _)
  | N + 1, h, ⟨v, hv⟩ => by
    by_cases q : P N
    · exact ⟨N, q, fun v hv => by have := h v hv; omega⟩
    · exact ex_max N (fun v hv => by
        have h1 := h v hv
        have : v ≠ N := fun e => q (e ▸ hv)
        omega) ⟨v, hv⟩
/-- no run of turns by Bland's rule is without an end -/
theorem bland {n m : Nat} {A : Nat → Nat → Rat} {c : Nat → Rat} (s : Nat → Tab) (e r : Nat → Nat) (I : ∀ k, Inv n m A (s k)) (En : ∀ k, Enter n m c (s k) (e k)) (L : ∀ k, Leave n m (s k) (e k) (r k))
    (F : ∀ k, Feas n m (s k)) (st : ∀ k, s (k + 1) = piv (s k) (r k) (e k)) : False := by
  obtain ⟨a, z, haz, hez⟩ := pigeon ((m + n) ^ n) (fun k => enc (m + n) (s k).b n) fun k => enc_lt fun i hi => (I k).bl i hi
  have hb : ∀ i, i < n → (s a).b i = (s z).b i := enc_inj (fun i hi => (I a).bl i hi) (fun i hi => (I z).bl i hi) hez
  have em : ∀ k, e k < m + n := fun k => by have := (En k).lt; omega
  have pne : ∀ k, (s k).T (r k) (e k) ≠ 0 := fun k => by have := (L k).pos; grind
  have ratio : ∀ k, 0 ≤ (s k).T (r k) (m + n) / (s k).T (r k) (e k) := fun k => div_nonneg (F k _ (L k).lt) (L k).pos
  have vs : ∀ k, used n c (s (k + 1)) (m + n) = used n c (s k) (m + n) + red n c (s k) (e k) * ((s k).T (r k) (m + n) / (s k).T (r k) (e k)) := fun k => by
    rw [st k]; exact (I k).val_piv (L k).lt (pne k) _
  have gain : ∀ k, 0 ≤ red n c (s k) (e k) * ((s k).T (r k) (m + n) / (s k).T (r k) (e k)) := fun k => Rat.mul_nonneg (Rat.le_of_lt (En k).pos) (ratio k)
  have mono : ∀ d k, used n c (s k) (m + n) ≤ used n c (s (k + d)) (m + n) := by
    intro d
    induction d with
    | zero => intro k; exact Rat.le_refl
    | succ d ih =>
      intro k
      have h1 := ih k
      have h2 := vs (k + d)
      have h3 := gain (k + d)
      show _ ≤ used n c (s (k + d + 1)) (m + n)
      grind
  have same : used n c (s a) (m + n) = used n c (s z) (m + n) := by
    refine S_congr fun i hi => ?_
    rw [hb i hi, (I z).unique (I a) hb hi (Nat.le_refl _)]
  -- nothing is gained on the way
  have rz : ∀ k, a ≤ k → k < z → (s k).T (r k) (m + n) = 0 := fun k h1 h2 => by
    have q1 := mono (k - a) a
    have q2 := mono (z - (k + 1)) (k + 1)
    rw [show a + (k - a) = k by omega] at q1
    rw [show k + 1 + (z - (k + 1)) = z by omega] at q2
    have g := gain k
    have v := vs k
    have p := (En k).pos
    have zero : red n c (s k) (e k) * ((s k).T (r k) (m + n) / (s k).T (r k) (e k)) = 0 := by grind
    have pp := (L k).pos
    have : (s k).T (r k) (m + n) / (s k).T (r k) (e k) = 0 := by grind
    have e1 : (s k).T (r k) (m + n) = ((s k).T (r k) (m + n) / (s k).T (r k) (e k)) * (s k).T (r k) (e k) := by grind
    rw [e1, this]; grind
  let x : Nat → Nat → Rat := fun k v => S n (fun i => if (s k).b i = v then (s k).T i (m + n) else 0)
  have xs : ∀ k, a ≤ k → k < z → ∀ v, x (k + 1) v = x k v := fun k h1 h2 v => by
    show S n _ = S n _
    have t0 := rz k h1 h2
    refine S_congr fun i hi => ?_
    rw [st k]
    by_cases q : i = r k
    · rw [q, piv_b_r, piv_T_r, t0]
      have : (0 : Rat) / (s k).T (r k) (e k) = 0 := by grind
      rw [this]
      split <;> split <;> rfl
    · rw [piv_b_ne _ _ q, piv_T_ne _ _ _ q, t0]
      have : (s k).T i (m + n) - (s k).T i (e k) * (0 / (s k).T (r k) (e k)) = (s k).T i (m + n) := by grind
      rw [this]
  have xc : ∀ d k, a ≤ k → k + d ≤ z → ∀ v, x (k + d) v = x k v := by
    intro d
    induction d with
    | zero => intros; rfl
    | succ d ih =>
      intro k h1 h2 v
      rw [← ih k h1 (by omega) v]
      exact xs (k + d) (by omega) (by omega) v
  have xeq : ∀ k l, a ≤ k → k ≤ z → a ≤ l → l ≤ z → ∀ v, x k v = x l v := fun k l h1 h2 h3 h4 v => by
    have q1 := xc (k - a) a (Nat.le_refl _) (by omega) v
    have q2 := xc (l - a) a (Nat.le_refl _) (by omega) v
    rw [show a + (k - a) = k by omega] at q1
    rw [show a + (l - a) = l by omega] at q2
    rw [q1, q2]
  -- those that come and go
  let Fk : Nat → Prop := fun v => ∃ k, a ≤ k ∧ k < z ∧ (v = e k ∨ v = (s k).b (r k))
  obtain ⟨t, ht, hmax⟩ := ex_max (P := Fk) (m + n) (by
    rintro v ⟨k, _, _, h | h⟩
    · rw [h]; exact em k
    · rw [h]; exact (I k).bl _ (L k).lt) ⟨e a, a, Nat.le_refl _, haz, .inl rfl⟩
  have bs : ∀ k v, Basic n (s (k + 1)) v ↔ v = e k ∨ (Basic n (s k) v ∧ v ≠ (s k).b (r k)) := fun k v => by rw [st k]; exact basic_piv (I k) (L k).lt
  have stay : ∀ v, (∀ k, a ≤ k → k < z → v ≠ (s k).b (r k)) → ∀ d k, a ≤ k → k + d ≤ z → Basic n (s k) v → Basic n (s (k + d)) v := by
    intro v hv d
    induction d with
    | zero => intro k _ _ h; exact h
    | succ d ih =>
      intro k h1 h2 h
      exact (bs (k + d) v).mpr (.inr ⟨ih k h1 (by omega) h, hv (k + d) (by omega) (by omega)⟩)
  have away : ∀ v, (∀ k, a ≤ k → k < z → v ≠ e k) → ∀ d k, a ≤ k → k + d ≤ z → Basic n (s (k + d)) v → Basic n (s k) v := by
    intro v hv d
    induction d with
    | zero => intro k _ _ h; exact h
    | succ d ih =>
      intro k h1 h2 h
      rcases (bs (k + d) v).mp h with q | q
      · exact absurd q (hv (k + d) (by omega) (by omega))
      · exact ih k h1 (by omega) q.1
  have around : ∀ v, Basic n (s z) v ↔ Basic n (s a) v := fun v =>
    ⟨fun ⟨i, hi, h⟩ => ⟨i, hi, (hb i hi).trans h⟩, fun ⟨i, hi, h⟩ => ⟨i, hi, (hb i hi).symm.trans h⟩⟩
  have comes : ∃ p, a ≤ p ∧ p < z ∧ t = e p := Classical.byContradiction fun hno => by
    have hv : ∀ k, a ≤ k → k < z → t ≠ e k := fun k h1 h2 q => hno ⟨k, h1, h2, q⟩
    obtain ⟨q, h1, h2, h | h⟩ := ht
    · exact hv q h1 h2 h
    · have b0 : Basic n (s q) t := ⟨r q, (L q).lt, h.symm⟩
      have b1 := away t hv (q - a) a (Nat.le_refl _) (by omega) (by rw [show a + (q - a) = q by omega]; exact b0)
      have b2 := (around t).mpr b1
      have b3 := away t hv (z - (q + 1)) (q + 1) (by omega) (by omega) (by rw [show q + 1 + (z - (q + 1)) = z by omega]; exact b2)
      rcases (bs q t).mp b3 with y | y
      · exact hv q h1 h2 y
      · exact y.2 h
  obtain ⟨p, hp1, hp2, hp⟩ := comes
  have tfree : ¬ Basic n (s p) t := by rw [hp]; exact (En p).free (I p)
  have goes : ∃ q, a ≤ q ∧ q < z ∧ t = (s q).b (r q) := Classical.byContradiction fun hno => by
    have hv : ∀ k, a ≤ k → k < z → t ≠ (s k).b (r k) := fun k h1 h2 q => hno ⟨k, h1, h2, q⟩
    have b1 : Basic n (s (p + 1)) t := (bs p t).mpr (.inl hp)
    have b2 := stay t hv (z - (p + 1)) (p + 1) (by omega) (by omega) b1
    rw [show p + 1 + (z - (p + 1)) = z by omega] at b2
    have b3 := stay t hv (p - a) a (Nat.le_refl _) (by omega) ((around t).mp b2)
    rw [show a + (p - a) = p by omega] at b3
    exact tfree b3
  obtain ⟨q, hq1, hq2, hq⟩ := goes
  have tb : Basic n (s q) t := ⟨r q, (L q).lt, hq.symm⟩
  have sfree := (En q).free (I q)
  have slt : e q < t := by
    have h1 := hmax (e q) ⟨q, hq1, hq2, .inl rfl⟩
    have h2 : e q ≠ t := fun z => sfree (z ▸ tb)
    omega
  have sum : 0 < S (m + n) (fun j => red n c (s p) j * dir n (s q) (e q) j) := by
    rw [(I p).red_null ((I q).dir_null (em q)), (I q).dir_worth (em q)]
    exact (En q).pos
  obtain ⟨v, hv, hpos⟩ := S_pos_ex sum
  by_cases h1 : v = e q
  · rw [h1, dir_e sfree] at hpos
    have := (En p).first (e q) (by rw [← hp]; exact slt)
    grind
  · have vb : Basic n (s q) v := Classical.byContradiction fun h => by
      rw [dir_free h h1] at hpos; grind
    obtain ⟨i, hi, rfl⟩ := vb
    rw [(I q).dir_basic hi h1] at hpos
    have vf : ¬ Basic n (s p) ((s q).b i) := fun ⟨k, hk, h⟩ => by
      rw [← h, (I p).red_basic hk] at hpos; grind
    have fick : Fk ((s q).b i) := Classical.byContradiction fun hno => by
      have h2 : ∀ k, a ≤ k → k < z → (s q).b i ≠ e k := fun k y1 y2 y => hno ⟨k, y1, y2, .inl y⟩
      have h3 : ∀ k, a ≤ k → k < z → (s q).b i ≠ (s k).b (r k) := fun k y1 y2 y => hno ⟨k, y1, y2, .inr y⟩
      have b1 := away _ h2 (q - a) a (Nat.le_refl _) (by omega) (by rw [show a + (q - a) = q by omega]; exact ⟨i, hi, rfl⟩)
      have b2 := stay _ h3 (p - a) a (Nat.le_refl _) (by omega) b1
      rw [show a + (p - a) = p by omega] at b2
      exact vf b2
    have hle := hmax _ fick
    by_cases h4 : (s q).b i = t
    · have : i = r q := (I q).inj hi (L q).lt (h4.trans hq)
      subst this
      have p1 := (L q).pos
      have p2 := (En p).pos
      rw [← hp, ← h4] at p2
      have : 0 < red n c (s p) ((s q).b (r q)) * (s q).T (r q) (e q) := Rat.mul_pos p2 p1
      grind
    · have n1 := (En p).first ((s q).b i) (by rw [← hp]; omega)
      have n2 : 0 < (s q).T i (e q) := by
        by_cases y : 0 < (s q).T i (e q)
        · exact y
        · have : 0 ≤ (- red n c (s p) ((s q).b i)) * (- (s q).T i (e q)) := Rat.mul_nonneg (by grind) (by grind)
          grind
      have x0 : (s q).T i (m + n) = 0 := by
        have y1 : x q ((s q).b i) = (s q).T i (m + n) := by
          show S n _ = _
          rw [S_one hi]
          · rw [if_pos rfl]
          · intro k hk hne
            exact if_neg fun y => hne ((I q).inj hk hi y)
        have y2 : x p ((s q).b i) = 0 := S_zero fun k hk => if_neg fun y => vf ⟨k, hk, y⟩
        rw [← y1, xeq q p hq1 (Nat.le_of_lt hq2) hp1 (Nat.le_of_lt hp2), y2]
      have t0 := rz q hq1 hq2
      rcases (L q).least i hi n2 with y | y
      · rw [t0, x0] at y; grind
      · have := y.2
        rw [← hq] at this
        omega
end LP


/-! The table's course ends; what is bounded; what the ends show. -/
namespace LP
/-- every run by Bland's rule from s ends within m turns -/
def Rk (n m : Nat) (c : Nat → Rat) : Nat → Tab → Prop
  | 0, s => ∀ e r, Enter n m c s e → Leave n m s e r → False
  | k + 1, s => ∀ e r, Enter n m c s e → Leave n m s e r → Rk n m c k (piv s r e)
theorem Enter.uniq {n m : Nat} {c : Nat → Rat} {s : Tab} {e e' : Nat} (h : Enter n m c s e) (h' : Enter n m c s e') : e = e' := by
  rcases Nat.lt_trichotomy e e' with q | q | q
  · have := h'.first e q; have := h.pos; grind
  · exact q
  · have := h.first e' q; have := h'.pos; grind
theorem Leave.uniq {n m : Nat} {A : Nat → Nat → Rat} {s : Tab} {e r r' : Nat} (I : Inv n m A s) (h : Leave n m s e r) (h' : Leave n m s e r') : r = r' := by
  refine I.inj h.lt h'.lt ?_
  rcases h.least r' h'.lt h'.pos with a | a
  · rcases h'.least r h.lt h.pos with b | b
    · exact absurd (Std.lt_trans a b) Rat.lt_irrefl
    · exact absurd a (by rw [b.1]; exact Rat.lt_irrefl)
  · rcases h'.least r h.lt h.pos with b | b
    · exact absurd b (by rw [a.1]; exact Rat.lt_irrefl)
    · have := a.2; have := b.2; omega
theorem rk_ex {n m : Nat} {A : Nat → Nat → Rat} {c : Nat → Rat} {s₀ : Tab} (I₀ : Inv n m A s₀) (F₀ : Feas n m s₀) : ∃ k, Rk n m c k s₀ := by
  refine Classical.byContradiction fun hno => ?_
  have hno : ∀ k, ¬ Rk n m c k s₀ := fun k h => hno ⟨k, h⟩
  let G : Tab → Prop := fun s => Inv n m A s ∧ Feas n m s ∧ ∀ k, ¬ Rk n m c k s
  have nxt : ∀ s, G s → ∃ e r, Enter n m c s e ∧ Leave n m s e r ∧ G (piv s r e) := by
    rintro s ⟨I, F, h⟩
    have h0 := h 0
    have : ∃ e r, Enter n m c s e ∧ Leave n m s e r := Classical.byContradiction fun z => h0 fun e r h1 h2 => z ⟨e, r, h1, h2⟩
    obtain ⟨e, r, En, L⟩ := this
    have hp : s.T r e ≠ 0 := by have := L.pos; grind
    refine ⟨e, r, En, L, I.piv L.lt (by have := En.lt; omega) hp, L.feas F, fun k hk => h (k + 1) fun e' r' En' L' => ?_⟩
    have q := En.uniq En'
    subst q
    have q := L.uniq I L'
    subst q
    exact hk
  let S0 : { s // G s } := ⟨s₀, I₀, F₀, hno⟩
  let ee : { s // G s } → Nat := fun s => Classical.choose (nxt s.1 s.2)
  let rr : { s // G s } → Nat := fun s => Classical.choose (Classical.choose_spec (nxt s.1 s.2))
  have sp : ∀ s : { s // G s }, Enter n m c s.1 (ee s) ∧ Leave n m s.1 (ee s) (rr s) ∧ G (piv s.1 (rr s) (ee s)) := fun s => Classical.choose_spec (Classical.choose_spec (nxt s.1 s.2))
  let run : Nat → { s // G s } := fun k => Nat.rec S0 (fun _ s => ⟨piv s.1 (rr s) (ee s), (sp s).2.2⟩) k
  exact bland (fun k => (run k).1) (fun k => ee (run k)) (fun k => rr (run k)) (fun k => (run k).2.1) (fun k => (sp (run k)).1) (fun k => (sp (run k)).2.1) (fun k => (run k).2.2.1) (fun _ => rfl)

/-! ### denominators -/
/-- a whole number from -K to K over D -/
def Hd (D K q : Rat) : Prop := IsI (D * q) ∧ Bd K (D * q)
theorem Hd.add {D K L a b : Rat} (h : Hd D K a) (h' : Hd D L b) : Hd D (K + L) (a + b) := by
  have e : D * (a + b) = D * a + D * b := by grind
  exact ⟨e ▸ h.1.add h'.1, e ▸ bd_add h.2 h'.2⟩
theorem Hd.sub {D K L a b : Rat} (h : Hd D K a) (h' : Hd D L b) : Hd D (K + L) (a - b) := by
  have e : D * (a - b) = D * a - D * b := by grind
  exact ⟨e ▸ h.1.sub h'.1, e ▸ bd_sub h.2 h'.2⟩
theorem Hd.mul {D E K L a b : Rat} (h : Hd D K a) (h' : Hd E L b) : Hd (D * E) (K * L) (a * b) := by
  have e : D * E * (a * b) = (D * a) * (E * b) := by grind
  exact ⟨e ▸ h.1.mul h'.1, e ▸ bd_mul h.2 h'.2⟩
theorem Hd.mono {D K L a : Rat} (h : Hd D K a) (hl : K ≤ L) : Hd D L a := ⟨h.1, bd_mono hl h.2⟩
theorem Hd.zero {D K : Rat} (h : 0 ≤ K) : Hd D K 0 := by
  have e : D * 0 = 0 := by grind
  unfold Hd
  rw [e]
  exact ⟨isI_zero, bd_zero h⟩
theorem Hd.neg {D K a : Rat} (h : Hd D K a) : Hd D K (-a) := by
  have e : D * (-a) = - (D * a) := by grind
  exact ⟨e ▸ h.1.neg, e ▸ bd_neg h.2⟩
/-- over a greater denominator -/
theorem Hd.scale {D K E B a : Rat} (h : Hd D K a) (hE : IsI E) (hB : Bd B E) : Hd (E * D) (B * K) a := by
  have e : E * D * a = E * (D * a) := by grind
  exact ⟨e ▸ hE.mul h.1, e ▸ bd_mul hB h.2⟩
theorem Hd.scale' {D K E B a : Rat} (h : Hd D K a) (hE : IsI E) (hB : Bd B E) : Hd (D * E) (B * K) a := by
  have e : D * E * a = E * (D * a) := by grind
  exact ⟨e ▸ hE.mul h.1, e ▸ bd_mul hB h.2⟩
theorem Hd.sum {D K : Rat} {f : Nat → Rat} : ∀ {n : Nat}, (∀ i, i < n → Hd D K (f i)) → Hd D ((n : Rat) * K) (S n f)
  | 0, _ => by
    have : (0 : Rat) ≤ ((0 : Nat) : Rat) * K := by simp
    exact Hd.zero this
  | n + 1, h => by
    have e : ((n + 1 : Nat) : Rat) * K = (n : Rat) * K + K := by
      rw [show ((n + 1 : Nat) : Rat) = (n : Rat) + 1 from by simp]; grind
    rw [e]
    exact (Hd.sum (n := n) fun i hi => h i (by omega)).add (h n (by omega))
theorem hd_int {B : Rat} {z : Int} (h : Bd B (z : Rat)) : Hd 1 B (z : Rat) := by
  have e : (1 : Rat) * (z : Rat) = z := by grind
  unfold Hd
  rw [e]
  exact ⟨isI_int z, h⟩

/-! ### what a part may be -/
def lim : Nat := 10 ^ 60
def Fit (q : Rat) : Prop := q.num.natAbs ≤ lim ∧ q.den ≤ lim
theorem natAbs_of_bd {z : Int} {N : Nat} (h : Bd (N : Rat) (z : Rat)) : z.natAbs ≤ N := by
  obtain ⟨h1, h2⟩ := h
  have h2 : (z : Rat) ≤ ((N : Int) : Rat) := by rw [Rat.intCast_natCast]; exact h2
  have h1 : ((-(N : Int) : Int) : Rat) ≤ (z : Rat) := by rw [Rat.intCast_neg, Rat.intCast_natCast]; exact h1
  have h2 := Rat.intCast_le_intCast.mp h2
  have h1 := Rat.intCast_le_intCast.mp h1
  omega
theorem fit_div {a d : Int} (hd : d ≠ 0) (ha : a.natAbs ≤ lim) (hd2 : d.natAbs ≤ lim) : Fit (Rat.divInt a d) := by
  have hg : d ∣ a * (Rat.divInt a d).den ∨ True := .inr trivial
  have e := Rat.num_divInt a d
  have e2 := Rat.den_divInt a d
  constructor
  · rw [e]
    rw [Int.natAbs_ediv_of_dvd (by
      first
        | exact Int.dvd_mul_of_dvd_right (Int.gcd_dvd_left ..)
        | exact Int.dvd_trans (Int.gcd_dvd_right ..) (Int.dvd_mul_left _ _))]
    refine Nat.le_trans (Nat.div_le_self _ _) ?_
    rw [Int.natAbs_mul]
    have hs : d.sign.natAbs = 1 := by
      rcases Int.lt_trichotomy d 0 with h | h | h
      · rw [Int.sign_eq_neg_one_of_neg h]; decide
      · exact absurd h hd
      · rw [Int.sign_eq_one_of_pos h]; decide
    rw [hs, Nat.one_mul]; exact ha
  · rw [e2, if_neg hd]
    exact Nat.le_trans (Nat.div_le_self _ _) hd2
theorem Hd.fit {D K q : Rat} (hD : IsI D) (h0 : D ≠ 0) (hb : Bd (lim : Rat) D) (hK : K ≤ (lim : Rat)) (h : Hd D K q) : Fit q := by
  obtain ⟨d, rfl⟩ := hD
  obtain ⟨⟨a, ha⟩, hb2⟩ := h
  rw [ha] at hb2
  have hd : d ≠ 0 := fun e => h0 (by rw [e]; rfl)
  have e : q = Rat.divInt a d := by
    rw [Rat.divInt_eq_div, ← ha]; grind
  rw [e]
  exact fit_div hd (natAbs_of_bd (bd_mono hK hb2)) (natAbs_of_bd hb)
end LP


/-! A table of a system: bounds, and what its ends show. -/
namespace LP
/-- all entries over one whole denominator, bounded -/
structure Den (n m : Nat) (A : Nat → Nat → Rat) (M0 : Rat) (s : Tab) (D : Rat) : Prop where
  int : IsI D
  ne : D ≠ 0
  bd : Bd M0 D
  ent : ∀ i j, i < n → j ≤ m + n → Hd D M0 (s.T i j)
def bas (A : Nat → Nat → Rat) (s : Tab) : Nat → Nat → Rat := fun i k => A k (s.b i)
theorem Inv.den {n m : Nat} {A : Nat → Nat → Rat} {s : Tab} {W : Rat} (I : Inv n m A s) (hA : ∀ k j, k < n → j ≤ m + n → IsI (A k j) ∧ Bd W (A k j)) (h0 : det n (bas A s) ≠ 0) :
    Den n m A (fac W n) s (det n (bas A s)) where
  int := isI_det fun c k hc hk => (hA k _ hk (Nat.le_of_lt (I.bl c hc))).1
  ne := h0
  bd := bd_det fun c k hc hk => (hA k _ hk (Nat.le_of_lt (I.bl c hc))).2
  ent := fun i j hi hj => by
    have e : det n (setc (bas A s) i (fun k => A k j)) = s.T i j * det n (bas A s) := cramer hi (x := fun i => s.T i j) (a := fun k => A k j) fun k hk => by
      rw [I.cols k j hk hj]
      exact S_congr fun l _ => by show _ = s.T l j * A k (s.b l); grind
    have e2 : det n (bas A s) * s.T i j = det n (setc (bas A s) i (fun k => A k j)) := by rw [e]; grind
    unfold Hd
    rw [e2]
    refine ⟨isI_det fun c k hc hk => ?_, bd_det fun c k hc hk => ?_⟩
    · unfold setc; split
      · exact (hA k j hk hj).1
      · exact (hA k _ hk (Nat.le_of_lt (I.bl c hc))).1
    · unfold setc; split
      · exact (hA k j hk hj).2
      · exact (hA k _ hk (Nat.le_of_lt (I.bl c hc))).2
theorem Inv.det_piv {n m : Nat} {A : Nat → Nat → Rat} {s : Tab} (I : Inv n m A s) {r e : Nat} (hr : r < n) (he : e < m + n) : det n (bas A (LP.piv s r e)) = s.T r e * det n (bas A s) := by
  have e1 : bas A (LP.piv s r e) = setc (bas A s) r (fun k => A k e) := by
    funext i k
    unfold bas setc
    by_cases h : i = r
    · rw [if_pos h, h, piv_b_r]
    · rw [if_neg h, piv_b_ne s e h]
  rw [e1]
  exact cramer hr (x := fun i => s.T i e) (a := fun k => A k e) fun k hk => by
    rw [I.cols k e hk (Nat.le_of_lt he)]
    exact S_congr fun l _ => by show _ = s.T l e * A k (s.b l); grind

/-! ### the system: n sums, m columns col j, what is wanted -/
def sgn (want : Nat → Rat) (k : Nat) : Rat := if want k < 0 then -1 else 1
theorem sgn_sq (want : Nat → Rat) (k : Nat) : sgn want k * sgn want k = 1 := by unfold sgn; split <;> grind
theorem sgn_want (want : Nat → Rat) (k : Nat) : 0 ≤ sgn want k * want k := by unfold sgn; split <;> grind
/-- columns 0..m-1: col j with the signs; m..m+n-1: the own ones; m+n: what is wanted -/
def mat (n m : Nat) (col : Nat → Nat → Rat) (want : Nat → Rat) : Nat → Nat → Rat := fun k j =>
  if j < m then sgn want k * col j k else if j < m + n then (if j = m + k then 1 else 0) else sgn want k * want k
section
variable {n m : Nat} {col : Nat → Nat → Rat} {want : Nat → Rat}
theorem mat_col {k j : Nat} (h : j < m) : mat n m col want k j = sgn want k * col j k := if_pos h
theorem mat_own {k i : Nat} (h : i < n) : mat n m col want k (m + i) = if k = i then 1 else 0 := by
  unfold mat
  rw [if_neg (by omega), if_pos (by omega)]
  by_cases e : k = i
  · rw [if_pos e, if_pos (by omega)]
  · rw [if_neg e, if_neg (by omega)]
theorem mat_rhs {k : Nat} : mat n m col want k (m + n) = sgn want k * want k := by
  unfold mat
  rw [if_neg (by omega), if_neg (by omega)]
def tab0 (n m : Nat) (col : Nat → Nat → Rat) (want : Nat → Rat) : Tab := { T := mat n m col want, b := fun i => m + i }
theorem inv0 : Inv n m (mat n m col want) (tab0 n m col want) where
  bl := fun i hi => by show m + i < m + n; omega
  id := fun i k _ hk => mat_own hk
  rows := fun i j hi _ => by
    show mat n m col want i j = _
    rw [S_one hi]
    · show _ = mat n m col want i (m + i) * _
      rw [mat_own hi, if_pos rfl]; grind
    · intro k hk hne
      show mat n m col want i (m + k) * _ = 0
      rw [mat_own hk, if_neg (Ne.symm hne)]; grind
  cols := fun k j hk _ => by
    show mat n m col want k j = _
    rw [S_one hk]
    · show _ = mat n m col want k (m + k) * mat n m col want k j
      rw [mat_own hk, if_pos rfl]; grind
    · intro i hi hne
      show mat n m col want k (m + i) * _ = 0
      rw [mat_own hi, if_neg (Ne.symm hne)]; grind
theorem feas0 : Feas n m (tab0 n m col want) := fun i _ => by
  show 0 ≤ mat n m col want i (m + n)
  rw [mat_rhs]; exact sgn_want want i
theorem det0 : det n (bas (mat n m col want) (tab0 n m col want)) = 1 := by
  rw [← det_id n]
  refine det_congr fun c k hc _ => ?_
  show mat n m col want k (m + c) = _
  rw [mat_own hc]
  by_cases h : c = k
  · rw [if_pos h, if_pos h.symm]
  · rw [if_neg h, if_neg (Ne.symm h)]
theorem mat_bd {W : Rat} (hW : 1 ≤ W) (hc : ∀ j k, j < m → k < n → IsI (col j k) ∧ Bd W (col j k)) (hw : ∀ k, k < n → IsI (want k) ∧ Bd W (want k)) :
    ∀ k j, k < n → j ≤ m + n → IsI (mat n m col want k j) ∧ Bd W (mat n m col want k j) := fun k j hk hj => by
  have sg : ∀ q : Rat, IsI q ∧ Bd W q → IsI (sgn want k * q) ∧ Bd W (sgn want k * q) := fun q ⟨h1, h2⟩ => by
    unfold sgn; split
    · have e : (-1 : Rat) * q = -q := by grind
      rw [e]; exact ⟨h1.neg, bd_neg h2⟩
    · rw [Rat.one_mul]; exact ⟨h1, h2⟩
  unfold mat
  split
  · exact sg _ (hc j k (by assumption) hk)
  · split
    · split
      · exact ⟨isI_one, by constructor <;> grind⟩
      · exact ⟨isI_zero, by constructor <;> grind⟩
    · exact sg _ (hw k hk)

/-- the places: what each sum is worth -/
def side (n m : Nat) (want : Nat → Rat) (c : Nat → Rat) (s : Tab) (k : Nat) : Rat := sgn want k * (c (m + k) - red n c s (m + k))
theorem side_y {c : Nat → Rat} {s : Tab} {k : Nat} : side n m want c s k = sgn want k * yv n m c s k := by
  unfold side red yv; grind
variable {s : Tab} {c : Nat → Rat}
theorem side_col (I : Inv n m (mat n m col want) s) {j : Nat} (hj : j < m) : S n (fun k => col j k * side n m want c s k) = c j - red n c s j := by
  have e : S n (fun k => col j k * side n m want c s k) = S n (fun k => yv n m c s k * mat n m col want k j) := S_congr fun k _ => by
    rw [side_y, mat_col hj]; grind
  rw [e, ← I.used_y (by omega)]
  unfold red; grind
theorem side_want (I : Inv n m (mat n m col want) s) : S n (fun k => want k * side n m want c s k) = used n c s (m + n) := by
  have e : S n (fun k => want k * side n m want c s k) = S n (fun k => yv n m c s k * mat n m col want k (m + n)) := S_congr fun k _ => by
    rw [side_y, mat_rhs]; grind
  rw [e, ← I.used_y (Nat.le_refl _)]
/-- the weights of the columns -/
def wt (n m : Nat) (s : Tab) (j : Nat) : Rat := S n (fun i => if s.b i = j then s.T i (m + n) else 0)
theorem wt_basic (I : Inv n m (mat n m col want) s) {i : Nat} (hi : i < n) : wt n m s (s.b i) = s.T i (m + n) := by
  unfold wt
  rw [S_one hi]
  · exact if_pos rfl
  · intro k hk hne
    exact if_neg fun q => hne (I.inj hk hi q)
theorem wt_free {j : Nat} (h : ¬ Basic n s j) : wt n m s j = 0 := S_zero fun i hi => if_neg fun q => h ⟨i, hi, q⟩
theorem wt_nonneg (F : Feas n m s) (j : Nat) : 0 ≤ wt n m s j := S_nonneg fun i hi => by
  split
  · exact F i hi
  · grind
/-- behind the first climb: own columns in the basis have weight 0 -/
def Arts0 (n m : Nat) (s : Tab) : Prop := ∀ i, i < n → m ≤ s.b i → s.T i (m + n) = 0
theorem S_split (n m : Nat) (f : Nat → Rat) : S (m + n) f = S m f + S n (fun k => f (m + k)) := by
  induction n with
  | zero => simp only [S, Nat.add_zero]; grind
  | succ n ih =>
    show S (m + n) f + f (m + n) = S m f + (S n (fun k => f (m + k)) + f (m + n))
    rw [ih]; grind
theorem sum_basic (I : Inv n m (mat n m col want) s) (x : Nat → Rat) (f : Nat → Rat) : S (m + n) (fun j => f j * S n (fun i => if s.b i = j then x i else 0)) = S n (fun i => f (s.b i) * x i) := by
  have e : S (m + n) (fun j => f j * S n (fun i => if s.b i = j then x i else 0)) = S n (fun i => S (m + n) (fun j => f j * (if s.b i = j then x i else 0))) := by
    rw [← S_comm]
    exact S_congr fun j _ => (S_mul n (f j) _).symm
  rw [e]
  exact S_congr fun i hi => S_pick (I.bl i hi) f _
theorem wt_sum (I : Inv n m (mat n m col want) s) (z : Arts0 n m s) (f : Nat → Rat) : S m (fun j => f j * wt n m s j) = S n (fun i => f (s.b i) * s.T i (m + n)) := by
  have e := sum_basic I (fun i => s.T i (m + n)) f
  rw [S_split] at e
  have z2 : S n (fun k => f (m + k) * S n (fun i => if s.b i = m + k then s.T i (m + n) else 0)) = 0 := S_zero fun k _ => by
    have : S n (fun i => if s.b i = m + k then s.T i (m + n) else 0) = 0 := S_zero fun i hi => by
      split
      · exact z i hi (by omega)
      · rfl
    rw [this]; grind
  rw [z2] at e
  rw [← e]
  show S m (fun j => f j * S n (fun i => if s.b i = j then s.T i (m + n) else 0)) = _
  grind
/-- they come to what is wanted -/
theorem wt_want (I : Inv n m (mat n m col want) s) (z : Arts0 n m s) {k : Nat} (hk : k < n) : S m (fun j => wt n m s j * col j k) = want k := by
  have e : S m (fun j => wt n m s j * col j k) = S m (fun j => (sgn want k * mat n m col want k j) * wt n m s j) := S_congr fun j hj => by
    rw [mat_col hj]
    have := sgn_sq want k; grind
  rw [e, wt_sum I z (fun j => sgn want k * mat n m col want k j)]
  have e2 : S n (fun i => sgn want k * mat n m col want k (s.b i) * s.T i (m + n)) = sgn want k * S n (fun i => mat n m col want k (s.b i) * s.T i (m + n)) := by
    rw [← S_mul]; exact S_congr fun i _ => by grind
  rw [e2, ← I.cols k (m + n) hk (Nat.le_refl _), mat_rhs]
  have := sgn_sq want k; grind
theorem wt_worth (I : Inv n m (mat n m col want) s) (z : Arts0 n m s) : S m (fun j => c j * wt n m s j) = used n c s (m + n) := wt_sum I z c

/-! ### the first climb -/
/-- worths of the first climb -/
def w1 (m : Nat) (j : Nat) : Rat := if j < m then 0 else -1
theorem used1 (n m : Nat) (s : Tab) (j : Nat) : used n (w1 m) s j = S n (fun i => if m ≤ s.b i then - s.T i j else 0) := by
  refine S_congr fun i _ => ?_
  unfold w1
  by_cases h : s.b i < m
  · rw [if_pos h, if_neg (by omega)]; grind
  · rw [if_neg h, if_pos (by omega)]; grind
theorem val1_nonpos (F : Feas n m s) : used n (w1 m) s (m + n) ≤ 0 := by
  rw [used1]
  refine S_nonpos fun i hi => ?_
  split
  · have := F i hi; grind
  · grind
/-- it has an end -/
theorem climb1_leave {e : Nat} (En : Enter n m (w1 m) s e) : ∃ i, i < n ∧ 0 < s.T i e := by
  refine Classical.byContradiction fun hno => ?_
  have p := En.pos
  unfold red at p
  rw [used1] at p
  have h0 : w1 m e = 0 := if_pos En.lt
  have : 0 ≤ S n (fun i => if m ≤ s.b i then - s.T i e else 0) := S_nonneg fun i hi => by
    split
    · have : ¬ 0 < s.T i e := fun z => hno ⟨i, hi, z⟩
      grind
    · grind
  rw [h0] at p
  grind
theorem arts0_of (F : Feas n m s) (h : ¬ used n (w1 m) s (m + n) < 0) : Arts0 n m s := by
  have h2 : S n (fun i => if m ≤ s.b i then s.T i (m + n) else 0) = 0 := by
    have e : used n (w1 m) s (m + n) = - S n (fun i => if m ≤ s.b i then s.T i (m + n) else 0) := by
      rw [used1]
      have : - S n (fun i => if m ≤ s.b i then s.T i (m + n) else 0) = (-1) * S n (fun i => if m ≤ s.b i then s.T i (m + n) else 0) := by grind
      rw [this, ← S_mul]
      refine S_congr fun i _ => ?_
      split <;> grind
    have := val1_nonpos F
    grind
  intro i hi hm
  have := S_all_zero (fun i hi => by
    show 0 ≤ (if m ≤ s.b i then s.T i (m + n) else 0)
    split
    · exact F i hi
    · grind) h2 i hi
  rw [if_pos hm] at this
  exact this
/-- the rows of own columns in the basis are empty -/
def Empty (n m : Nat) (s : Tab) (i : Nat) : Prop := m ≤ s.b i → ∀ j, j < m → s.T i j = 0
/-- a row is left for a column that is not 0 there, the row's right side being 0: nothing else changes at the right -/
theorem drive_rhs {r e : Nat} (hr : s.T r (m + n) = 0) {i : Nat} : (piv s r e).T i (m + n) = s.T i (m + n) := by
  by_cases h : i = r
  · subst h; rw [piv_T_r, hr]; grind
  · rw [piv_T_ne s e _ h, hr]; grind
theorem drive_empty {r e i : Nat} (he : e < m) (hi : i ≠ r) (h : Empty n m s i) : Empty n m (piv s r e) i := fun hm j hj => by
  rw [piv_b_ne s e hi] at hm
  rw [piv_T_ne s e _ hi, h hm j hj, h hm e he]; grind
theorem drive_empty_r {r e : Nat} (he : e < m) : Empty n m (piv s r e) r := fun hm => by
  rw [piv_b_r] at hm; omega
/-- in the second climb rows of own columns stay as they are -/
theorem leave_empty {r e : Nat} (he : e < m) (h : ∀ i, i < n → Empty n m s i) (hr : r < n) (hp : s.T r e ≠ 0) : ∀ i, i < n → Empty n m (piv s r e) i := fun i hi => by
  by_cases q : i = r
  · subst q; exact drive_empty_r he
  · exact drive_empty he q (h i hi)
theorem leave_arts {r e : Nat} (he : e < m) (h : ∀ i, i < n → Empty n m s i) (z : Arts0 n m s) : Arts0 n m (piv s r e) := fun i hi hm => by
  by_cases q : i = r
  · subst q; rw [piv_b_r] at hm; omega
  · rw [piv_b_ne s e q] at hm
    rw [piv_T_ne s e _ q, h i hi hm e he, z i hi hm]; grind

/-! ### without an end -/
/-- what grows with column e -/
def wayv (n m : Nat) (s : Tab) (e j : Nat) : Rat := dir n s e j
theorem way_nonneg {e j : Nat} (hT : ∀ i, i < n → s.T i e ≤ 0) : 0 ≤ dir n s e j := by
  unfold dir
  have : S n (fun i => if s.b i = j then s.T i e else 0) ≤ 0 := S_nonpos fun i hi => by
    split
    · exact hT i hi
    · grind
  split <;> grind
theorem way_sum (I : Inv n m (mat n m col want) s) {e : Nat} (he : e < m) (h : ∀ i, i < n → Empty n m s i) (f : Nat → Rat) : S m (fun j => f j * dir n s e j) = f e - S n (fun i => f (s.b i) * s.T i e) := by
  have q := I.dir_sum (e := e) (by omega) f
  rw [S_split] at q
  have z : S n (fun k => f (m + k) * dir n s e (m + k)) = 0 := S_zero fun k _ => by
    have : dir n s e (m + k) = 0 := by
      unfold dir
      rw [if_neg (by omega), S_zero]
      · grind
      · intro i hi
        split
        · exact h i hi (by omega) e he
        · rfl
    rw [this]; grind
  rw [z] at q
  rw [← q]; grind
theorem way_null (I : Inv n m (mat n m col want) s) {e : Nat} (he : e < m) (h : ∀ i, i < n → Empty n m s i) {k : Nat} (hk : k < n) : S m (fun j => dir n s e j * col j k) = 0 := by
  have e1 : S m (fun j => dir n s e j * col j k) = S m (fun j => (sgn want k * mat n m col want k j) * dir n s e j) := S_congr fun j hj => by
    rw [mat_col hj]
    have := sgn_sq want k; grind
  rw [e1, way_sum I he h (fun j => sgn want k * mat n m col want k j)]
  have e2 : S n (fun i => sgn want k * mat n m col want k (s.b i) * s.T i e) = sgn want k * S n (fun i => mat n m col want k (s.b i) * s.T i e) := by
    rw [← S_mul]; exact S_congr fun i _ => by grind
  rw [e2, ← I.cols k e hk (by omega)]; grind
theorem way_worth (I : Inv n m (mat n m col want) s) {e : Nat} (he : e < m) (h : ∀ i, i < n → Empty n m s i) : S m (fun j => c j * dir n s e j) = red n c s e := way_sum I he h c
end
end LP


/-! All that the table reckons is a part, where the system is small. -/
namespace LP
set_option linter.all false
set_option exponentiation.threshold 3000
/-- the system's whole numbers -/
structure Bnds (n m : Nat) (col : Nat → Nat → Rat) (want : Nat → Rat) : Prop where
  n9 : n ≤ 9
  col : ∀ j k, j < m → k < n → IsI (col j k) ∧ Bd 10 (col j k)
  want : ∀ k, k < n → IsI (want k) ∧ Bd 10 (want k)
/-- worths over one small denominator -/
structure CB (N : Nat) (c : Nat → Rat) (E : Rat) : Prop where
  int : IsI E
  ne : E ≠ 0
  bd : Bd (10 ^ 3) E
  ent : ∀ j, j < N → Hd E (10 ^ 4) (c j)
/-- numbers over one denominator, not great -/
def Sm (N : Nat) (f : Nat → Rat) : Prop := ∃ D, IsI D ∧ D ≠ 0 ∧ Bd (10 ^ 20) D ∧ ∀ i, i < N → Hd D (10 ^ 25) (f i)
theorem lim_rat : ((lim : Nat) : Rat) = 10 ^ 60 := by decide +kernel
theorem fac9 : ∀ n, n ≤ 9 → fac 10 n ≤ 10 ^ 15 := by
  intro n h
  match n, h with
  | 0, _ => decide +kernel
  | 1, _ => decide +kernel
  | 2, _ => decide +kernel
  | 3, _ => decide +kernel
  | 4, _ => decide +kernel
  | 5, _ => decide +kernel
  | 6, _ => decide +kernel
  | 7, _ => decide +kernel
  | 8, _ => decide +kernel
  | 9, _ => decide +kernel
  | n + 10, h => omega
theorem fitH {D K B q : Rat} (hD : IsI D) (h0 : D ≠ 0) (hb : Bd B D) (hB : B ≤ 10 ^ 60) (hK : K ≤ 10 ^ 60) (h : Hd D K q) : Fit q :=
  Hd.fit hD h0 (by rw [lim_rat]; exact bd_mono hB hb) (by rw [lim_rat]; exact hK) h
theorem natR9 {n : Nat} (h : n ≤ 9) {B : Rat} (hB : 0 ≤ B) : (n : Rat) * B ≤ 9 * B := by
  have : (n : Rat) ≤ ((9 : Nat) : Rat) := Rat.natCast_le_natCast.mpr h
  have := Rat.mul_le_mul_of_nonneg_right this hB
  simpa using this
theorem natRk {n N : Nat} (h : n ≤ N) {B : Rat} (hB : 0 ≤ B) : (n : Rat) * B ≤ (N : Rat) * B :=
  Rat.mul_le_mul_of_nonneg_right (Rat.natCast_le_natCast.mpr h) hB
/-- products and their sums -/
theorem Sm.fits {n : Nat} {f g : Nat → Rat} (hn : n ≤ 1000) (hf : Sm n f) (hg : Sm n g) : (∀ i, i < n → Fit (f i * g i)) ∧ ∀ k, k ≤ n → Fit (S k fun i => f i * g i) := by
  obtain ⟨D, d1, d2, d3, d4⟩ := hf
  obtain ⟨E, e1, e2, e3, e4⟩ := hg
  have h : ∀ i, i < n → Hd (D * E) (10 ^ 25 * 10 ^ 25) (f i * g i) := fun i hi => (d4 i hi).mul (e4 i hi)
  have ne : D * E ≠ 0 := by grind
  refine ⟨fun i hi => fitH (d1.mul e1) ne (bd_mul d3 e3) (by decide +kernel) (by decide +kernel) (h i hi), fun k hk => ?_⟩
  refine fitH (d1.mul e1) ne (bd_mul d3 e3) (by decide +kernel) ?_ (Hd.sum (n := k) fun i hi => h i (by omega))
  exact Rat.le_trans (natRk (N := 1000) (by omega) (by decide +kernel)) (by decide +kernel)
theorem Sm.int {n : Nat} {f : Nat → Rat} (h : ∀ i, i < n → IsI (f i) ∧ Bd (10 ^ 20) (f i)) : Sm n f := ⟨1, isI_one, by decide, by constructor <;> decide +kernel, fun i hi => by
  obtain ⟨⟨z, hz⟩, hb⟩ := h i hi
  rw [hz] at hb ⊢
  exact (hd_int hb).mono (by decide +kernel)⟩
theorem Sm.mono {n N : Nat} {f : Nat → Rat} (h : Sm N f) (hn : n ≤ N) : Sm n f := let ⟨D, a, b, c, d⟩ := h; ⟨D, a, b, c, fun i hi => d i (Nat.lt_of_lt_of_le hi hn)⟩
theorem Sm.congr {n : Nat} {f g : Nat → Rat} (h : Sm n f) (e : ∀ i, i < n → f i = g i) : Sm n g := let ⟨D, a, b, c, d⟩ := h; ⟨D, a, b, c, fun i hi => e i hi ▸ d i hi⟩
theorem CB.sm {N : Nat} {c : Nat → Rat} {E : Rat} (h : CB N c E) : Sm N c := ⟨E, h.int, h.ne, bd_mono (by decide +kernel) h.bd, fun i hi => (h.ent i hi).mono (by decide +kernel)⟩

section
variable {n m : Nat} {col : Nat → Nat → Rat} {want : Nat → Rat} {s : Tab} {c : Nat → Rat} {E : Rat}
/-- the table's entries over a denominator -/
structure DenS (n m : Nat) (s : Tab) (D : Rat) : Prop where
  int : IsI D
  ne : D ≠ 0
  bd : Bd (10 ^ 15) D
  ent : ∀ i j, i < n → j ≤ m + n → Hd D (10 ^ 15) (s.T i j)
theorem Bnds.den (b : Bnds n m col want) (I : Inv n m (mat n m col want) s) (h0 : det n (bas (mat n m col want) s) ≠ 0) : DenS n m s (det n (bas (mat n m col want) s)) := by
  have d := I.den (mat_bd (W := 10) (by decide) b.col b.want) h0
  exact ⟨d.int, d.ne, bd_mono (fac9 n b.n9) d.bd, fun i j hi hj => (d.ent i j hi hj).mono (fac9 n b.n9)⟩
variable {D : Rat} (d : DenS n m s D)
include d
theorem DenS.one : Hd D (10 ^ 15) 1 := by
  unfold Hd
  rw [Rat.mul_one]
  exact ⟨d.int, d.bd⟩
theorem DenS.den {i j : Nat} (hi : i < n) (hj : j ≤ m + n) (h : s.T i j ≠ 0) : IsI (D * s.T i j) ∧ D * s.T i j ≠ 0 ∧ Bd (10 ^ 15) (D * s.T i j) := by
  refine ⟨(d.ent i j hi hj).1, ?_, (d.ent i j hi hj).2⟩
  have := d.ne
  grind
theorem DenS.ratio {r e i j : Nat} (hr : r < n) (he : e ≤ m + n) (h : s.T r e ≠ 0) (hi : i < n) (hj : j ≤ m + n) : Hd (D * s.T r e) (10 ^ 15) (s.T i j / s.T r e) := by
  have e1 : D * s.T r e * (s.T i j / s.T r e) = D * s.T i j := by grind
  unfold Hd
  rw [e1]
  exact d.ent i j hi hj
theorem DenS.fit_ratio {r e i j : Nat} (hr : r < n) (he : e ≤ m + n) (h : s.T r e ≠ 0) (hi : i < n) (hj : j ≤ m + n) : Fit (s.T i j / s.T r e) :=
  let ⟨a, b, c⟩ := d.den hr he h
  fitH a b c (by decide +kernel) (by decide +kernel) (d.ratio hr he h hi hj)
theorem DenS.fit_piv {r e i j : Nat} (hr : r < n) (he : e ≤ m + n) (h : s.T r e ≠ 0) (hi : i < n) (hj : j ≤ m + n) : Fit (s.T i e * (s.T r j / s.T r e)) ∧ Fit (s.T i j - s.T i e * (s.T r j / s.T r e)) := by
  obtain ⟨a, b, c⟩ := d.den hr he h
  have h1 := (d.ent i e hi he).mul (d.ratio hr he h hr hj)
  have h2 := (d.ent i j hi hj).scale' a c
  have ne : D * (D * s.T r e) ≠ 0 := by have := d.ne; grind
  exact ⟨fitH (d.int.mul a) ne (bd_mul d.bd c) (by decide +kernel) (by decide +kernel) h1, fitH (d.int.mul a) ne (bd_mul d.bd c) (by decide +kernel) (by decide +kernel) (h2.sub h1)⟩
theorem DenS.fit_neg {i e : Nat} (hi : i < n) (he : e ≤ m + n) : Fit (0 - s.T i e) := by
  have e1 : 0 - s.T i e = - s.T i e := by grind
  rw [e1]
  exact fitH d.int d.ne d.bd (by decide +kernel) (by decide +kernel) (d.ent i e hi he).neg
variable (cb : CB (m + n) c E)
include cb
theorem DenS.prod (I : ∀ i, i < n → s.b i < m + n) {i j : Nat} (hi : i < n) (hj : j ≤ m + n) : Hd (E * D) (10 ^ 19) (c (s.b i) * s.T i j) :=
  ((cb.ent _ (I i hi)).mul (d.ent i j hi hj)).mono (by decide +kernel)
theorem DenS.used (hn : n ≤ 9) (I : ∀ i, i < n → s.b i < m + n) {k j : Nat} (hk : k ≤ n) (hj : j ≤ m + n) : Hd (E * D) (10 ^ 20) (S k fun i => c (s.b i) * s.T i j) := by
  refine (Hd.sum (n := k) fun i hi => d.prod cb I (by omega) hj).mono ?_
  exact Rat.le_trans (natR9 (by omega) (by decide +kernel)) (by decide +kernel)
theorem DenS.ed : IsI (E * D) ∧ E * D ≠ 0 ∧ Bd (10 ^ 18) (E * D) := by
  refine ⟨cb.int.mul d.int, ?_, bd_mono (by decide +kernel) (bd_mul cb.bd d.bd)⟩
  have := d.ne
  have := cb.ne
  grind
theorem DenS.cc (j : Nat) (hj : j < m + n) : Hd (E * D) (10 ^ 19) (c j) := ((cb.ent j hj).scale' d.int d.bd).mono (by decide +kernel)
theorem DenS.red (hn : n ≤ 9) (I : ∀ i, i < n → s.b i < m + n) {j : Nat} (hj : j < m + n) : Hd (E * D) (10 ^ 21) (red n c s j) :=
  ((d.cc cb j hj).sub (d.used cb hn I (Nat.le_refl n) (Nat.le_of_lt hj))).mono (by decide +kernel)
theorem DenS.fit_used (hn : n ≤ 9) (I : ∀ i, i < n → s.b i < m + n) {j : Nat} (hj : j ≤ m + n) : (∀ i, i < n → Fit (c (s.b i) * s.T i j)) ∧ ∀ k, k ≤ n → Fit (S k fun i => c (s.b i) * s.T i j) := by
  obtain ⟨a, b, e⟩ := d.ed cb
  exact ⟨fun i hi => fitH a b e (by decide +kernel) (by decide +kernel) (d.prod cb I hi hj), fun k hk => fitH a b e (by decide +kernel) (by decide +kernel) (d.used cb hn I hk hj)⟩
theorem DenS.fit_red (hn : n ≤ 9) (I : ∀ i, i < n → s.b i < m + n) {j : Nat} (hj : j < m + n) : Fit (LP.red n c s j) := by
  obtain ⟨a, b, e⟩ := d.ed cb
  exact fitH a b e (by decide +kernel) (by decide +kernel) (d.red cb hn I hj)
theorem DenS.side (want : Nat → Rat) (hn : n ≤ 9) (I : ∀ i, i < n → s.b i < m + n) {k : Nat} (hk : k < n) : Hd (E * D) (10 ^ 22) (c (m + k) - LP.red n c s (m + k)) ∧ Hd (E * D) (10 ^ 22) (LP.side n m want c s k) := by
  have h := ((d.cc cb (m + k) (by omega)).sub (d.red cb hn I (j := m + k) (by omega))).mono (L := 10 ^ 22) (by decide +kernel)
  refine ⟨h, ?_⟩
  unfold LP.side sgn
  split
  · rw [show (-1 : Rat) * (c (m + k) - LP.red n c s (m + k)) = - (c (m + k) - LP.red n c s (m + k)) by grind]
    exact h.neg
  · rw [Rat.one_mul]; exact h
theorem DenS.fit_side (want : Nat → Rat) (hn : n ≤ 9) (I : ∀ i, i < n → s.b i < m + n) {k : Nat} (hk : k < n) : Fit (c (m + k) - LP.red n c s (m + k)) ∧ Fit (LP.side n m want c s k) := by
  obtain ⟨a, b, e⟩ := d.ed cb
  exact ⟨fitH a b e (by decide +kernel) (by decide +kernel) (d.side cb want hn I hk).1, fitH a b e (by decide +kernel) (by decide +kernel) (d.side cb want hn I hk).2⟩
theorem DenS.sm_side (want : Nat → Rat) (hn : n ≤ 9) (I : ∀ i, i < n → s.b i < m + n) : Sm n (LP.side n m want c s) := by
  obtain ⟨a, b, e⟩ := d.ed cb
  exact ⟨E * D, a, b, bd_mono (by decide +kernel) e, fun k hk => (d.side cb want hn I hk).2.mono (by decide +kernel)⟩
omit cb
theorem DenS.sm_wt (inj : ∀ i k, i < n → k < n → s.b i = s.b k → i = k) : Sm m (LP.wt n m s) := by
  refine ⟨D, d.int, d.ne, bd_mono (by decide +kernel) d.bd, fun j _ => ?_⟩
  have h : LP.wt n m s j = 0 ∨ ∃ i, i < n ∧ LP.wt n m s j = s.T i (m + n) := by
    by_cases h : ∃ i, i < n ∧ s.b i = j
    · obtain ⟨i, hi, e⟩ := h
      refine .inr ⟨i, hi, ?_⟩
      unfold LP.wt
      rw [S_one hi]
      · exact if_pos e
      · exact fun k hk hne => if_neg fun z => hne (inj k i hk hi (z.trans e.symm))
    · exact .inl (S_zero fun i hi => if_neg fun z => h ⟨i, hi, z⟩)
  rcases h with h | ⟨i, hi, h⟩
  · rw [h]; exact Hd.zero (by decide +kernel)
  · rw [h]; exact (d.ent i _ hi (Nat.le_refl _)).mono (by decide +kernel)
theorem DenS.sm_dir {e : Nat} (he : e ≤ m + n) (inj : ∀ i k, i < n → k < n → s.b i = s.b k → i = k) : Sm m (LP.dir n s e) := by
  refine ⟨D, d.int, d.ne, bd_mono (by decide +kernel) d.bd, fun j _ => ?_⟩
  have h1 : Hd D (10 ^ 15) (if j = e then (1 : Rat) else 0) := by
    split
    · exact d.one
    · exact Hd.zero (by decide +kernel)
  have h2 : Hd D (10 ^ 15) (S n (fun i => if s.b i = j then s.T i e else 0)) := by
    by_cases h : ∃ i, i < n ∧ s.b i = j
    · obtain ⟨i, hi, q⟩ := h
      rw [S_one hi]
      · rw [if_pos q]; exact d.ent i _ hi he
      · exact fun k hk hne => if_neg fun z => hne (inj k i hk hi (z.trans q.symm))
    · rw [S_zero fun i hi => if_neg fun z => h ⟨i, hi, z⟩]
      exact Hd.zero (by decide +kernel)
  exact (h1.sub h2).mono (by decide +kernel)
end
theorem Bnds.fit0 {n m : Nat} {col : Nat → Nat → Rat} {want : Nat → Rat} (b : Bnds n m col want) : (∀ j k, j < m → k < n → Fit (sgn want k * col j k)) ∧ ∀ k, k < n → Fit (sgn want k * want k) := by
  have h : ∀ (q : Rat) k, IsI q ∧ Bd 10 q → Fit (sgn want k * q) := fun q k ⟨⟨z, hz⟩, hb⟩ => by
    have h1 : Hd 1 10 q := by rw [hz] at hb ⊢; exact hd_int hb
    have h2 : Hd 1 10 (sgn want k * q) := by
      unfold sgn; split
      · rw [show (-1 : Rat) * q = -q by grind]; exact h1.neg
      · rw [Rat.one_mul]; exact h1
    exact fitH (B := 1) isI_one (by decide) (by constructor <;> decide) (by decide +kernel) (by decide +kernel) h2
  exact ⟨fun j k hj hk => h _ k (b.col j k hj hk), fun k hk => h _ k (b.want k hk)⟩
theorem cb_w1 (n m : Nat) : CB (m + n) (w1 m) 1 := ⟨isI_one, by decide, by constructor <;> decide +kernel, fun j _ => by
  unfold w1
  split
  · exact Hd.zero (by decide +kernel)
  · have : Hd 1 (10 ^ 4) (((-1 : Int)) : Rat) := hd_int (by constructor <;> decide +kernel)
    exact this⟩
/-- worths of the second climb -/
def w2 (m : Nat) (c : Nat → Rat) (j : Nat) : Rat := if j < m then c j else 0
theorem cb_w2 {n m : Nat} {c : Nat → Rat} {E : Rat} (h : CB m c E) : CB (m + n) (w2 m c) E := ⟨h.int, h.ne, h.bd, fun j _ => by
  unfold w2
  split
  · exact h.ent j (by assumption)
  · exact Hd.zero (by decide +kernel)⟩
end LP


/-! Systems and their papers: what the three answers say. -/
namespace LP
set_option linter.all false
set_option exponentiation.threshold 3000
def Feasible (n m : Nat) (col : Nat → Nat → Rat) (c y : Nat → Rat) : Prop := ∀ j, j < m → c j ≤ S n fun k => col j k * y k
/-- the least worth is q -/
structure Opt (n m : Nat) (col : Nat → Nat → Rat) (want c : Nat → Rat) (q : Rat) : Prop where
  ex : ∃ y, Feasible n m col c y
  low : ∀ y, Feasible n m col c y → q ≤ S n fun k => want k * y k
  high : ∀ x : Nat → Rat, (∀ j, j < m → 0 ≤ x j) → (∀ k, k < n → (S m fun j => x j * col j k) = want k) → (S m fun j => c j * x j) ≤ q
/-- there is no least one -/
structure Unb (n m : Nat) (col : Nat → Nat → Rat) (want c : Nat → Rat) : Prop where
  ex : ∃ y, Feasible n m col c y
  ray : ∃ z : Nat → Rat, (∀ j, j < m → 0 ≤ S n fun k => col j k * z k) ∧ (S n fun k => want k * z k) < 0
section
variable {n m : Nat} {col : Nat → Nat → Rat} {want c x y z d : Nat → Rat} {q : Rat}
/-- weights through the rows -/
theorem swap_sum : (S m fun j => x j * S n fun k => col j k * y k) = S n fun k => (S m fun j => x j * col j k) * y k := by
  have e1 : (S m fun j => x j * S n fun k => col j k * y k) = S m fun j => S n fun k => x j * col j k * y k := S_congr fun j _ => by
    rw [← S_mul]; exact S_congr fun k _ => by grind
  rw [e1, S_comm]
  exact S_congr fun k _ => S_mulr _ _ _
theorem through (hx : ∀ k, k < n → (S m fun j => x j * col j k) = want k) : (S m fun j => x j * S n fun k => col j k * y k) = S n fun k => want k * y k := by
  rw [swap_sum]
  exact S_congr fun k hk => by show _ * y k = _; rw [hx k hk]
theorem S_le' {n : Nat} {f g : Nat → Rat} (h : ∀ i, i < n → f i ≤ g i) : S n f ≤ S n g := S_le h
theorem weak (hf : Feasible n m col c y) (x0 : ∀ j, j < m → 0 ≤ x j) (hx : ∀ k, k < n → (S m fun j => x j * col j k) = want k) : (S m fun j => c j * x j) ≤ S n fun k => want k * y k := by
  rw [← through hx]
  refine S_le fun j hj => ?_
  have := Rat.mul_le_mul_of_nonneg_left (hf j hj) (x0 j hj)
  rw [Rat.mul_comm (c j) (x j)]
  exact this
theorem not_none (hf : Feasible n m col c y) (d0 : ∀ j, j < m → 0 ≤ d j) (dw : ∀ k, k < n → (S m fun j => d j * col j k) = 0) (dc : 0 < S m fun j => c j * d j) : False := by
  have h := weak (want := fun _ => 0) hf d0 dw
  have e : (S n fun k => (0 : Rat) * y k) = 0 := S_zero fun k _ => Rat.zero_mul _
  rw [e] at h
  exact absurd dc (Rat.not_lt.mpr h)
theorem S_addm (n : Nat) (f g : Nat → Rat) (t : Rat) : S n (fun i => f i + t * g i) = S n f + t * S n g := by
  rw [S_add, S_mul]
theorem Opt.not_endless (o : Opt n m col want c q) (hf : Feasible n m col c y) (zc : ∀ j, j < m → 0 ≤ S n fun k => col j k * z k) (zw : (S n fun k => want k * z k) < 0) : False := by
  generalize hW : (S n fun k => want k * z k) = W at zw
  generalize hY : (S n fun k => want k * y k) = Y
  -- far enough along the way
  have hq : q ≤ Y := by rw [← hY]; exact o.low y hf
  have t0 : 0 ≤ (Y - q + 1) / (-W) := by
    rw [Rat.div_def]
    refine Rat.mul_nonneg (by grind) (Rat.le_of_lt (Rat.inv_pos.mpr (by grind)))
  generalize ht : (Y - q + 1) / (-W) = t at t0
  have hf2 : Feasible n m col c (fun k => y k + t * z k) := fun j hj => by
    have e : (S n fun k => col j k * (y k + t * z k)) = (S n fun k => col j k * y k) + t * S n fun k => col j k * z k := by
      rw [← S_addm]; exact S_congr fun k _ => by grind
    rw [e]
    have h1 := hf j hj
    have h2 := Rat.mul_nonneg t0 (zc j hj)
    grind
  have h := o.low _ hf2
  have e : (S n fun k => want k * (y k + t * z k)) = Y + t * W := by
    rw [← hY, ← hW, ← S_addm]; exact S_congr fun k _ => by grind
  rw [e] at h
  have e2 : t * W = -(Y - q + 1) := by
    rw [← ht]
    have : W ≠ 0 := by grind
    grind
  grind
theorem Unb.not_least (u : Unb n m col want c) (x0 : ∀ j, j < m → 0 ≤ x j) (hx : ∀ k, k < n → (S m fun j => x j * col j k) = want k) : False := by
  obtain ⟨z, zc, zw⟩ := u.ray
  have h := weak (c := fun _ => 0) (y := z) (fun j hj => zc j hj) x0 hx
  have e : (S m fun j => (0 : Rat) * x j) = 0 := S_zero fun k _ => Rat.zero_mul _
  rw [e] at h
  exact absurd zw (Rat.not_lt.mpr h)
theorem Opt.eq {q' : Rat} (o : Opt n m col want c q) (x0 : ∀ j, j < m → 0 ≤ x j) (hx : ∀ k, k < n → (S m fun j => x j * col j k) = want k) (yc : Feasible n m col c y) (qx : (S m fun j => c j * x j) = q') (qy : (S n fun k => want k * y k) = q') : q' = q := by
  have h1 := o.low y yc
  have h2 := o.high x x0 hx
  rw [qy] at h1
  rw [qx] at h2
  exact Rat.le_antisymm h2 h1
/-- one more row: less than the least -/
def colM (m : Nat) (col : Nat → Nat → Rat) (want : Nat → Rat) (j k : Nat) : Rat := if j < m then col j k else 0 - want k
def cM (m : Nat) (c : Nat → Rat) (q : Rat) (j : Nat) : Rat := if j < m then c j else 1 / 5 - q
theorem Opt.more (o : Opt n m col want c q) (h : Feasible n (m + 1) (colM m col want) (cM m c q) y) : False := by
  have hf : Feasible n m col c y := fun j hj => by
    have := h j (by omega)
    unfold colM cM at this
    rw [if_pos hj] at this
    rwa [show (S n fun k => (if j < m then col j k else 0 - want k) * y k) = S n fun k => col j k * y k from S_congr fun k _ => by rw [if_pos hj]] at this
  have h1 := o.low y hf
  have h2 := h m (by omega)
  unfold colM cM at h2
  rw [if_neg (Nat.lt_irrefl _)] at h2
  rw [show (S n fun k => (if m < m then col m k else 0 - want k) * y k) = (-1) * S n fun k => want k * y k from by
    rw [← S_mul]
    exact S_congr fun k _ => by rw [if_neg (Nat.lt_irrefl _)]; grind] at h2
  grind
theorem colM_bnds (b : Bnds n m col want) : Bnds n (m + 1) (colM m col want) want := ⟨b.n9, fun j k _ hk => by
  unfold colM
  split
  · exact b.col j k (by assumption) hk
  · rw [show (0 : Rat) - want k = - want k by grind]
    exact ⟨(b.want k hk).1.neg, bd_neg (b.want k hk).2⟩, b.want⟩
theorem cb_int {m : Nat} {c : Nat → Rat} (h : ∀ j, j < m → IsI (c j) ∧ Bd 10 (c j)) : CB m c 1 := ⟨isI_one, by decide, by constructor <;> decide +kernel, fun j hj => by
  obtain ⟨⟨z, hz⟩, hb⟩ := h j hj
  rw [hz] at hb ⊢
  exact (hd_int hb).mono (by decide +kernel)⟩
theorem den_pos_rat (q : Rat) : (0 : Rat) < (q.den : Rat) := by
  have := q.den_pos
  have : ((0 : Nat) : Rat) < (q.den : Rat) := Rat.natCast_lt_natCast.mpr this
  simpa using this
theorem den_mul (q : Rat) : (q.den : Rat) * q = (q.num : Rat) := by
  have h : q = Rat.divInt q.num q.den := (Rat.num_divInt_den q).symm
  rw [Rat.divInt_eq_div] at h
  have h0 : ((q.den : Int) : Rat) ≠ 0 := by
    intro z
    have := Rat.intCast_inj.mp (z.trans (Rat.intCast_zero).symm)
    have := q.den_nz
    omega
  have e : ((q.den : Int) : Rat) = (q.den : Rat) := Rat.intCast_natCast _
  rw [e] at h h0
  grind
theorem bd_int {z : Int} {B : Nat} (h : z.natAbs ≤ B) : Bd (B : Rat) (z : Rat) := by
  have h1 : z ≤ (B : Int) := by omega
  have h2 : -(B : Int) ≤ z := by omega
  have h1 := Rat.intCast_le_intCast.mpr h1
  have h2 := Rat.intCast_le_intCast.mpr h2
  rw [Rat.intCast_natCast] at h1
  rw [Rat.intCast_neg, Rat.intCast_natCast] at h2
  exact ⟨h2, h1⟩
/-- a small part over its own denominator -/
theorem hd_part {q : Rat} {B : Nat} (h : q.num.natAbs ≤ B) : Hd (q.den : Rat) (B : Rat) q := by
  unfold Hd
  rw [den_mul]
  exact ⟨isI_int _, bd_int h⟩
theorem isI_nat (k : Nat) : IsI (k : Rat) := ⟨(k : Int), by rw [Rat.intCast_natCast]⟩
theorem bd_nat {k B : Nat} (h : k ≤ B) : Bd (B : Rat) (k : Rat) := by
  have h1 : (k : Rat) ≤ (B : Rat) := Rat.natCast_le_natCast.mpr h
  have h2 : ((0 : Nat) : Rat) ≤ (k : Rat) := Rat.natCast_le_natCast.mpr (Nat.zero_le _)
  have h3 : ((0 : Nat) : Rat) ≤ (B : Rat) := Rat.natCast_le_natCast.mpr (Nat.zero_le _)
  have e0 : ((0 : Nat) : Rat) = 0 := rfl
  rw [e0] at h2 h3
  constructor <;> grind
theorem cM_cb (hc : ∀ j, j < m → IsI (c j) ∧ Bd 10 (c j)) (hd : q.den ≤ 100) (hn : q.num.natAbs ≤ 1000) : CB (m + 1) (cM m c q) (5 * (q.den : Rat)) := by
  have i5 : IsI (5 : Rat) := ⟨5, rfl⟩
  have b5 : Bd 5 (5 : Rat) := by constructor <;> decide
  have hp := den_pos_rat q
  have hI := isI_nat q.den
  have hB : Bd 100 (q.den : Rat) := bd_nat hd
  refine ⟨i5.mul hI, by grind, bd_mono (by decide +kernel) (bd_mul b5 hB), fun j hj => ?_⟩
  unfold cM
  split
  · obtain ⟨⟨z, hz⟩, hb⟩ := hc j (by assumption)
    have h1 : Hd 1 10 (c j) := by rw [hz] at hb ⊢; exact hd_int hb
    have h2 := h1.scale (i5.mul hI) (bd_mul b5 hB)
    rw [Rat.mul_one] at h2
    exact h2.mono (by decide +kernel)
  · have h1 : Hd 5 1 (1 / 5 : Rat) := ⟨⟨1, by grind⟩, by constructor <;> grind⟩
    have h2 := h1.scale' (D := 5) hI hB
    have h3 := (hd_part hn).scale (D := (q.den : Rat)) i5 b5
    have := h2.sub h3
    exact this.mono (by decide +kernel)
end
end LP


/-! The game of two rows. -/
namespace LP
set_option linter.all false
set_option exponentiation.threshold 3000
theorem Opt.of {n m : Nat} {col : Nat → Nat → Rat} {want c y : Nat → Rat} {q : Rat} (hf : Feasible n m col c y) (hq : (S n fun k => want k * y k) = q) (low : ∀ y, Feasible n m col c y → q ≤ S n fun k => want k * y k) : Opt n m col want c q :=
  ⟨⟨y, hf⟩, low, fun x x0 hx => by rw [← hq]; exact weak hf x0 hx⟩
def ln (a b : Nat → Int) (j : Nat) (p : Rat) : Rat := p * (a j : Rat) + (1 - p) * (b j : Rat)
def IsMin (s : Nat) (a b : Nat → Int) (p v : Rat) : Prop := (∃ j, j < s ∧ ln a b j p = v) ∧ ∀ j, j < s → v ≤ ln a b j p
def slp (a b : Nat → Int) (j k : Nat) : Int := a j - b j - a k + b k
def mch (b : Nat → Int) (j k : Nat) : Int := b k - b j
def Crs (a b : Nat → Int) (j k : Nat) : Prop := slp a b j k ≠ 0 ∧ 0 ≤ mch b j k * slp a b j k ∧ mch b j k * slp a b j k ≤ slp a b j k * slp a b j k
instance (a b : Nat → Int) (j k : Nat) : Decidable (Crs a b j k) := by unfold Crs; infer_instance
def crp (a b : Nat → Int) (j k : Nat) : Rat := (mch b j k : Rat) / (slp a b j k : Rat)
def Cand (s : Nat) (a b : Nat → Int) (p : Rat) : Prop := p = 0 ∨ p = 1 ∨ ∃ j k, j < s ∧ k < s ∧ Crs a b j k ∧ p = crp a b j k
/-- a least and a greatest of finitely many -/
theorem next_of : ∀ (C : List Rat) (p : Rat), (∃ c, c ∈ C ∧ p ≤ c) → ∃ r, r ∈ C ∧ p ≤ r ∧ ∀ c, c ∈ C → p ≤ c → r ≤ c
  | [], _, ⟨c, h, _⟩ => by cases h
  | x :: C, p, h => by
    by_cases hC : ∃ c, c ∈ C ∧ p ≤ c
    · obtain ⟨r, h1, h2, h3⟩ := next_of C p hC
      by_cases hx : p ≤ x ∧ x ≤ r
      · exact ⟨x, List.mem_cons_self, hx.1, fun c hc hpc => by
          rcases List.mem_cons.mp hc with e | hc
          · rw [e]; exact Rat.le_refl
          · exact Rat.le_trans hx.2 (h3 c hc hpc)⟩
      · exact ⟨r, List.mem_cons_of_mem _ h1, h2, fun c hc hpc => by
          rcases List.mem_cons.mp hc with e | hc
          · subst e
            rcases Rat.le_total (a := r) (b := c) with z | z
            · exact z
            · exact absurd ⟨hpc, z⟩ hx
          · exact h3 c hc hpc⟩
    · obtain ⟨c, hc, hpc⟩ := h
      rcases List.mem_cons.mp hc with e | hc
      · subst e
        exact ⟨c, List.mem_cons_self, hpc, fun d hd hpd => by
          rcases List.mem_cons.mp hd with e | hd
          · rw [e]; exact Rat.le_refl
          · exact absurd ⟨d, hd, hpd⟩ hC⟩
      · exact absurd ⟨c, hc, hpc⟩ hC
theorem prev_of (C : List Rat) (p : Rat) (h : ∃ c, c ∈ C ∧ c ≤ p) : ∃ r, r ∈ C ∧ r ≤ p ∧ ∀ c, c ∈ C → c ≤ p → c ≤ r := by
  obtain ⟨c, hc, hp⟩ := h
  obtain ⟨r, h1, h2, h3⟩ := next_of (C.map (- ·)) (-p) ⟨-c, List.mem_map.mpr ⟨c, hc, rfl⟩, by grind⟩
  obtain ⟨d, hd, e⟩ := List.mem_map.mp h1
  refine ⟨d, hd, by grind, fun c hc hcp => ?_⟩
  have := h3 (-c) (List.mem_map.mpr ⟨c, hc, rfl⟩) (by grind)
  grind
def cands (s : Nat) (a b : Nat → Int) : List Rat := 0 :: 1 :: (List.range s).flatMap fun j => (List.range s).flatMap fun k => if Crs a b j k then [crp a b j k] else []
theorem mem_cands {s : Nat} {a b : Nat → Int} {p : Rat} : p ∈ cands s a b ↔ Cand s a b p := by
  unfold cands Cand
  simp only [List.mem_cons, List.mem_flatMap, List.mem_range]
  constructor
  · rintro (h | h | ⟨j, hj, k, hk, h⟩)
    · exact .inl h
    · exact .inr (.inl h)
    · by_cases c : Crs a b j k
      · rw [if_pos c] at h
        exact .inr (.inr ⟨j, k, hj, hk, c, List.mem_singleton.mp h⟩)
      · rw [if_neg c] at h; cases h
  · rintro (h | h | ⟨j, k, hj, hk, c, h⟩)
    · exact .inl h
    · exact .inr (.inl h)
    · exact .inr (.inr ⟨j, hj, k, hk, by rw [if_pos c]; exact List.mem_singleton.mpr h⟩)
theorem ln_eq (a b : Nat → Int) (j : Nat) (p : Rat) : ln a b j p = (b j : Rat) + p * ((a j : Rat) - (b j : Rat)) := by unfold ln; grind
theorem slp_cast (a b : Nat → Int) (j k : Nat) : (slp a b j k : Rat) = (a j : Rat) - (b j : Rat) - (a k : Rat) + (b k : Rat) := by
  unfold slp; rw [Rat.intCast_add, Rat.intCast_sub, Rat.intCast_sub]
theorem mch_cast (b : Nat → Int) (j k : Nat) : (mch b j k : Rat) = (b k : Rat) - (b j : Rat) := by
  unfold mch; rw [Rat.intCast_sub]
theorem le_div' {x m σ : Rat} (h : 0 < σ) (k : x * σ ≤ m) : x ≤ m / σ := Rat.not_lt.mp fun z => absurd ((Rat.div_lt_iff h).mp z) (Rat.not_lt.mpr k)
theorem div_le' {x m σ : Rat} (h : 0 < σ) (k : m ≤ x * σ) : m / σ ≤ x := Rat.not_lt.mp fun z => absurd ((Rat.lt_div_iff h).mp z) (Rat.not_lt.mpr k)
/-- where two lines cross between 0 and 1 there is a candidate -/
theorem crs_of {a b : Nat → Int} {j k : Nat} {x y : Rat} (hx : 0 ≤ x) (hy : y ≤ 1) (hxy : x ≤ y) (h1 : ln a b j x ≤ ln a b k x) (h2 : ln a b k y < ln a b j y) : Crs a b j k ∧ x ≤ crp a b j k ∧ crp a b j k < y := by
  rw [ln_eq, ln_eq] at h1 h2
  have es := slp_cast a b j k
  have em := mch_cast b j k
  generalize (a j : Rat) = aj at *
  generalize (b j : Rat) = bj at *
  generalize (a k : Rat) = ak at *
  generalize (b k : Rat) = bk at *
  -- x σ ≤ μ < y σ
  have k1 : x * (slp a b j k : Rat) ≤ (mch b j k : Rat) := by rw [es, em]; grind
  have k2 : (mch b j k : Rat) < y * (slp a b j k : Rat) := by rw [es, em]; grind
  have hs : (0 : Rat) < (slp a b j k : Rat) := by
    generalize (slp a b j k : Rat) = σ at *
    refine Rat.not_le.mp fun z => ?_
    have : (y - x) * σ ≤ 0 := by
      have := Rat.mul_nonneg (show 0 ≤ y - x by grind) (show 0 ≤ -σ by grind)
      grind
    grind
  have hs' : 0 < slp a b j k := Rat.intCast_lt_intCast.mp (by rw [Rat.intCast_zero]; exact hs)
  have hm0 : (0 : Rat) ≤ (mch b j k : Rat) := Rat.le_trans (Rat.mul_nonneg hx (Rat.le_of_lt hs)) k1
  have hm0' : 0 ≤ mch b j k := Rat.intCast_le_intCast.mp (by rw [Rat.intCast_zero]; exact hm0)
  have hms : (mch b j k : Rat) < (slp a b j k : Rat) := by
    have := Rat.mul_le_mul_of_nonneg_right hy (Rat.le_of_lt hs)
    grind
  have hms' : mch b j k < slp a b j k := Rat.intCast_lt_intCast.mp hms
  refine ⟨⟨by omega, Int.mul_nonneg hm0' (by omega), Int.mul_le_mul_of_nonneg_right (by omega) (by omega)⟩, ?_, ?_⟩
  · unfold crp
    exact le_div' hs k1
  · unfold crp
    rw [Rat.div_lt_iff hs]
    exact k2
/-- no share secures more than the best of the candidates -/
theorem game_low {s : Nat} {a b : Nat → Int} {best p t : Rat} (hs : 0 < s) (hb : ∀ c v, Cand s a b c → IsMin s a b c v → v ≤ best) (ex : ∀ c, ∃ v, IsMin s a b c v) (p0 : 0 ≤ p) (p1 : p ≤ 1) (ht : ∀ j, j < s → t ≤ ln a b j p) : t ≤ best := by
  obtain ⟨r, r1, r2, r3⟩ := next_of (cands s a b) p ⟨1, by rw [mem_cands]; exact .inr (.inl rfl), p1⟩
  obtain ⟨l, l1, l2, l3⟩ := prev_of (cands s a b) p ⟨0, by rw [mem_cands]; exact .inl rfl, p0⟩
  have r_1 : r ≤ 1 := r3 1 (by rw [mem_cands]; exact .inr (.inl rfl)) p1
  have l_0 : 0 ≤ l := l3 0 (by rw [mem_cands]; exact .inl rfl) p0
  obtain ⟨v, ⟨j, hj, ej⟩, hv⟩ := ex p
  -- line j is least from l to r
  have hr : IsMin s a b r (ln a b j r) := ⟨⟨j, hj, rfl⟩, fun k hk => by
    refine Rat.not_lt.mp fun z => ?_
    obtain ⟨cc, c1, c2⟩ := crs_of p0 r_1 r2 (by rw [ej]; exact hv k hk) z
    have := r3 (crp a b j k) (by rw [mem_cands]; exact .inr (.inr ⟨j, k, hj, hk, cc, rfl⟩)) c1
    exact absurd c2 (Rat.not_lt.mpr this)⟩
  have hl : IsMin s a b l (ln a b j l) := ⟨⟨j, hj, rfl⟩, fun k hk => by
    refine Rat.not_lt.mp fun z => ?_
    -- turned about: from the right
    have h1 : ln a b j p ≤ ln a b k p := by rw [ej]; exact hv k hk
    have es := slp_cast a b k j
    have em := mch_cast b k j
    rw [ln_eq, ln_eq] at h1 z
    have k1 : l * (slp a b k j : Rat) < (mch b k j : Rat) := by rw [es, em]; grind
    have k2 : (mch b k j : Rat) ≤ p * (slp a b k j : Rat) := by rw [es, em]; grind
    have hs : (0 : Rat) < (slp a b k j : Rat) := by
      generalize (slp a b k j : Rat) = σ at *
      refine Rat.not_le.mp fun z => ?_
      have : (p - l) * σ ≤ 0 := by
        have := Rat.mul_nonneg (show 0 ≤ p - l by grind) (show 0 ≤ -σ by grind)
        grind
      grind
    have hs' : 0 < slp a b k j := Rat.intCast_lt_intCast.mp (by rw [Rat.intCast_zero]; exact hs)
    have hm0 : (0 : Rat) ≤ (mch b k j : Rat) := Rat.le_trans (Rat.mul_nonneg l_0 (Rat.le_of_lt hs)) (Rat.le_of_lt k1)
    have hm0' : 0 ≤ mch b k j := Rat.intCast_le_intCast.mp (by rw [Rat.intCast_zero]; exact hm0)
    have hms : (mch b k j : Rat) ≤ (slp a b k j : Rat) := by
      have := Rat.mul_le_mul_of_nonneg_right p1 (Rat.le_of_lt hs)
      grind
    have hms' : mch b k j ≤ slp a b k j := Rat.intCast_le_intCast.mp hms
    have cc : Crs a b k j := ⟨by omega, Int.mul_nonneg hm0' (by omega), Int.mul_le_mul_of_nonneg_right hms' (by omega)⟩
    have c1 : crp a b k j ≤ p := by unfold crp; exact div_le' hs k2
    have c2 : l < crp a b k j := by unfold crp; rw [Rat.lt_div_iff hs]; exact k1
    exact absurd c2 (Rat.not_lt.mpr (l3 _ (by rw [mem_cands]; exact .inr (.inr ⟨k, j, hk, hj, cc, rfl⟩)) c1))⟩
  have b1 := hb r _ (mem_cands.mp r1) hr
  have b2 := hb l _ (mem_cands.mp l1) hl
  have h := ht j hj
  rw [ln_eq] at b1 b2 h
  generalize (b j : Rat) = β at *
  generalize (a j : Rat) - β = δ at *
  rcases Rat.le_total (a := 0) (b := δ) with z | z
  · have := Rat.mul_le_mul_of_nonneg_right r2 z
    grind
  · have := Rat.mul_le_mul_of_nonneg_right l2 (show 0 ≤ -δ by grind)
    grind
end LP


/-! The game's system; the assignment's system. -/
namespace LP
set_option linter.all false
set_option exponentiation.threshold 3000
set_option maxHeartbeats 4000000
/-! ### whole sums -/
def SI : Nat → (Nat → Int) → Int
  | 0, _ => 0
  | n + 1, f => SI n f + f n
theorem S_int : ∀ (n : Nat) (f : Nat → Int), S n (fun k => ((f k : Int) : Rat)) = ((SI n f : Int) : Rat)
  | 0, _ => rfl
  | n + 1, f => by
    show S n (fun k => ((f k : Int) : Rat)) + ((f n : Int) : Rat) = ((SI n f + f n : Int) : Rat)
    rw [S_int n f, Rat.intCast_add]
theorem S_int2 (n : Nat) (f g : Nat → Int) : S n (fun k => ((f k : Int) : Rat) * ((g k : Int) : Rat)) = ((SI n (fun k => f k * g k) : Int) : Rat) := by
  rw [← S_int]; exact S_congr fun k _ => (Rat.intCast_mul _ _).symm
theorem S3 (f : Nat → Rat) : S 3 f = f 0 + f 1 + f 2 := by simp only [S]; grind
/-! ### the game -/
def gcol (s : Nat) (a b : Nat → Int) (j k : Nat) : Int :=
  if j < s then (if k = 0 then a j else if k = 1 then b j else -1) else if k = 2 then 0 else if j = s then (if k = 0 then 1 else 0) else if j = s + 1 then (if k = 0 then 0 else 1) else if j = s + 2 then 1 else -1
def gc (s : Nat) (j : Nat) : Int := if j < s + 2 then 0 else if j = s + 2 then 1 else -1
def gw (k : Nat) : Int := if k = 2 then -1 else 0
section
variable {s : Nat} {a b : Nat → Int} {best : Rat}
theorem gfeas {y : Nat → Rat} : Feasible 3 (s + 4) (fun j k => ((gcol s a b j k : Int) : Rat)) (fun j => ((gc s j : Int) : Rat)) y ↔
    (∀ j, j < s → y 2 ≤ (a j : Rat) * y 0 + (b j : Rat) * y 1) ∧ 0 ≤ y 0 ∧ 0 ≤ y 1 ∧ y 0 + y 1 = 1 := by
  have e1 : (((-1 : Int)) : Rat) = -1 := rfl
  have e0 : (((0 : Int)) : Rat) = 0 := rfl
  have e2 : (((1 : Int)) : Rat) = 1 := rfl
  constructor
  · intro h
    refine ⟨fun j hj => ?_, ?_, ?_, ?_⟩
    · have := h j (by omega)
      simp only [S3] at this
      simp only [gcol, gc, if_pos hj, if_pos (show j < s + 2 by omega)] at this
      simp at this
      grind
    · have := h s (by omega)
      simp only [S3] at this
      simp [gcol, gc] at this
      grind
    · have := h (s + 1) (by omega)
      simp only [S3] at this
      simp [gcol, gc] at this
      grind
    · have h1 := h (s + 2) (by omega)
      have h2 := h (s + 3) (by omega)
      simp only [S3] at h1 h2
      simp [gcol, gc] at h1 h2
      grind
  · rintro ⟨h1, h2, h3, h4⟩ j hj
    simp only [S3]
    by_cases c1 : j < s
    · have := h1 j c1
      simp only [gcol, gc, if_pos c1, if_pos (show j < s + 2 by omega)]
      simp
      grind
    · by_cases c2 : j = s
      · subst c2
        simp [gcol, gc]; grind
      · by_cases c3 : j = s + 1
        · subst c3
          simp [gcol, gc]; grind
        · by_cases c4 : j = s + 2
          · subst c4
            simp [gcol, gc]; grind
          · have c5 : j = s + 3 := by omega
            subst c5
            simp [gcol, gc]; grind
theorem cand01 {p : Rat} (h : Cand s a b p) : 0 ≤ p ∧ p ≤ 1 := by
  rcases h with h | h | ⟨j, k, _, _, ⟨c1, c2, c3⟩, h⟩
  · rw [h]; constructor <;> decide
  · rw [h]; constructor <;> decide
  · rw [h]
    unfold crp
    rcases Int.lt_or_gt_of_ne c1 with z | z
    · -- below 0: turn both
      have hz : (0 : Rat) < ((-slp a b j k : Int) : Rat) := by
        have := Rat.intCast_lt_intCast.mpr (show (0 : Int) < -slp a b j k by omega)
        rwa [Rat.intCast_zero] at this
      have e : (mch b j k : Rat) / (slp a b j k : Rat) = ((-mch b j k : Int) : Rat) / ((-slp a b j k : Int) : Rat) := by
        rw [Rat.intCast_neg, Rat.intCast_neg] at *
        grind
      have n0 : 0 ≤ -mch b j k := by
        refine Int.not_lt.mp fun y => ?_
        have := Int.mul_neg_of_pos_of_neg (show 0 < mch b j k by omega) z
        omega
      have n1 : -mch b j k ≤ -slp a b j k := by
        refine Int.not_lt.mp fun y => ?_
        have : slp a b j k * slp a b j k < mch b j k * slp a b j k := Int.mul_lt_mul_of_neg_right (by omega) z
        omega
      rw [e]
      constructor
      · refine le_div' hz ?_
        rw [Rat.zero_mul]
        have := Rat.intCast_le_intCast.mpr n0
        rwa [Rat.intCast_zero] at this
      · refine div_le' hz ?_
        rw [Rat.one_mul]
        exact Rat.intCast_le_intCast.mpr n1
    · have hz : (0 : Rat) < (slp a b j k : Rat) := by
        have := Rat.intCast_lt_intCast.mpr z
        rwa [Rat.intCast_zero] at this
      have n0 : 0 ≤ mch b j k := by
        refine Int.not_lt.mp fun y => ?_
        have := Int.mul_neg_of_neg_of_pos y z
        omega
      have n1 : mch b j k ≤ slp a b j k := by
        refine Int.not_lt.mp fun y => ?_
        have : slp a b j k * slp a b j k < mch b j k * slp a b j k := Int.mul_lt_mul_of_pos_right y z
        omega
      constructor
      · refine le_div' hz ?_
        rw [Rat.zero_mul]
        have := Rat.intCast_le_intCast.mpr n0
        rwa [Rat.intCast_zero] at this
      · refine div_le' hz ?_
        rw [Rat.one_mul]
        exact Rat.intCast_le_intCast.mpr n1
theorem min_ex : ∀ {s : Nat}, 0 < s → ∀ p, ∃ v, IsMin s a b p v
  | 0, h, _ => absurd h (Nat.lt_irrefl 0)
  | 1, _, p => ⟨ln a b 0 p, ⟨0, by omega, rfl⟩, fun j hj => by rw [show j = 0 by omega]; exact Rat.le_refl⟩
  | s + 2, _, p => by
    obtain ⟨v, ⟨j, hj, e⟩, h⟩ := min_ex (s := s + 1) (by omega) p
    by_cases z : v ≤ ln a b (s + 1) p
    · refine ⟨v, ⟨j, by omega, e⟩, fun k hk => ?_⟩
      by_cases q : k < s + 1
      · exact h k q
      · rw [show k = s + 1 by omega]; exact z
    · refine ⟨ln a b (s + 1) p, ⟨s + 1, by omega, rfl⟩, fun k hk => ?_⟩
      have z : ln a b (s + 1) p < v := Rat.not_le.mp z
      by_cases q : k < s + 1
      · exact Rat.le_trans (Rat.le_of_lt z) (h k q)
      · rw [show k = s + 1 by omega]; exact Rat.le_refl
theorem game_opt (hs : 0 < s) {p : Rat} (hp : Cand s a b p) (hm : IsMin s a b p best) (hb : ∀ c v, Cand s a b c → IsMin s a b c v → v ≤ best) :
    Opt 3 (s + 4) (fun j k => ((gcol s a b j k : Int) : Rat)) (fun k => ((gw k : Int) : Rat)) (fun j => ((gc s j : Int) : Rat)) (0 - best) := by
  obtain ⟨p0, p1⟩ := cand01 hp
  refine Opt.of (y := fun k => if k = 0 then p else if k = 1 then 1 - p else best) ?_ ?_ fun y hy => ?_
  · rw [gfeas]
    refine ⟨fun j hj => ?_, ?_, ?_, ?_⟩
    · have := hm.2 j hj
      unfold ln at this
      simp
      grind
    · simp; exact p0
    · simp; grind
    · simp; grind
  · simp only [S3]
    simp [gw]
    grind
  · rw [gfeas] at hy
    obtain ⟨h1, h2, h3, h4⟩ := hy
    have := game_low hs hb (fun c => min_ex hs c) h2 (by grind) (t := y 2) (fun j hj => by
      have := h1 j hj
      unfold ln
      rw [show 1 - y 0 = y 1 by grind]
      grind)
    simp only [S3]
    simp [gw]
    grind
end
end LP


/-! The assignment's system. -/
namespace LP
set_option linter.all false
set_option exponentiation.threshold 3000
set_option maxHeartbeats 4000000
/-- rows of the sums, then the places one by one -/
def acol (s i k : Nat) : Int :=
  if i < 4 * s then (if (if i % 4 < 2 then k / s = i / 4 else k % s = i / 4) then (if i % 2 = 0 then 1 else -1) else 0) else (if k = i - 4 * s then 1 else 0)
def ac (s i : Nat) : Int := if i < 4 * s then (if i % 2 = 0 then 1 else -1) else 0
def agoal (s : Nat) (p : Nat → Nat → Int) (k : Nat) : Int := p (k / s) (k % s)
def cost (s : Nat) (p : Nat → Nat → Int) (o : List Nat) : Int := SI s fun i => p i (o.getD i 0)
def perms : Nat → List (List Nat)
  | 1 => [[0]]
  | 2 => [[1, 0], [0, 1]]
  | 3 => [[2, 1, 0], [1, 2, 0], [1, 0, 2], [2, 0, 1], [0, 2, 1], [0, 1, 2]]
  | _ => []
/-- the matrix of an order -/
def pmat (s : Nat) (o : List Nat) (k : Nat) : Int := if o.getD (k / s) 0 = k % s then 1 else 0
theorem pm_feas : ∀ s, s ∈ [1, 2, 3] → ∀ o, o ∈ perms s → ∀ j, j < 4 * s + s * s → ac s j ≤ SI (s * s) fun k => acol s j k * pmat s o k := by decide +kernel
theorem feas_int {n m : Nat} {col : Nat → Nat → Int} {c y : Nat → Int} (h : ∀ j, j < m → c j ≤ SI n fun k => col j k * y k) : Feasible n m (fun j k => ((col j k : Int) : Rat)) (fun j => ((c j : Int) : Rat)) (fun k => ((y k : Int) : Rat)) := fun j hj => by
  show ((c j : Int) : Rat) ≤ S n fun k => ((col j k : Int) : Rat) * ((y k : Int) : Rat)
  rw [S_int2]
  exact Rat.intCast_le_intCast.mpr (h j hj)
theorem S1' (f : Nat → Rat) : S 1 f = f 0 := by simp only [S]; grind
theorem S4 (f : Nat → Rat) : S 4 f = f 0 + f 1 + f 2 + f 3 := by simp only [S]; grind
theorem S9 (f : Nat → Rat) : S 9 f = f 0 + f 1 + f 2 + f 3 + f 4 + f 5 + f 6 + f 7 + f 8 := by simp only [S]; grind
theorem goal_pm (p : Nat → Nat → Int) : ∀ s, s ∈ [1, 2, 3] → ∀ o, o ∈ perms s → (SI (s * s) fun k => agoal s p k * pmat s o k) = cost s p o := by
  intro s hs o ho
  simp only [List.mem_cons, List.not_mem_nil, or_false] at hs
  rcases hs with rfl | rfl | rfl
  · simp only [perms, List.mem_cons, List.not_mem_nil, or_false] at ho
    subst ho
    simp [SI, agoal, pmat, cost]
  · simp only [perms, List.mem_cons, List.not_mem_nil, or_false] at ho
    rcases ho with rfl | rfl <;> simp [SI, agoal, pmat, cost]
  · simp only [perms, List.mem_cons, List.not_mem_nil, or_false] at ho
    rcases ho with rfl | rfl | rfl | rfl | rfl | rfl <;> simp [SI, agoal, pmat, cost]
theorem five {q T a b c d e : Rat} (ha : 0 ≤ a) (hb : 0 ≤ b) (hc : 0 ≤ c) (hd : 0 ≤ d) (he : 0 ≤ e) (h : T = q * 1 + (a + b + c + d + e)) : q ≤ T := by
  rw [h]; grind
/-- x's along one family of orders, shifted so that the least is 0; A, B the others; u, v, w the other family -/
theorem mix {A B u v w q k1 k2 l0 l1 l2 : Rat} (hA : 0 ≤ A) (hB : 0 ≤ B) (hu : 0 ≤ u) (hv : 0 ≤ v) (hw : 0 ≤ w) (one : A + B + u + v + w = 1) (a1 : q ≤ k1) (a2 : q ≤ k2) (b0 : q ≤ l0) (b1 : q ≤ l1) (b2 : q ≤ l2) :
    q ≤ A * k1 + B * k2 + u * l0 + v * l1 + w * l2 := by
  have m1 := Rat.mul_nonneg hA (show 0 ≤ k1 - q by grind)
  have m2 := Rat.mul_nonneg hB (show 0 ≤ k2 - q by grind)
  have m3 := Rat.mul_nonneg hu (show 0 ≤ l0 - q by grind)
  have m4 := Rat.mul_nonneg hv (show 0 ≤ l1 - q by grind)
  have m5 := Rat.mul_nonneg hw (show 0 ≤ l2 - q by grind)
  refine five m1 m2 m3 m4 m5 ?_
  rw [← one]
  grind
/-- a sum of products that are not below 0 -/
theorem low3 {y0 y1 y2 y3 y4 y5 y6 y7 y8 p0 p1 p2 p3 p4 p5 p6 p7 p8 q : Rat} (n0 : 0 ≤ y0) (n1 : 0 ≤ y1) (n2 : 0 ≤ y2) (n3 : 0 ≤ y3) (n4 : 0 ≤ y4) (n5 : 0 ≤ y5) (n6 : 0 ≤ y6) (n7 : 0 ≤ y7) (n8 : 0 ≤ y8)
    (r0 : y0 + y1 + y2 = 1) (r1 : y3 + y4 + y5 = 1) (r2 : y6 + y7 + y8 = 1) (c0 : y0 + y3 + y6 = 1) (c1 : y1 + y4 + y7 = 1) (c2 : y2 + y5 + y8 = 1)
    (q1 : q ≤ p2 + p4 + p6) (q2 : q ≤ p1 + p5 + p6) (q3 : q ≤ p1 + p3 + p8) (q4 : q ≤ p2 + p3 + p7) (q5 : q ≤ p0 + p5 + p7) (q6 : q ≤ p0 + p4 + p8) :
    q ≤ p0 * y0 + p1 * y1 + p2 * y2 + p3 * y3 + p4 * y4 + p5 * y5 + p6 * y6 + p7 * y7 + p8 * y8 := by
  by_cases h0 : y0 + y4 + y8 ≤ y1 + y5 + y6 ∧ y0 + y4 + y8 ≤ y2 + y3 + y7
  · -- shift 0 is least
    have ha1 : 0 ≤ (y1 + y5 + y6 - (y0 + y4 + y8)) / 3 := by grind
    have ha2 : 0 ≤ (y2 + y3 + y7 - (y0 + y4 + y8)) / 3 := by grind
    have e1 : y1 = (y1 + y5 + y6 - (y0 + y4 + y8)) / 3 + y8 := by grind
    have e5 : y5 = (y1 + y5 + y6 - (y0 + y4 + y8)) / 3 + y0 := by grind
    have e6 : y6 = (y1 + y5 + y6 - (y0 + y4 + y8)) / 3 + y4 := by grind
    have e2 : y2 = (y2 + y3 + y7 - (y0 + y4 + y8)) / 3 + y4 := by grind
    have e3 : y3 = (y2 + y3 + y7 - (y0 + y4 + y8)) / 3 + y8 := by grind
    have e7 : y7 = (y2 + y3 + y7 - (y0 + y4 + y8)) / 3 + y0 := by grind
    generalize (y1 + y5 + y6 - (y0 + y4 + y8)) / 3 = A at *
    generalize (y2 + y3 + y7 - (y0 + y4 + y8)) / 3 = B at *
    have := mix ha1 ha2 n0 n4 n8 (by grind) q2 q4 q5 q1 q3
    have id : p0 * y0 + p1 * y1 + p2 * y2 + p3 * y3 + p4 * y4 + p5 * y5 + p6 * y6 + p7 * y7 + p8 * y8 = A * (p1 + p5 + p6) + B * (p2 + p3 + p7) + y0 * (p0 + p5 + p7) + y4 * (p2 + p4 + p6) + y8 * (p1 + p3 + p8) := by
      rw [e1, e2, e3, e5, e6, e7]; grind
    rw [id]; exact this
  · by_cases h1 : y1 + y5 + y6 ≤ y2 + y3 + y7 ∧ y1 + y5 + y6 ≤ y0 + y4 + y8
    · have ha1 : 0 ≤ (y0 + y4 + y8 - (y1 + y5 + y6)) / 3 := by grind
      have ha2 : 0 ≤ (y2 + y3 + y7 - (y1 + y5 + y6)) / 3 := by grind
      have e0 : y0 = (y0 + y4 + y8 - (y1 + y5 + y6)) / 3 + y5 := by grind
      have e4 : y4 = (y0 + y4 + y8 - (y1 + y5 + y6)) / 3 + y6 := by grind
      have e8 : y8 = (y0 + y4 + y8 - (y1 + y5 + y6)) / 3 + y1 := by grind
      have e2 : y2 = (y2 + y3 + y7 - (y1 + y5 + y6)) / 3 + y6 := by grind
      have e3 : y3 = (y2 + y3 + y7 - (y1 + y5 + y6)) / 3 + y1 := by grind
      have e7 : y7 = (y2 + y3 + y7 - (y1 + y5 + y6)) / 3 + y5 := by grind
      generalize (y0 + y4 + y8 - (y1 + y5 + y6)) / 3 = A at *
      generalize (y2 + y3 + y7 - (y1 + y5 + y6)) / 3 = B at *
      have := mix ha1 ha2 n5 n6 n1 (by grind) q6 q4 q5 q1 q3
      have id : p0 * y0 + p1 * y1 + p2 * y2 + p3 * y3 + p4 * y4 + p5 * y5 + p6 * y6 + p7 * y7 + p8 * y8 = A * (p0 + p4 + p8) + B * (p2 + p3 + p7) + y5 * (p0 + p5 + p7) + y6 * (p2 + p4 + p6) + y1 * (p1 + p3 + p8) := by
        rw [e0, e4, e8, e2, e3, e7]; grind
      rw [id]; exact this
    · have h2 : y2 + y3 + y7 ≤ y0 + y4 + y8 ∧ y2 + y3 + y7 ≤ y1 + y5 + y6 := by
        constructor <;> grind
      have ha1 : 0 ≤ (y0 + y4 + y8 - (y2 + y3 + y7)) / 3 := by grind
      have ha2 : 0 ≤ (y1 + y5 + y6 - (y2 + y3 + y7)) / 3 := by grind
      have e0 : y0 = (y0 + y4 + y8 - (y2 + y3 + y7)) / 3 + y7 := by grind
      have e4 : y4 = (y0 + y4 + y8 - (y2 + y3 + y7)) / 3 + y2 := by grind
      have e8 : y8 = (y0 + y4 + y8 - (y2 + y3 + y7)) / 3 + y3 := by grind
      have e1 : y1 = (y1 + y5 + y6 - (y2 + y3 + y7)) / 3 + y3 := by grind
      have e5 : y5 = (y1 + y5 + y6 - (y2 + y3 + y7)) / 3 + y7 := by grind
      have e6 : y6 = (y1 + y5 + y6 - (y2 + y3 + y7)) / 3 + y2 := by grind
      generalize (y0 + y4 + y8 - (y2 + y3 + y7)) / 3 = A at *
      generalize (y1 + y5 + y6 - (y2 + y3 + y7)) / 3 = B at *
      have := mix ha1 ha2 n7 n2 n3 (by grind) q6 q2 q5 q1 q3
      have id : p0 * y0 + p1 * y1 + p2 * y2 + p3 * y3 + p4 * y4 + p5 * y5 + p6 * y6 + p7 * y7 + p8 * y8 = A * (p0 + p4 + p8) + B * (p1 + p5 + p6) + y7 * (p0 + p5 + p7) + y2 * (p2 + p4 + p6) + y3 * (p1 + p3 + p8) := by
        rw [e0, e4, e8, e1, e5, e6]; grind
      rw [id]; exact this
theorem low2 {y0 y1 y2 y3 p0 p1 p2 p3 q : Rat} (n0 : 0 ≤ y0) (n1 : 0 ≤ y1) (r0 : y0 + y1 = 1) (r1 : y2 + y3 = 1) (c0 : y0 + y2 = 1) (q1 : q ≤ p1 + p2) (q2 : q ≤ p0 + p3) : q ≤ p0 * y0 + p1 * y1 + p2 * y2 + p3 * y3 := by
  have m1 := Rat.mul_nonneg n0 (show 0 ≤ p0 + p3 - q by grind)
  have m2 := Rat.mul_nonneg n1 (show 0 ≤ p1 + p2 - q by grind)
  have e3 : y3 = y0 := by grind
  have e2 : y2 = y1 := by grind
  refine five m1 m2 Rat.le_refl Rat.le_refl Rat.le_refl ?_
  rw [← r0, e3, e2]
  grind
theorem assign_low {s : Nat} {p : Nat → Nat → Int} {q : Int} (hs : s ∈ [1, 2, 3]) (hq : ∀ o, o ∈ perms s → q ≤ cost s p o) {y : Nat → Rat} (hy : Feasible (s * s) (4 * s + s * s) (fun j k => ((acol s j k : Int) : Rat)) (fun j => ((ac s j : Int) : Rat)) y) :
    ((q : Int) : Rat) ≤ S (s * s) fun k => ((agoal s p k : Int) : Rat) * y k := by
  simp only [List.mem_cons, List.not_mem_nil, or_false] at hs
  have cst : ∀ {a b : Int}, a ≤ b → (a : Rat) ≤ (b : Rat) := fun h => Rat.intCast_le_intCast.mpr h
  rcases hs with rfl | rfl | rfl
  · have f : ∀ j, j < 5 → ((ac 1 j : Int) : Rat) ≤ ((acol 1 j 0 : Int) : Rat) * y 0 := fun j hj => by rw [← S1' (fun k => ((acol 1 j k : Int) : Rat) * y k)]; exact hy j hj
    have h0 := f 0 (by omega)
    have h1 := f 1 (by omega)
    have c := cst (hq [0] (by decide))
    simp [acol, ac] at h0 h1
    show _ ≤ S 1 _
    rw [S1']
    simp [agoal, cost, SI] at c ⊢
    have : y 0 = 1 := by grind
    rw [this, Rat.mul_one]; exact c
  · have f : ∀ j, j < 12 → ((ac 2 j : Int) : Rat) ≤ ((acol 2 j 0 : Int) : Rat) * y 0 + ((acol 2 j 1 : Int) : Rat) * y 1 + ((acol 2 j 2 : Int) : Rat) * y 2 + ((acol 2 j 3 : Int) : Rat) * y 3 := fun j hj => by rw [← S4 (fun k => ((acol 2 j k : Int) : Rat) * y k)]; exact hy j hj
    have h0 := f 0 (by omega)
    have h1 := f 1 (by omega)
    have h2 := f 2 (by omega)
    have h3 := f 3 (by omega)
    have h4 := f 4 (by omega)
    have h5 := f 5 (by omega)
    have h8 := f 8 (by omega)
    have h9 := f 9 (by omega)
    have c1 := cst (hq [1, 0] (by decide))
    have c2 := cst (hq [0, 1] (by decide))
    simp [acol, ac] at h0 h1 h2 h3 h4 h5 h8 h9
    show _ ≤ S 4 _
    rw [S4]
    simp [agoal, cost, SI, Rat.intCast_add] at c1 c2 ⊢
    exact low2 (by grind) (by grind) (by grind) (by grind) (by grind) c1 c2
  · have f : ∀ j, j < 21 → ((ac 3 j : Int) : Rat) ≤ ((acol 3 j 0 : Int) : Rat) * y 0 + ((acol 3 j 1 : Int) : Rat) * y 1 + ((acol 3 j 2 : Int) : Rat) * y 2 + ((acol 3 j 3 : Int) : Rat) * y 3 + ((acol 3 j 4 : Int) : Rat) * y 4 + ((acol 3 j 5 : Int) : Rat) * y 5 + ((acol 3 j 6 : Int) : Rat) * y 6 + ((acol 3 j 7 : Int) : Rat) * y 7 + ((acol 3 j 8 : Int) : Rat) * y 8 := fun j hj => by rw [← S9 (fun k => ((acol 3 j k : Int) : Rat) * y k)]; exact hy j hj
    have h0 := f 0 (by omega)
    have h1 := f 1 (by omega)
    have h2 := f 2 (by omega)
    have h3 := f 3 (by omega)
    have h4 := f 4 (by omega)
    have h5 := f 5 (by omega)
    have h6 := f 6 (by omega)
    have h7 := f 7 (by omega)
    have h8 := f 8 (by omega)
    have h9 := f 9 (by omega)
    have h10 := f 10 (by omega)
    have h11 := f 11 (by omega)
    have k0 := f 12 (by omega)
    have k1 := f 13 (by omega)
    have k2 := f 14 (by omega)
    have k3 := f 15 (by omega)
    have k4 := f 16 (by omega)
    have k5 := f 17 (by omega)
    have k6 := f 18 (by omega)
    have k7 := f 19 (by omega)
    have k8 := f 20 (by omega)
    have c1 := cst (hq [2, 1, 0] (by decide))
    have c2 := cst (hq [1, 2, 0] (by decide))
    have c3 := cst (hq [1, 0, 2] (by decide))
    have c4 := cst (hq [2, 0, 1] (by decide))
    have c5 := cst (hq [0, 2, 1] (by decide))
    have c6 := cst (hq [0, 1, 2] (by decide))
    simp [acol, ac] at h0 h1 h2 h3 h4 h5 h6 h7 h8 h9 h10 h11 k0 k1 k2 k3 k4 k5 k6 k7 k8
    show _ ≤ S 9 _
    rw [S9]
    simp [agoal, cost, SI, Rat.intCast_add] at c1 c2 c3 c4 c5 c6 ⊢
    clear hq hy f cst
    exact low3 (by grind) (by grind) (by grind) (by grind) (by grind) (by grind) (by grind) (by grind) (by grind) (by grind) (by grind) (by grind) (by grind) (by grind) (by grind) c1 c2 c3 c4 c5 c6
theorem assign_opt {s : Nat} {p : Nat → Nat → Int} {q : Int} {o : List Nat} (hs : s ∈ [1, 2, 3]) (ho : o ∈ perms s) (hqo : cost s p o = q) (hq : ∀ o, o ∈ perms s → q ≤ cost s p o) :
    Opt (s * s) (4 * s + s * s) (fun j k => ((acol s j k : Int) : Rat)) (fun k => ((agoal s p k : Int) : Rat)) (fun j => ((ac s j : Int) : Rat)) ((q : Int) : Rat) := by
  refine Opt.of (feas_int (pm_feas s hs o ho)) ?_ fun y hy => assign_low hs hq hy
  rw [S_int2, goal_pm p s hs o ho, hqo]
end LP


/-! The ways' system. -/
namespace LP
set_option linter.all false
set_option exponentiation.threshold 3000
set_option maxHeartbeats 4000000
abbrev Edge := Nat × Nat × Int
def big : Int := 1000000
def relax (v : Nat → Int) (e : Edge) : Nat → Int := if v e.1 < big ∧ v e.1 + e.2.2 < v e.2.1 then (fun k => if k = e.2.1 then v e.1 + e.2.2 else v k) else v
def round (es : List Edge) (v : Nat → Int) : Nat → Int := es.foldl relax v
def v0 (k : Nat) : Int := if k = 0 then 0 else big
def rounds (es : List Edge) : Nat → Nat → Int
  | 0 => v0
  | r + 1 => round es (rounds es r)
theorem relax_le (v : Nat → Int) (e : Edge) (k : Nat) : relax v e k ≤ v k := by
  unfold relax
  split
  · show (if k = e.2.1 then _ else _) ≤ _
    split
    · rename_i h1 h2; rw [h2]; omega
    · omega
  · omega
theorem fold_le : ∀ (es : List Edge) (v : Nat → Int) (k : Nat), es.foldl relax v k ≤ v k
  | [], _, _ => Int.le_refl _
  | e :: es, v, k => Int.le_trans (fold_le es (relax v e) k) (relax_le v e k)
theorem fold_edge : ∀ (es : List Edge) (v : Nat → Int) (e : Edge), e ∈ es → v e.1 < big → es.foldl relax v e.2.1 ≤ v e.1 + e.2.2
  | e' :: es, v, e, h, hb => by
    rcases List.mem_cons.mp h with rfl | h
    · refine Int.le_trans (fold_le es (relax v e) e.2.1) ?_
      unfold relax
      split
      · show (if e.2.1 = e.2.1 then _ else _) ≤ _
        rw [if_pos rfl]; exact Int.le_refl _
      · omega
    · have := relax_le v e' e.1
      have := fold_edge es (relax v e') e h (by omega)
      show es.foldl relax (relax v e') e.2.1 ≤ _
      omega
theorem fold_src : ∀ (es : List Edge) (v : Nat → Int) (k : Nat), es.foldl relax v k < v k → ∃ e, e ∈ es ∧ e.2.1 = k ∧ es.foldl relax v e.1 + e.2.2 ≤ es.foldl relax v k
  | [], v, k, h => by simp at h
  | e' :: es, v, k, h => by
    have h : es.foldl relax (relax v e') k < v k := h
    by_cases c : es.foldl relax (relax v e') k < relax v e' k
    · obtain ⟨e, h1, h2, h3⟩ := fold_src es (relax v e') k c
      exact ⟨e, List.mem_cons_of_mem _ h1, h2, h3⟩
    · have l1 := fold_le es (relax v e') k
      have e1 : es.foldl relax (relax v e') k = relax v e' k := by omega
      have h2 : relax v e' k < v k := by omega
      have l2 := fold_le es (relax v e') e'.1
      have l3 := relax_le v e' e'.1
      unfold relax at h2 e1
      split at h2
      · rename_i hc
        by_cases hk : k = e'.2.1
        · refine ⟨e', List.mem_cons_self, hk.symm, ?_⟩
          show es.foldl relax (relax v e') e'.1 + _ ≤ es.foldl relax (relax v e') k
          unfold relax at *
          rw [if_pos hc] at *
          rw [e1]
          show _ ≤ (if k = e'.2.1 then _ else _)
          rw [if_pos hk]
          omega
        · exfalso
          have h2 : (if k = e'.2.1 then v e'.1 + e'.2.2 else v k) < v k := h2
          rw [if_neg hk] at h2
          omega
      · exfalso; omega
theorem pigeonF : ∀ (N : Nat) (f : Nat → Nat), (∀ i, i ≤ N → f i < N) → ∃ i j, i < j ∧ j ≤ N ∧ f i = f j
  | 0, f, h => absurd (h 0 (Nat.le_refl 0)) (Nat.not_lt_zero _)
  | N + 1, f, h => by
    by_cases c : ∃ i, i ≤ N ∧ f i = f (N + 1)
    · obtain ⟨i, hi, e⟩ := c
      exact ⟨i, N + 1, by omega, Nat.le_refl _, e⟩
    · -- leave out f (N + 1)
      have c : ∀ i, i ≤ N → f i ≠ f (N + 1) := fun i hi e => c ⟨i, hi, e⟩
      have hl := h (N + 1) (Nat.le_refl _)
      obtain ⟨i, j, hij, hj, e⟩ := pigeonF N (fun i => if f i < f (N + 1) then f i else f i - 1) fun i hi => by
        have h1 := h i (by omega)
        have h2 := c i hi
        show (if f i < f (N + 1) then f i else f i - 1) < N
        split <;> omega
      refine ⟨i, j, hij, by omega, ?_⟩
      have e : (if f i < f (N + 1) then f i else f i - 1) = (if f j < f (N + 1) then f j else f j - 1) := e
      have h1 := c i (by omega)
      have h2 := c j hj
      split at e <;> split at e <;> omega
section
variable {n : Nat} {es : List Edge}
/-- edges between nodes below n, longer than 0 -/
def Ok (n : Nat) (es : List Edge) : Prop := ∀ e, e ∈ es → e.1 < n ∧ e.2.1 < n ∧ 1 ≤ e.2.2 ∧ e.2.2 ≤ 9
def Chg (es : List Edge) (r k : Nat) : Prop := rounds es (r + 1) k < rounds es r k
theorem relax_nn {v : Nat → Int} {e : Edge} (h : ∀ k, 0 ≤ v k) (he : 1 ≤ e.2.2) : ∀ k, 0 ≤ relax v e k := fun k => by
  unfold relax
  split
  · show 0 ≤ (if k = e.2.1 then _ else _)
    split
    · have := h e.1; omega
    · exact h k
  · exact h k
theorem fold_nn : ∀ (es : List Edge) (v : Nat → Int), (∀ e, e ∈ es → 1 ≤ e.2.2) → (∀ k, 0 ≤ v k) → ∀ k, 0 ≤ es.foldl relax v k
  | [], _, _, h => h
  | e :: es, v, he, h => fold_nn es (relax v e) (fun e' h' => he e' (List.mem_cons_of_mem _ h')) (relax_nn h (he e List.mem_cons_self))
theorem rounds_nn (ok : Ok n es) : ∀ r k, 0 ≤ rounds es r k
  | 0, k => by show 0 ≤ v0 k; unfold v0 big; split <;> omega
  | r + 1, k => fold_nn es _ (fun e he => (ok e he).2.2.1) (rounds_nn ok r) k
theorem rounds_0 (ok : Ok n es) : ∀ r, rounds es r 0 = 0
  | 0 => rfl
  | r + 1 => by
    have h1 := fold_le es (rounds es r) 0
    rw [rounds_0 ok r] at h1
    have h2 := rounds_nn ok (r + 1) 0
    exact Int.le_antisymm h1 h2
theorem chg_lt (ok : Ok n es) {r k : Nat} (h : Chg es r k) : k < n ∧ k ≠ 0 := by
  obtain ⟨e, he, hk, _⟩ := fold_src es (rounds es r) k h
  refine ⟨by rw [← hk]; exact (ok e he).2.1, fun z => ?_⟩
  subst z
  unfold Chg at h
  rw [rounds_0 ok, rounds_0 ok] at h
  omega
/-- among those that change in round r there is one of least length -/
theorem chg_min (ok : Ok n es) {r : Nat} (h : ∃ k, Chg es r k) : ∃ k, Chg es r k ∧ ∀ j, Chg es r j → rounds es (r + 1) k ≤ rounds es (r + 1) j := by
  obtain ⟨k, hk⟩ := h
  generalize hN : (rounds es (r + 1) k).toNat = N
  induction N using Nat.strongRecOn generalizing k with
  | ind N ih =>
    by_cases c : ∃ j, Chg es r j ∧ rounds es (r + 1) j < rounds es (r + 1) k
    · obtain ⟨j, hj, hl⟩ := c
      have := rounds_nn ok (r + 1) j
      exact ih _ (by omega) j hj rfl
    · exact ⟨k, hk, fun j hj => Int.not_lt.mp fun z => c ⟨j, hj, z⟩⟩
/-- behind a change in round r + 1 there is one in round r, shorter -/
theorem chg_prev (ok : Ok n es) {r k : Nat} (h : Chg es (r + 1) k) (hmin : ∀ j, Chg es (r + 1) j → rounds es (r + 2) k ≤ rounds es (r + 2) j) : ∃ a, Chg es r a ∧ rounds es (r + 1) a < rounds es (r + 2) k := by
  obtain ⟨e, he, hk, h3⟩ := fold_src es (rounds es (r + 1)) k h
  have h3 : rounds es (r + 2) e.1 + e.2.2 ≤ rounds es (r + 2) k := h3
  have hl := (ok e he).2.2.1
  -- e.1 did not change in round r + 1
  have n1 : ¬ Chg es (r + 1) e.1 := fun z => by
    have := hmin _ z
    omega
  have le1 := fold_le es (rounds es (r + 1)) e.1
  have le1 : rounds es (r + 2) e.1 ≤ rounds es (r + 1) e.1 := le1
  have e1 : rounds es (r + 2) e.1 = rounds es (r + 1) e.1 := by
    have n1 : ¬ rounds es (r + 2) e.1 < rounds es (r + 1) e.1 := n1
    omega
  refine ⟨e.1, ?_, by omega⟩
  refine Int.not_le.mp fun z => ?_
  -- else the edge was relaxed in round r
  have le0 : rounds es (r + 1) e.1 ≤ rounds es r e.1 := fold_le es (rounds es r) e.1
  have hb : rounds es r e.1 < big := by
    have : rounds es (r + 2) k < rounds es (r + 1) k := h
    have : rounds es (r + 1) k ≤ big := by
      have : ∀ r k, rounds es r k ≤ big := fun r => by
        induction r with
        | zero => intro k; show v0 k ≤ big; unfold v0 big; split <;> omega
        | succ r ih => intro k; exact Int.le_trans (fold_le es (rounds es r) k) (ih k)
      exact this _ _
    omega
  have := fold_edge es (rounds es r) e he hb
  rw [hk] at this
  have : rounds es (r + 1) k ≤ rounds es r e.1 + e.2.2 := this
  have : rounds es (r + 2) k < rounds es (r + 1) k := h
  omega
theorem rounds_mono (r : Nat) (d : Nat) (k : Nat) : rounds es (r + d) k ≤ rounds es r k := by
  induction d with
  | zero => exact Int.le_refl _
  | succ d ih => exact Int.le_trans (fold_le es (rounds es (r + d)) k) ih
theorem rounds_big (r k : Nat) : rounds es r k ≤ big := by
  have h1 := rounds_mono (es := es) 0 r k
  rw [Nat.zero_add] at h1
  refine Int.le_trans h1 ?_
  show v0 k ≤ big
  unfold v0 big; split <;> omega
/-- n rounds are enough -/
theorem no_chg (ok : Ok n es) (hn : 1 ≤ n) (k : Nat) : ¬ Chg es (n - 1) k := fun h => by
  -- in every round up to n - 1 one changes
  have all : ∀ d, d ≤ n - 1 → ∃ k, Chg es (n - 1 - d) k := fun d => by
    induction d with
    | zero => intro _; exact ⟨k, h⟩
    | succ d ih =>
      intro hd
      obtain ⟨k, hk, hm⟩ := chg_min ok (ih (by omega))
      have e : n - 1 - d = (n - 1 - (d + 1)) + 1 := by omega
      rw [e] at hk hm
      obtain ⟨a, ha, _⟩ := chg_prev ok hk hm
      exact ⟨a, ha⟩
  have all : ∀ r, r ≤ n - 1 → ∃ k, Chg es r k ∧ ∀ j, Chg es r j → rounds es (r + 1) k ≤ rounds es (r + 1) j := fun r hr => by
    have := all (n - 1 - r) (by omega)
    rw [show n - 1 - (n - 1 - r) = r by omega] at this
    exact chg_min ok this
  let ks : Nat → Nat := fun r => if hr : r ≤ n - 1 then Classical.choose (all r hr) else 0
  have hks : ∀ r, r ≤ n - 1 → Chg es r (ks r) ∧ ∀ j, Chg es r j → rounds es (r + 1) (ks r) ≤ rounds es (r + 1) j := fun r hr => by
    show Chg es r (if hr : r ≤ n - 1 then Classical.choose (all r hr) else 0) ∧ _
    have := Classical.choose_spec (all r hr)
    simp only [ks, dif_pos hr]
    exact this
  have up : ∀ r d, r + d + 1 ≤ n - 1 → rounds es (r + 1) (ks r) < rounds es (r + d + 2) (ks (r + d + 1)) := fun r d => by
    induction d with
    | zero =>
      intro hd
      obtain ⟨h1, h2⟩ := hks (r + 1) hd
      obtain ⟨a, ha, hl⟩ := chg_prev ok h1 h2
      have := (hks r (by omega)).2 a ha
      show rounds es (r + 1) (ks r) < rounds es (r + 2) (ks (r + 1))
      omega
    | succ d ih =>
      intro hd
      have := ih (by omega)
      obtain ⟨h1, h2⟩ := hks (r + d + 1 + 1) hd
      obtain ⟨a, ha, hl⟩ := chg_prev ok h1 h2
      have h3 : rounds es (r + d + 2) (ks (r + d + 1)) ≤ rounds es (r + d + 2) a := (hks (r + d + 1) (by omega)).2 a ha
      have hl : rounds es (r + d + 2) a < rounds es (r + d + 3) (ks (r + d + 2)) := hl
      show rounds es (r + 1) (ks r) < rounds es (r + d + 3) (ks (r + d + 2))
      omega
  obtain ⟨i, j, hij, hj, e⟩ := pigeonF (n - 1) (fun r => ks r - 1) fun r hr => by
    have := chg_lt ok (hks r hr).1
    show ks r - 1 < n - 1
    omega
  have e : ks i - 1 = ks j - 1 := e
  have c1 := chg_lt ok (hks i (by omega)).1
  have c2 := chg_lt ok (hks j hj).1
  have e : ks i = ks j := by omega
  have u := up i (j - i - 1) (by omega)
  rw [show i + (j - i - 1) + 1 = j by omega, show i + (j - i - 1) + 2 = j + 1 by omega, ← e] at u
  have := rounds_mono (es := es) (i + 1) (j - i) (ks i)
  rw [show i + 1 + (j - i) = j + 1 by omega] at this
  omega
/-- behind n rounds every edge is relaxed -/
theorem fixed (ok : Ok n es) (hn : 1 ≤ n) (e : Edge) (he : e ∈ es) : rounds es n e.2.1 ≤ rounds es n e.1 + e.2.2 := by
  have hl := (ok e he).2.2.1
  have e1 : rounds es n e.1 = rounds es (n - 1) e.1 := by
    have h1 := no_chg ok hn e.1
    have h2 := rounds_mono (es := es) (n - 1) 1 e.1
    unfold Chg at h1
    rw [show n - 1 + 1 = n by omega] at h1 h2
    omega
  by_cases hb : rounds es (n - 1) e.1 < big
  · have := fold_edge es (rounds es (n - 1)) e he hb
    have h2 : rounds es (n - 1 + 1) e.2.1 ≤ rounds es (n - 1) e.1 + e.2.2 := this
    rw [show n - 1 + 1 = n by omega] at h2
    omega
  · have := rounds_big (es := es) n e.2.1
    omega
/-! ### the system -/
def wcol (es : List Edge) (j k : Nat) : Int :=
  if j < es.length then (if (es.getD j (0, 0, 0)).1 = k then 1 else 0) + (if (es.getD j (0, 0, 0)).2.1 = k then -1 else 0) else if j = es.length then (if 0 = k then 1 else 0) else (if 0 = k then -1 else 0)
def wc (es : List Edge) (j : Nat) : Int := if j < es.length then 0 - (es.getD j (0, 0, 0)).2.2 else 0
def wgoal (n k : Nat) : Int := if n - 1 = k then -1 else 0
theorem S_ind {n a : Nat} (ha : a < n) (x : Int) (y : Nat → Rat) : S n (fun k => (((if a = k then x else 0 : Int) : Int) : Rat) * y k) = (x : Rat) * y a := by
  rw [S_one ha]
  · rw [if_pos rfl]
  · intro i _ hne
    rw [if_neg (Ne.symm hne)]
    exact Rat.zero_mul _
theorem S_two {n a b : Nat} (ha : a < n) (hb : b < n) (x z : Int) (y : Nat → Rat) : S n (fun k => (((if a = k then x else 0) + (if b = k then z else 0) : Int) : Rat) * y k) = (x : Rat) * y a + (z : Rat) * y b := by
  rw [← S_ind ha, ← S_ind hb, ← S_add]
  exact S_congr fun k _ => by rw [Rat.intCast_add]; grind
theorem wfeas (ok : Ok n es) (hn : 1 ≤ n) {y : Nat → Rat} : Feasible n (es.length + 2) (fun j k => ((wcol es j k : Int) : Rat)) (fun j => ((wc es j : Int) : Rat)) y ↔ (∀ e, e ∈ es → y e.2.1 ≤ y e.1 + (e.2.2 : Rat)) ∧ y 0 = 0 := by
  have one : ((1 : Int) : Rat) = 1 := rfl
  have mone : ((-1 : Int) : Rat) = -1 := rfl
  have row : ∀ (j : Nat) (e : Edge), es[j]? = some e → (S n fun k => ((wcol es j k : Int) : Rat) * y k) = y e.1 - y e.2.1 ∧ ((wc es j : Int) : Rat) = - (e.2.2 : Rat) := fun j e h => by
    have hj : j < es.length := (List.getElem?_eq_some_iff.mp h).1
    have hd : es.getD j (0, 0, 0) = e := by rw [List.getD_eq_getElem?_getD, h]; rfl
    obtain ⟨h1, h2, _⟩ := ok e (List.mem_of_getElem? h)
    unfold wcol wc
    simp only [if_pos hj, hd]
    rw [S_two h1 h2, one, mone, Rat.intCast_sub, Rat.intCast_zero]
    constructor <;> grind
  have r1 : (S n fun k => ((wcol es es.length k : Int) : Rat) * y k) = y 0 := by
    have e : ∀ k, wcol es es.length k = if 0 = k then 1 else 0 := fun k => by unfold wcol; rw [if_neg (Nat.lt_irrefl es.length), if_pos rfl]
    rw [S_congr (g := fun k => (((if 0 = k then 1 else 0 : Int) : Int) : Rat) * y k) fun k _ => by rw [e k], S_ind (by omega), one, Rat.one_mul]
  have r2 : (S n fun k => ((wcol es (es.length + 1) k : Int) : Rat) * y k) = - y 0 := by
    have e : ∀ k, wcol es (es.length + 1) k = if 0 = k then -1 else 0 := fun k => by unfold wcol; rw [if_neg (show ¬ es.length + 1 < es.length by omega), if_neg (show ¬ es.length + 1 = es.length by omega)]
    rw [S_congr (g := fun k => (((if 0 = k then -1 else 0 : Int) : Int) : Rat) * y k) fun k _ => by rw [e k], S_ind (by omega), mone]; grind
  have z1 : ((wc es es.length : Int) : Rat) = 0 := by unfold wc; rw [if_neg (Nat.lt_irrefl _)]; rfl
  have z2 : ((wc es (es.length + 1) : Int) : Rat) = 0 := by unfold wc; rw [if_neg (by omega)]; rfl
  constructor
  · intro h
    refine ⟨fun e he => ?_, ?_⟩
    · obtain ⟨j, hj⟩ := List.getElem?_of_mem he
      have hl : j < es.length := (List.getElem?_eq_some_iff.mp hj).1
      have this : ((wc es j : Int) : Rat) ≤ S n fun k => ((wcol es j k : Int) : Rat) * y k := h j (by omega)
      obtain ⟨a, b⟩ := row j e hj
      rw [a, b] at this
      grind
    · have h1 : ((wc es es.length : Int) : Rat) ≤ S n fun k => ((wcol es es.length k : Int) : Rat) * y k := h es.length (by omega)
      have h2 : ((wc es (es.length + 1) : Int) : Rat) ≤ S n fun k => ((wcol es (es.length + 1) k : Int) : Rat) * y k := h (es.length + 1) (by omega)
      rw [r1, z1] at h1
      rw [r2, z2] at h2
      grind
  · rintro ⟨h1, h2⟩ j hj
    by_cases hl : j < es.length
    · have he := List.getElem?_eq_getElem hl
      generalize es[j] = e at he
      obtain ⟨a, b⟩ := row j e he
      have := h1 e (List.mem_of_getElem? he)
      show ((wc es j : Int) : Rat) ≤ S n fun k => ((wcol es j k : Int) : Rat) * y k
      rw [a, b]
      grind
    · by_cases hl2 : j = es.length
      · subst hl2
        show ((wc es es.length : Int) : Rat) ≤ S n fun k => ((wcol es es.length k : Int) : Rat) * y k
        rw [r1, z1, h2]; exact Rat.le_refl
      · have : j = es.length + 1 := by omega
        subst this
        show ((wc es (es.length + 1) : Int) : Rat) ≤ S n fun k => ((wcol es (es.length + 1) k : Int) : Rat) * y k
        rw [r2, z2, h2]; grind
theorem sound {y : Nat → Rat} : ∀ (es' : List Edge) (v : Nat → Int), (∀ e, e ∈ es' → y e.2.1 ≤ y e.1 + (e.2.2 : Rat)) → (∀ k, v k < big → y k ≤ (v k : Rat)) → ∀ k, es'.foldl relax v k < big → y k ≤ (es'.foldl relax v k : Rat)
  | [], _, _, h => h
  | e :: es', v, he, h => sound es' (relax v e) (fun e' h' => he e' (List.mem_cons_of_mem _ h')) fun k hk => by
    unfold relax at hk ⊢
    split
    · rename_i c
      rw [if_pos c] at hk
      show y k ≤ ((if k = e.2.1 then v e.1 + e.2.2 else v k : Int) : Rat)
      have hk : (if k = e.2.1 then v e.1 + e.2.2 else v k) < big := hk
      by_cases q : k = e.2.1
      · rw [if_pos q]
        have h1 := he e List.mem_cons_self
        have h2 := h e.1 c.1
        rw [q, Rat.intCast_add]
        grind
      · rw [if_neg q] at hk ⊢
        exact h k hk
    · rename_i c
      rw [if_neg c] at hk
      exact h k hk
theorem rounds_sound {y : Nat → Rat} (hy : ∀ e, e ∈ es → y e.2.1 ≤ y e.1 + (e.2.2 : Rat)) (h0 : y 0 = 0) : ∀ r k, rounds es r k < big → y k ≤ (rounds es r k : Rat)
  | 0, k, h => by
    have h : v0 k < big := h
    show y k ≤ (v0 k : Rat)
    unfold v0 at h ⊢
    by_cases q : k = 0
    · rw [if_pos q, q, h0]; exact Rat.le_refl
    · rw [if_neg q] at h; exact absurd h (Int.lt_irrefl _)
  | r + 1, k, h => sound es _ hy (rounds_sound hy h0 r) k h
theorem relax_fin {v : Nat → Int} {e : Edge} {B : Int} (h : ∀ k, v k < big → v k ≤ B) (he : e.2.2 ≤ 9) (hB : 0 ≤ B) : ∀ k, relax v e k < big → relax v e k ≤ B + 9 := fun k hk => by
  unfold relax at hk ⊢
  split
  · rename_i c
    rw [if_pos c] at hk
    show (if k = e.2.1 then _ else _) ≤ _
    have hk : (if k = e.2.1 then v e.1 + e.2.2 else v k) < big := hk
    by_cases q : k = e.2.1
    · rw [if_pos q]; have := h e.1 c.1; omega
    · rw [if_neg q] at hk ⊢; have := h k hk; omega
  · rename_i c
    rw [if_neg c] at hk
    have := h k hk; omega
theorem fold_fin : ∀ (es' : List Edge) (v : Nat → Int) (B : Int), (∀ e, e ∈ es' → e.2.2 ≤ 9) → 0 ≤ B → (∀ k, v k < big → v k ≤ B) → ∀ k, es'.foldl relax v k < big → es'.foldl relax v k ≤ B + 9 * (es'.length : Int)
  | [], v, B, _, _, h => fun k hk => by have := h k hk; show v k ≤ B + 9 * ((0 : Nat) : Int); omega
  | e :: es', v, B, he, hB, h => fun k hk => by
    have := fold_fin es' (relax v e) (B + 9) (fun e' h' => he e' (List.mem_cons_of_mem _ h')) (by omega) (relax_fin h (he e List.mem_cons_self) hB) k hk
    show es'.foldl relax (relax v e) k ≤ _
    rw [List.length_cons]; omega
theorem rounds_fin (ok : Ok n es) : ∀ r k, rounds es r k < big → rounds es r k ≤ 9 * ((es.length * r : Nat) : Int)
  | 0, k, h => by
    have h : v0 k < big := h
    show v0 k ≤ _
    unfold v0 at h ⊢
    by_cases q : k = 0
    · rw [if_pos q]; omega
    · rw [if_neg q] at h; exact absurd h (Int.lt_irrefl _)
  | r + 1, k, h => by
    have := fold_fin es (rounds es r) (9 * ((es.length * r : Nat) : Int)) (fun e he => (ok e he).2.2.2) (by omega) (rounds_fin ok r) k h
    have e : es.length * (r + 1) = es.length * r + es.length := Nat.mul_succ _ _
    rw [e]
    show es.foldl relax (rounds es r) k ≤ _
    omega
theorem goal_w (hn : 1 ≤ n) (y : Nat → Rat) : (S n fun k => ((wgoal n k : Int) : Rat) * y k) = - y (n - 1) := by
  unfold wgoal
  rw [S_ind (by omega)]
  show (-1 : Rat) * _ = _
  grind
theorem ways_feas (ok : Ok n es) (hn : 1 ≤ n) : Feasible n (es.length + 2) (fun j k => ((wcol es j k : Int) : Rat)) (fun j => ((wc es j : Int) : Rat)) (fun k => (rounds es n k : Rat)) := by
  rw [wfeas ok hn]
  refine ⟨fun e he => ?_, by show ((rounds es n 0 : Int) : Rat) = 0; rw [rounds_0 ok]; rfl⟩
  rw [← Rat.intCast_add]
  exact Rat.intCast_le_intCast.mpr (fixed ok hn e he)
theorem ways_opt (ok : Ok n es) (hn : 1 ≤ n) (h : rounds es n (n - 1) < big) : Opt n (es.length + 2) (fun j k => ((wcol es j k : Int) : Rat)) (fun k => ((wgoal n k : Int) : Rat)) (fun j => ((wc es j : Int) : Rat)) (((0 - rounds es n (n - 1) : Int)) : Rat) := by
  refine Opt.of (ways_feas ok hn) ?_ fun y hy => ?_
  · rw [goal_w hn, Rat.intCast_sub, Rat.intCast_zero]; grind
  · rw [goal_w hn, Rat.intCast_sub, Rat.intCast_zero]
    rw [wfeas ok hn] at hy
    have := rounds_sound hy.1 hy.2 n (n - 1) h
    grind
theorem ways_unb (ok : Ok n es) (hn : 1 ≤ n) (hl : es.length * n ≤ 1000) (h : ¬ rounds es n (n - 1) < big) : Unb n (es.length + 2) (fun j k => ((wcol es j k : Int) : Rat)) (fun k => ((wgoal n k : Int) : Rat)) (fun j => ((wc es j : Int) : Rat)) := by
  refine ⟨⟨_, ways_feas ok hn⟩, ?_⟩
  · refine ⟨fun k => if rounds es n k < big then 0 else 1, fun j hj => ?_, ?_⟩
    · have row : ∀ (j : Nat) (e : Edge) (y : Nat → Rat), es[j]? = some e → (S n fun k => ((wcol es j k : Int) : Rat) * y k) = y e.1 - y e.2.1 := fun j e y h => by
        have hj : j < es.length := (List.getElem?_eq_some_iff.mp h).1
        have hd : es.getD j (0, 0, 0) = e := by rw [List.getD_eq_getElem?_getD, h]; rfl
        obtain ⟨h1, h2, _⟩ := ok e (List.mem_of_getElem? h)
        unfold wcol
        simp only [if_pos hj, hd]
        rw [S_two h1 h2]
        show (1 : Rat) * _ + (-1 : Rat) * _ = _
        grind
      have r0 : rounds es n 0 < big := by rw [rounds_0 ok]; decide
      by_cases hl' : j < es.length
      · have he := List.getElem?_eq_getElem hl'
        generalize es[j] = e at he
        rw [row j e _ he]
        have hm := List.mem_of_getElem? he
        by_cases c : rounds es n e.1 < big
        · have h1 := fixed ok hn e hm
          have h2 := rounds_fin ok n e.1 c
          have h3 := (ok e hm).2.2.2
          have c2 : rounds es n e.2.1 < big := by unfold big at *; omega
          simp only [if_pos c, if_pos c2]; grind
        · simp only [if_neg c]
          split <;> grind
      · have e0 : ∀ x : Int, (S n fun k => (((if 0 = k then x else 0 : Int)) : Rat) * (if rounds es n k < big then 0 else 1 : Rat)) = 0 := fun x => by
          rw [S_ind (by omega), if_pos r0]; grind
        unfold wcol
        simp only [if_neg hl']
        by_cases hl2 : j = es.length
        · simp only [if_pos hl2]; rw [e0]; exact Rat.le_refl
        · simp only [if_neg hl2]; rw [e0]; exact Rat.le_refl
    · rw [goal_w hn]
      simp only [if_neg h]; decide
end
end LP


/-! The flow's system. -/
namespace LP
set_option linter.all false
set_option exponentiation.threshold 3000
set_option maxHeartbeats 4000000
def ed (es : List Edge) (k : Nat) : Edge := es.getD k (0, 0, 0)
def dlt (e : Edge) (t : Nat) : Int := (if e.2.1 = t then 1 else 0) - (if e.1 = t then 1 else 0)
def fcol (es : List Edge) (j k : Nat) : Int :=
  if j < 2 * es.length then (if j / 2 = k then (if j % 2 = 0 then 1 else -1) else 0) else (if (j - 2 * es.length) % 2 = 0 then dlt (ed es k) ((j - 2 * es.length) / 2 + 1) else 0 - dlt (ed es k) ((j - 2 * es.length) / 2 + 1))
def fc (es : List Edge) (j : Nat) : Int := if j < 2 * es.length then (if j % 2 = 0 then 0 else 0 - (ed es (j / 2)).2.2) else 0
def fgoal (es : List Edge) (k : Nat) : Int := if (ed es k).1 = 0 then -1 else 0
def sidesF : Nat → List (List Nat)
  | 2 => [[0]]
  | 3 => [[0], [0, 1]]
  | 4 => [[0], [0, 1], [0, 2], [0, 1, 2]]
  | _ => []
def cutI (es : List Edge) (side : List Nat) : Int := (es.map fun e => if e.1 ∈ side ∧ e.2.1 ∉ side then e.2.2 else 0).sum
def FOk (s : Nat) (es : List Edge) : Prop := ∀ e, e ∈ es → e.1 < s - 1 ∧ e.2.1 < s ∧ e.2.1 ≠ 0 ∧ e.1 ≠ e.2.1 ∧ 0 ≤ e.2.2 ∧ e.2.2 ≤ 7
theorem S_list (es : List Edge) (f : Edge → Int) : S es.length (fun k => ((f (ed es k) : Int) : Rat)) = (((es.map f).sum : Int) : Rat) := by
  have h : ∀ n, n ≤ es.length → S n (fun k => ((f (ed es k) : Int) : Rat)) = ((((es.take n).map f).sum : Int) : Rat) := fun n => by
    induction n with
    | zero => intro _; rfl
    | succ n ih =>
      intro hn
      show S n _ + _ = _
      rw [ih (by omega)]
      have e : es[n]? = some es[n] := List.getElem?_eq_getElem (by omega)
      rw [List.take_succ, e, List.map_append, List.sum_append, Rat.intCast_add]
      have : ed es n = es[n] := by unfold ed; rw [List.getD_eq_getElem?_getD, e]; rfl
      show _ + ((f (ed es n) : Int) : Rat) = _
      rw [this]; simp
  have := h es.length (Nat.le_refl _)
  rw [List.take_length] at this
  exact this
theorem S_pairs : ∀ (N : Nat) (f : Nat → Rat), S (2 * N) f = S N (fun k => f (2 * k) + f (2 * k + 1))
  | 0, _ => rfl
  | N + 1, f => by
    show S (2 * N) f + f (2 * N) + f (2 * N + 1) = S N (fun k => f (2 * k) + f (2 * k + 1)) + (f (2 * N) + f (2 * N + 1))
    rw [S_pairs N f]; grind
section
variable {s : Nat} {es : List Edge}
theorem ed_mem {k : Nat} (hk : k < es.length) : ed es k ∈ es := by
  unfold ed
  rw [List.getD_eq_getElem?_getD, List.getElem?_eq_getElem hk]
  exact List.getElem_mem hk
/-- the rows at a point -/
theorem frow {y : Nat → Rat} {k : Nat} (hk : k < es.length) : (S es.length fun l => ((fcol es (2 * k) l : Int) : Rat) * y l) = y k ∧ (S es.length fun l => ((fcol es (2 * k + 1) l : Int) : Rat) * y l) = - y k := by
  have e1 : ∀ l, fcol es (2 * k) l = if k = l then 1 else 0 := fun l => by
    unfold fcol
    rw [if_pos (by omega), show 2 * k / 2 = k by omega, show 2 * k % 2 = 0 by omega, if_pos rfl]
  have e2 : ∀ l, fcol es (2 * k + 1) l = if k = l then -1 else 0 := fun l => by
    unfold fcol
    rw [if_pos (by omega), show (2 * k + 1) / 2 = k by omega, show (2 * k + 1) % 2 = 1 by omega, if_neg (show ¬ (1 : Nat) = 0 by omega)]
  constructor
  · rw [S_congr (g := fun l => (((if k = l then 1 else 0 : Int) : Int) : Rat) * y l) fun l _ => by rw [e1 l], S_ind hk]
    show (1 : Rat) * _ = _; grind
  · rw [S_congr (g := fun l => (((if k = l then -1 else 0 : Int) : Int) : Rat) * y l) fun l _ => by rw [e2 l], S_ind hk]
    show (-1 : Rat) * _ = _; grind
theorem fcons (t l : Nat) : fcol es (2 * es.length + 2 * t) l = dlt (ed es l) (t + 1) ∧ fcol es (2 * es.length + 2 * t + 1) l = 0 - dlt (ed es l) (t + 1) := by
  unfold fcol
  constructor
  · rw [if_neg (by omega), show 2 * es.length + 2 * t - 2 * es.length = 2 * t by omega, show 2 * t % 2 = 0 by omega, if_pos rfl, show 2 * t / 2 = t by omega]
  · rw [if_neg (by omega), show 2 * es.length + 2 * t + 1 - 2 * es.length = 2 * t + 1 by omega, show (2 * t + 1) % 2 = 1 by omega, if_neg (show ¬ (1 : Nat) = 0 by omega), show (2 * t + 1) / 2 = t by omega]
theorem fcs (k t : Nat) (hk : k < es.length) : fc es (2 * k) = 0 ∧ fc es (2 * k + 1) = 0 - (ed es k).2.2 ∧ fc es (2 * es.length + 2 * t) = 0 ∧ fc es (2 * es.length + 2 * t + 1) = 0 := by
  unfold fc
  refine ⟨?_, ?_, ?_, ?_⟩
  · rw [if_pos (by omega), if_pos (by omega)]
  · rw [if_pos (by omega), if_neg (by omega), show (2 * k + 1) / 2 = k by omega]
  · rw [if_neg (by omega)]
  · rw [if_neg (by omega)]
/-- what is between the bounds and kept at the inner nodes -/
theorem ffeas {y : Nat → Rat} (h : Feasible es.length (2 * es.length + 2 * (s - 2)) (fun j k => ((fcol es j k : Int) : Rat)) (fun j => ((fc es j : Int) : Rat)) y) :
    (∀ k, k < es.length → 0 ≤ y k ∧ y k ≤ ((ed es k).2.2 : Rat)) ∧ ∀ t, t < s - 2 → (S es.length fun l => ((dlt (ed es l) (t + 1) : Int) : Rat) * y l) = 0 := by
  refine ⟨fun k hk => ?_, fun t ht => ?_⟩
  · have h1 : ((fc es (2 * k) : Int) : Rat) ≤ S es.length fun l => ((fcol es (2 * k) l : Int) : Rat) * y l := h (2 * k) (by omega)
    have h2 : ((fc es (2 * k + 1) : Int) : Rat) ≤ S es.length fun l => ((fcol es (2 * k + 1) l : Int) : Rat) * y l := h (2 * k + 1) (by omega)
    rw [(frow hk).1, (fcs k 0 hk).1, Rat.intCast_zero] at h1
    rw [(frow hk).2, (fcs k 0 hk).2.1, Rat.intCast_sub, Rat.intCast_zero] at h2
    exact ⟨h1, by grind⟩
  · have h1 : ((fc es (2 * es.length + 2 * t) : Int) : Rat) ≤ S es.length fun l => ((fcol es (2 * es.length + 2 * t) l : Int) : Rat) * y l := h _ (by omega)
    have h2 : ((fc es (2 * es.length + 2 * t + 1) : Int) : Rat) ≤ S es.length fun l => ((fcol es (2 * es.length + 2 * t + 1) l : Int) : Rat) * y l := h _ (by omega)
    have z1 : fc es (2 * es.length + 2 * t) = 0 := by unfold fc; rw [if_neg (by omega)]
    have z2 : fc es (2 * es.length + 2 * t + 1) = 0 := by unfold fc; rw [if_neg (by omega)]
    rw [z1, Rat.intCast_zero, S_congr (g := fun l => ((dlt (ed es l) (t + 1) : Int) : Rat) * y l) fun l _ => by rw [(fcons t l).1]] at h1
    rw [z2, Rat.intCast_zero, S_congr (g := fun l => (-1) * (((dlt (ed es l) (t + 1) : Int) : Rat) * y l)) fun l _ => by rw [(fcons t l).2, Rat.intCast_sub, Rat.intCast_zero]; grind, S_mul] at h2
    exact Rat.le_antisymm (by grind) h1
def ind (side : List Nat) (t : Nat) : Rat := if t ∈ side then 1 else 0
theorem S_at {n a : Nat} (ha : a < n) (f : Nat → Rat) : S n (fun t => f t * (((if a = t then 1 else 0 : Int)) : Rat)) = f a := by
  rw [S_one ha]
  · rw [if_pos rfl]; show f a * 1 = _; grind
  · intro i _ hne
    rw [if_neg (Ne.symm hne)]; show f i * 0 = _; grind
theorem dlt_side (side : List Nat) {e : Edge} (h1 : e.1 < s) (h2 : e.2.1 < s) : S s (fun t => ind side t * ((dlt e t : Int) : Rat)) = ind side e.2.1 - ind side e.1 := by
  rw [← S_at h1 (ind side), ← S_at h2 (ind side), ← S_sub]
  exact S_congr fun t _ => by unfold dlt; rw [Rat.intCast_sub]; grind
/-- no flow is more than a cut -/
theorem flow_le {y : Nat → Rat} (ok : FOk s es) (hs : 2 ≤ s) (side : List Nat) (z0 : 0 ∈ side) (zt : s - 1 ∉ side)
    (hy : ∀ k, k < es.length → 0 ≤ y k ∧ y k ≤ ((ed es k).2.2 : Rat)) (hc : ∀ t, t < s - 2 → (S es.length fun l => ((dlt (ed es l) (t + 1) : Int) : Rat) * y l) = 0) :
    0 - ((cutI es side : Int) : Rat) ≤ S es.length fun k => ((fgoal es k : Int) : Rat) * y k := by
  -- by nodes
  have e1 : (S es.length fun k => (ind side (ed es k).2.1 - ind side (ed es k).1) * y k) = S s fun t => ind side t * S es.length fun k => ((dlt (ed es k) t : Int) : Rat) * y k := by
    have : (S s fun t => ind side t * S es.length fun k => ((dlt (ed es k) t : Int) : Rat) * y k) = S s fun t => S es.length fun k => ind side t * ((dlt (ed es k) t : Int) : Rat) * y k := S_congr fun t _ => by
      rw [← S_mul]; exact S_congr fun k _ => by grind
    rw [this, S_comm]
    refine S_congr fun k hk => ?_
    obtain ⟨a, b, _⟩ := ok _ (ed_mem hk)
    rw [S_mulr, dlt_side side (by omega) b]
  have e2 : (S s fun t => ind side t * S es.length fun k => ((dlt (ed es k) t : Int) : Rat) * y k) = S es.length fun k => ((fgoal es k : Int) : Rat) * y k := by
    rw [S_one (c := 0) (by omega)]
    · rw [show ind side 0 = 1 from if_pos z0, Rat.one_mul]
      refine S_congr fun k hk => ?_
      obtain ⟨_, _, c, _⟩ := ok _ (ed_mem hk)
      show ((dlt (ed es k) 0 : Int) : Rat) * y k = ((fgoal es k : Int) : Rat) * y k
      congr 2
      unfold dlt fgoal
      rw [if_neg c]
      split <;> rfl
    · intro t ht hne
      by_cases q : t = s - 1
      · subst q
        rw [show ind side (s - 1) = 0 from if_neg zt, Rat.zero_mul]
      · have := hc (t - 1) (by omega)
        rw [show t - 1 + 1 = t by omega] at this
        rw [this, Rat.mul_zero]
  rw [← e2, ← e1]
  have e3 : (0 : Rat) - ((cutI es side : Int) : Rat) = S es.length fun k => (-1) * (((if (ed es k).1 ∈ side ∧ (ed es k).2.1 ∉ side then (ed es k).2.2 else 0 : Int)) : Rat) := by
    rw [S_mul, S_list es (fun e => if e.1 ∈ side ∧ e.2.1 ∉ side then e.2.2 else 0)]
    show (0 : Rat) - _ = -1 * _
    unfold cutI; grind
  rw [e3]
  refine S_le fun k hk => ?_
  obtain ⟨y1, y2⟩ := hy k hk
  unfold ind
  by_cases a : (ed es k).1 ∈ side
  · by_cases b : (ed es k).2.1 ∈ side
    · rw [if_neg (fun z => z.2 b), if_pos a, if_pos b, Rat.intCast_zero]; grind
    · rw [if_pos ⟨a, b⟩, if_pos a, if_neg b]; grind
  · rw [if_neg (fun z => a z.1), if_neg a, Rat.intCast_zero]
    split <;> grind
/-- a split of 1 among three cuts -/
structure Lev (s : Nat) (rho : Nat → Rat) (A1 A2 A3 : List Nat) (w1 w2 w3 : Rat) : Prop where
  n1 : 0 ≤ w1
  n2 : 0 ≤ w2
  n3 : 0 ≤ w3
  one : w1 + w2 + w3 = 1
  le : ∀ i j, i < s → j < s → w1 * (if i ∈ A1 ∧ j ∉ A1 then 1 else 0) + w2 * (if i ∈ A2 ∧ j ∉ A2 then 1 else 0) + w3 * (if i ∈ A3 ∧ j ∉ A3 then 1 else 0) ≤ (if rho i ≤ rho j then rho j - rho i else 0)
theorem pp (A : List Nat) (i j : Nat) : (if i ∈ A ∧ j ∉ A then (1 : Rat) else 0) = if i ∈ A then (if j ∈ A then 0 else 1) else 0 := by
  by_cases a : i ∈ A <;> by_cases b : j ∈ A <;> simp [a, b]
theorem levels {rho : Nat → Rat} (hs : s ∈ [2, 3, 4]) (h0 : rho 0 = -1) (ht : rho (s - 1) = 0) (hb : ∀ t, t < s → -1 ≤ rho t ∧ rho t ≤ 0) : ∃ A1 A2 A3 w1 w2 w3, A1 ∈ sidesF s ∧ A2 ∈ sidesF s ∧ A3 ∈ sidesF s ∧ Lev s rho A1 A2 A3 w1 w2 w3 := by
  simp only [List.mem_cons, List.not_mem_nil, or_false] at hs
  rcases hs with rfl | rfl | rfl
  · refine ⟨[0], [0], [0], 1, 0, 0, by decide, by decide, by decide, by decide, by decide, by decide, by grind, fun i j hi hj => ?_⟩
    have ht : rho 1 = 0 := ht
    have hi : i = 0 ∨ i = 1 := by omega
    have hj : j = 0 ∨ j = 1 := by omega
    rcases hi with rfl | rfl <;> rcases hj with rfl | rfl <;> simp [h0, ht] <;> grind
  · have ht : rho 2 = 0 := ht
    obtain ⟨b1, b2⟩ := hb 1 (by omega)
    generalize hr : rho 1 = a at b1 b2
    refine ⟨[0], [0, 1], [0], a + 1, -a, 0, by decide, by decide, by decide, by grind, by grind, by decide, by grind, fun i j hi hj => ?_⟩
    have hi : i = 0 ∨ i = 1 ∨ i = 2 := by omega
    have hj : j = 0 ∨ j = 1 ∨ j = 2 := by omega
    rcases hi with rfl | rfl | rfl <;> rcases hj with rfl | rfl | rfl <;> simp [h0, ht, hr] <;> grind
  · have ht : rho 3 = 0 := ht
    obtain ⟨b1, b2⟩ := hb 1 (by omega)
    obtain ⟨b3, b4⟩ := hb 2 (by omega)
    generalize hr : rho 1 = a at b1 b2
    generalize hr2 : rho 2 = b at b3 b4
    by_cases c : a ≤ b
    · refine ⟨[0], [0, 1], [0, 1, 2], a + 1, b - a, -b, by decide, by decide, by decide, by grind, by grind, by grind, by grind, fun i j hi hj => ?_⟩
      have hi : i = 0 ∨ i = 1 ∨ i = 2 ∨ i = 3 := by omega
      have hj : j = 0 ∨ j = 1 ∨ j = 2 ∨ j = 3 := by omega
      rcases hi with rfl | rfl | rfl | rfl <;> rcases hj with rfl | rfl | rfl | rfl <;> simp [h0, ht, hr, hr2] <;> grind
    · refine ⟨[0], [0, 2], [0, 1, 2], b + 1, a - b, -a, by decide, by decide, by decide, by grind, by grind, by grind, by grind, fun i j hi hj => ?_⟩
      have hi : i = 0 ∨ i = 1 ∨ i = 2 ∨ i = 3 := by omega
      have hj : j = 0 ∨ j = 1 ∨ j = 2 ∨ j = 3 := by omega
      rcases hi with rfl | rfl | rfl | rfl <;> rcases hj with rfl | rfl | rfl | rfl <;> simp [h0, ht, hr, hr2] <;> grind
theorem cut_rat (side : List Nat) : ((cutI es side : Int) : Rat) = S es.length fun k => ((ed es k).2.2 : Rat) * (if (ed es k).1 ∈ side ∧ (ed es k).2.1 ∉ side then 1 else 0) := by
  unfold cutI
  rw [← S_list es (fun e => if e.1 ∈ side ∧ e.2.1 ∉ side then e.2.2 else 0)]
  refine S_congr fun k _ => ?_
  split
  · grind
  · rw [Rat.intCast_zero]; grind
/-- the least cut is not more than what the heights ask for -/
theorem cut_le {rho : Nat → Rat} {C : Int} (ok : FOk s es) (hs : s ∈ [2, 3, 4]) (h0 : rho 0 = -1) (ht : rho (s - 1) = 0) (hb : ∀ t, t < s → -1 ≤ rho t ∧ rho t ≤ 0) (hC : ∀ A, A ∈ sidesF s → C ≤ cutI es A) :
    (C : Rat) ≤ S es.length fun k => ((ed es k).2.2 : Rat) * (if rho (ed es k).1 ≤ rho (ed es k).2.1 then rho (ed es k).2.1 - rho (ed es k).1 else 0) := by
  obtain ⟨A1, A2, A3, w1, w2, w3, m1, m2, m3, lev⟩ := levels hs h0 ht hb
  have c1 : (C : Rat) ≤ ((cutI es A1 : Int) : Rat) := Rat.intCast_le_intCast.mpr (hC A1 m1)
  have c2 : (C : Rat) ≤ ((cutI es A2 : Int) : Rat) := Rat.intCast_le_intCast.mpr (hC A2 m2)
  have c3 : (C : Rat) ≤ ((cutI es A3 : Int) : Rat) := Rat.intCast_le_intCast.mpr (hC A3 m3)
  have h1 : (C : Rat) ≤ w1 * ((cutI es A1 : Int) : Rat) + w2 * ((cutI es A2 : Int) : Rat) + w3 * ((cutI es A3 : Int) : Rat) := by
    have x1 := Rat.mul_nonneg lev.n1 (show 0 ≤ ((cutI es A1 : Int) : Rat) - (C : Rat) by grind)
    have x2 := Rat.mul_nonneg lev.n2 (show 0 ≤ ((cutI es A2 : Int) : Rat) - (C : Rat) by grind)
    have x3 := Rat.mul_nonneg lev.n3 (show 0 ≤ ((cutI es A3 : Int) : Rat) - (C : Rat) by grind)
    refine five x1 x2 x3 Rat.le_refl Rat.le_refl ?_
    rw [← lev.one]; grind
  refine Rat.le_trans h1 ?_
  rw [cut_rat, cut_rat, cut_rat, ← S_mul, ← S_mul, ← S_mul, ← S_add, ← S_add]
  refine S_le fun k hk => ?_
  obtain ⟨a, b, _, _, c, _⟩ := ok _ (ed_mem hk)
  have := Rat.mul_le_mul_of_nonneg_left (lev.le (ed es k).1 (ed es k).2.1 (by omega) b) (show (0 : Rat) ≤ ((ed es k).2.2 : Rat) from by
    have := Rat.intCast_le_intCast.mpr c
    rwa [Rat.intCast_zero] at this)
  generalize (if (ed es k).1 ∈ A1 ∧ (ed es k).2.1 ∉ A1 then (1 : Rat) else 0) = g1 at *
  generalize (if (ed es k).1 ∈ A2 ∧ (ed es k).2.1 ∉ A2 then (1 : Rat) else 0) = g2 at *
  generalize (if (ed es k).1 ∈ A3 ∧ (ed es k).2.1 ∉ A3 then (1 : Rat) else 0) = g3 at *
  grind
def clamp (x : Rat) : Rat := if x ≤ -1 then -1 else if 0 ≤ x then 0 else x
theorem clamp_b (x : Rat) : -1 ≤ clamp x ∧ clamp x ≤ 0 := by
  unfold clamp
  split
  · constructor <;> decide
  · split
    · constructor <;> decide
    · constructor <;> grind
theorem clamp_d (x z : Rat) : (if clamp x ≤ clamp z then clamp z - clamp x else 0) ≤ (if x ≤ z then z - x else 0) := by
  unfold clamp
  grind
/-- weights that come to the flow's goal are worth no more than the least cut -/
theorem flow_high {C : Int} {x : Nat → Rat} (ok : FOk s es) (hs : s ∈ [2, 3, 4]) (hC : ∀ A, A ∈ sidesF s → C ≤ cutI es A) (x0 : ∀ j, j < 2 * es.length + 2 * (s - 2) → 0 ≤ x j)
    (hx : ∀ k, k < es.length → (S (2 * es.length + 2 * (s - 2)) fun j => x j * ((fcol es j k : Int) : Rat)) = ((fgoal es k : Int) : Rat)) : (S (2 * es.length + 2 * (s - 2)) fun j => ((fc es j : Int) : Rat) * x j) ≤ ((0 - C : Int) : Rat) := by
  have s2 : 2 ≤ s := by
    simp only [List.mem_cons, List.not_mem_nil, or_false] at hs
    omega
  let u : Nat → Rat := fun t => if t = 0 then 0 else if t < s - 1 then x (2 * es.length + 2 * (t - 1)) - x (2 * es.length + 2 * (t - 1) + 1) else 0
  let rho : Nat → Rat := fun t => if t = 0 then -1 else u t
  -- the columns
  have colk : ∀ k, k < es.length → x (2 * k) - x (2 * k + 1) + (u (ed es k).2.1 - u (ed es k).1) = ((fgoal es k : Int) : Rat) := fun k hk => by
    have h := hx k hk
    rw [S_split, S_pairs, S_pairs] at h
    have p1 : (S es.length fun l => x (2 * l) * ((fcol es (2 * l) k : Int) : Rat) + x (2 * l + 1) * ((fcol es (2 * l + 1) k : Int) : Rat)) = x (2 * k) - x (2 * k + 1) := by
      rw [S_one hk]
      · have e1 : fcol es (2 * k) k = 1 := by unfold fcol; rw [if_pos (by omega), if_pos (by omega), if_pos (by omega)]
        have e2 : fcol es (2 * k + 1) k = -1 := by unfold fcol; rw [if_pos (by omega), if_pos (by omega), if_neg (by omega)]
        rw [e1, e2]
        show x (2 * k) * 1 + x (2 * k + 1) * (-1) = _
        grind
      · intro l hl hne
        have e1 : fcol es (2 * l) k = 0 := by unfold fcol; rw [if_pos (by omega), if_neg (by omega)]
        have e2 : fcol es (2 * l + 1) k = 0 := by unfold fcol; rw [if_pos (by omega), if_neg (by omega)]
        rw [e1, e2, Rat.intCast_zero]; grind
    have p2 : (S (s - 2) fun t => x (2 * es.length + 2 * t) * ((fcol es (2 * es.length + 2 * t) k : Int) : Rat) + x (2 * es.length + (2 * t + 1)) * ((fcol es (2 * es.length + (2 * t + 1)) k : Int) : Rat)) = u (ed es k).2.1 - u (ed es k).1 := by
      obtain ⟨a, b, c, d, _⟩ := ok _ (ed_mem hk)
      have at_ : ∀ v, v < s → (S (s - 2) fun t => u (t + 1) * (((if v = t + 1 then 1 else 0 : Int)) : Rat)) = u v := fun v hv => by
        by_cases q : 1 ≤ v ∧ v < s - 1
        · rw [S_one (c := v - 1) (by omega)]
          · rw [show v - 1 + 1 = v by omega, if_pos rfl]; show u v * 1 = _; grind
          · intro t ht hne
            rw [if_neg (by omega)]; show _ * 0 = _; grind
        · rw [S_zero fun t ht => by rw [if_neg (by omega), Rat.intCast_zero]; grind]
          show 0 = (if v = 0 then 0 else if v < s - 1 then _ else 0)
          by_cases z : v = 0
          · rw [if_pos z]
          · rw [if_neg z, if_neg (by omega)]
      rw [← at_ (ed es k).2.1 b, ← at_ (ed es k).1 (by omega), ← S_sub]
      refine S_congr fun t ht => ?_
      rw [(fcons t k).1, show 2 * es.length + (2 * t + 1) = 2 * es.length + 2 * t + 1 by omega, (fcons t k).2, Rat.intCast_sub, Rat.intCast_zero]
      have eu : u (t + 1) = x (2 * es.length + 2 * t) - x (2 * es.length + 2 * t + 1) := by
        show (if t + 1 = 0 then (0 : Rat) else if t + 1 < s - 1 then _ else 0) = _
        rw [if_neg (by omega), if_pos (by omega)]
        rfl
      rw [eu]
      unfold dlt
      rw [Rat.intCast_sub]
      grind
    rw [p1, p2] at h
    exact h
  -- the worths
  have val : (S (2 * es.length + 2 * (s - 2)) fun j => ((fc es j : Int) : Rat) * x j) = S es.length fun k => (-1) * (((ed es k).2.2 : Rat) * x (2 * k + 1)) := by
    rw [S_split, S_pairs, S_pairs]
    have z : (S (s - 2) fun t => ((fc es (2 * es.length + 2 * t) : Int) : Rat) * x (2 * es.length + 2 * t) + ((fc es (2 * es.length + (2 * t + 1)) : Int) : Rat) * x (2 * es.length + (2 * t + 1))) = 0 := S_zero fun t _ => by
      have z1 : fc es (2 * es.length + 2 * t) = 0 := by unfold fc; rw [if_neg (by omega)]
      have z2 : fc es (2 * es.length + (2 * t + 1)) = 0 := by unfold fc; rw [if_neg (by omega)]
      rw [z1, z2, Rat.intCast_zero]; grind
    rw [z, Rat.add_zero]
    refine S_congr fun k hk => ?_
    rw [(fcs k 0 hk).1, (fcs k 0 hk).2.1, Rat.intCast_sub, Rat.intCast_zero]; grind
  rw [val, S_mul]
  have key := cut_le (rho := fun t => clamp (rho t)) ok hs (by show clamp (rho 0) = -1; show clamp (if (0 : Nat) = 0 then -1 else u 0) = -1; rw [if_pos rfl]; decide)
    (by
      show clamp (if s - 1 = 0 then -1 else u (s - 1)) = 0
      rw [if_neg (by omega)]
      show clamp (if s - 1 = 0 then (0 : Rat) else if s - 1 < s - 1 then _ else 0) = 0
      rw [if_neg (by omega), if_neg (by omega)]; decide) (fun t _ => clamp_b _) hC
  have le : (S es.length fun k => ((ed es k).2.2 : Rat) * (if clamp (rho (ed es k).1) ≤ clamp (rho (ed es k).2.1) then clamp (rho (ed es k).2.1) - clamp (rho (ed es k).1) else 0)) ≤ S es.length fun k => ((ed es k).2.2 : Rat) * x (2 * k + 1) := by
    refine S_le fun k hk => ?_
    obtain ⟨a, b, c, d, e0, _⟩ := ok _ (ed_mem hk)
    have hcap : (0 : Rat) ≤ ((ed es k).2.2 : Rat) := by
      have := Rat.intCast_le_intCast.mpr e0
      rwa [Rat.intCast_zero] at this
    refine Rat.mul_le_mul_of_nonneg_left (Rat.le_trans (clamp_d _ _) ?_) hcap
    have h1 := colk k hk
    have n1 := x0 (2 * k) (by omega)
    have n2 := x0 (2 * k + 1) (by omega)
    have rj : rho (ed es k).2.1 = u (ed es k).2.1 := if_neg c
    rw [rj]
    by_cases q : (ed es k).1 = 0
    · have ri : rho (ed es k).1 = -1 := if_pos q
      have ui : u (ed es k).1 = 0 := if_pos q
      have g : ((fgoal es k : Int) : Rat) = -1 := by unfold fgoal; rw [if_pos q]; rfl
      rw [g, ui] at h1
      rw [ri]
      split <;> grind
    · have ri : rho (ed es k).1 = u (ed es k).1 := if_neg q
      have g : ((fgoal es k : Int) : Rat) = 0 := by unfold fgoal; rw [if_neg q]; rfl
      rw [g] at h1
      rw [ri]
      split <;> grind
  rw [Rat.intCast_sub, Rat.intCast_zero]
  have := Rat.le_trans key le
  grind
theorem sides_ok (hs : s ∈ [2, 3, 4]) : ∀ A, A ∈ sidesF s → 0 ∈ A ∧ s - 1 ∉ A := by
  simp only [List.mem_cons, List.not_mem_nil, or_false] at hs
  rcases hs with rfl | rfl | rfl <;> decide
theorem flow_opt {C : Int} {A : List Nat} (ok : FOk s es) (hs : s ∈ [2, 3, 4]) (hA : A ∈ sidesF s) (hAC : cutI es A = C) (hC : ∀ A, A ∈ sidesF s → C ≤ cutI es A) :
    Opt es.length (2 * es.length + 2 * (s - 2)) (fun j k => ((fcol es j k : Int) : Rat)) (fun k => ((fgoal es k : Int) : Rat)) (fun j => ((fc es j : Int) : Rat)) (((0 - C : Int)) : Rat) := by
  have s2 : 2 ≤ s := by
    simp only [List.mem_cons, List.not_mem_nil, or_false] at hs
    omega
  refine ⟨⟨fun _ => 0, fun j hj => ?_⟩, fun y hy => ?_, fun x x0 hx => flow_high ok hs hC x0 hx⟩
  · rw [S_zero fun k _ => Rat.mul_zero _]
    have : fc es j ≤ 0 := by
      unfold fc
      split
      · split
        · exact Int.le_refl _
        · have := (ok _ (ed_mem (show j / 2 < es.length by omega))).2.2.2.2.1
          omega
      · exact Int.le_refl _
    have := Rat.intCast_le_intCast.mpr this
    rwa [Rat.intCast_zero] at this
  · obtain ⟨h1, h2⟩ := ffeas hy
    obtain ⟨z0, zt⟩ := sides_ok hs A hA
    have := flow_le ok s2 A z0 zt h1 h2
    rw [hAC] at this
    rw [Rat.intCast_sub, Rat.intCast_zero]
    exact this
end
end LP


set_option Elab.async false
set_option linter.all false
set_option maxRecDepth 100000
set_option maxHeartbeats 4000000
/-! any, all of a generator expression over anything that PI serves, its element any expression (calls too). -/
namespace GA
open PySem PySem.Spec PyProof.Rows L2 GxR

/-- the context of a generator expression's frame -/
abbrev gblk (X : Cx) (A : Around) (s : Shared) (H : Hp) (cenv : Env) (fp : List Addr) : Cx :=
  { X with A := A, s_0 := s, H_0 := H, env := cenv, outer := X.stack, stack := cenv :: X.stack, ex := fp, fn := fun _ => false, pn := [], xe := fun _ _ => False }
section
variable {X : Cx} {pins : List (Addr × Obj)} {σ : L2.St} {H : Hp} {s : Shared}
theorem gen_start {scope : Scope} {own : List (Str × Nat)} {fp : List Addr} {A : Around} {code : Value} {h5 : Heap} {g5 : Array GenState} {t5 : Nat} {a : Addr} {go : Obj} {m0 : Str → Option Value}
    (I : Inv X pins σ H s) (ok : BlkOk X.N X.env.scope scope own) (hN : X.N.Nodup) (hcell : ∀ y ∈ scope.names, y.2 ≠ .cell) (hfp : ∀ b ∈ fp, FpOk X pins H b ∧ b < s.heap.objs.size)
    (hh : A.handled = none) (hAf : A.frames = some (genEnv scope (cloFrom X.env.cells scope.names []) s.heap.objs.size code builtinsNs X.env :: X.stack))
    (hg5 : AllBare g5) (hn : h5.Ns s.heap.objs.size m0) (hk : ∀ b o, s.heap.get? b = some o → h5.get? b = some o) (ha : s.heap.objs.size < a) (hga : h5.get? a = some go) (hgo : ∀ v, go.data ≠ .cell v) :
    Inv (gblk X A s H (genEnv scope (cloFrom X.env.cells scope.names []) s.heap.objs.size code builtinsNs X.env) fp) [(a, go)] (wipe σ (own.map (·.2))) H { s with heap := h5, gens := g5, toks := t5 } := by
  have hfree : ∀ y ∈ scope.names, y.2 = .free → ∃ c, X.env.cells.lookup y.1 = some c := fun y hy e => by
    rcases ok.free y hy e with k | k
    · exact I.ok.has _ (.inl k)
    · exact I.ok.has _ (.inr k)
  generalize hcenv : genEnv scope (cloFrom X.env.cells scope.names []) s.heap.objs.size code builtinsNs X.env = cenv at hAf ⊢
  have hL : cenv.locals = s.heap.objs.size := by rw [← hcenv]; rfl
  have hcl : cenv.cells = cloFrom X.env.cells scope.names [] := by rw [← hcenv]; rfl
  have hsc : cenv.scope = scope := by rw [← hcenv]; rfl
  have cm : ∀ {y c}, (y, c) ∈ cloFrom X.env.cells scope.names [] → X.env.cells.lookup y = some c ∧ c < s.heap.objs.size := fun {y c} hm => by
    rcases cloFrom_mem hm with hm | ⟨h1, rfl⟩
    · cases hm
    · obtain ⟨c, hc⟩ := hfree _ h1 rfl
      rw [hc]
      obtain ⟨w, z⟩ := I.cell _ _ hc
      exact ⟨rfl, z.lt⟩
  have mem : ∀ {y c}, cenv.cells.lookup y = some c → X.env.cells.lookup y = some c ∧ c < s.heap.objs.size := fun {y c} e => by
    rw [hcl] at e
    exact cm (PySem.mem_of_lookup e)
  have look : ∀ {y}, scope.names.lookup y = some .free → ∃ c, cenv.cells.lookup y = some c ∧ X.env.cells.lookup y = some c := fun {y} hl => by
    have hy : (y, NameKind.free) ∈ scope.names := PySem.mem_of_lookup hl
    obtain ⟨c', e'⟩ := mem_lookup (cloFrom_has (cells := X.env.cells) (acc := []) hy)
    rw [← hcl] at e'
    exact ⟨c', e', (mem e').1⟩
  have nostk : ∀ b, s.heap.objs.size ≤ b → b ∉ frs X.stack := fun b hb z => by
    rcases List.mem_cons.mp (I.stkSub b z) with z | z
    · exact Nat.lt_irrefl _ (Nat.lt_of_lt_of_le (z ▸ I.lt) hb)
    · exact I.nofs hb z
  have okB : (gblk X A s H cenv fp).Ok := by
    refine ⟨I.ok.mod, by show cenv.scope.kind = _; rw [hsc]; exact ok.kind, by show cenv.globals = _; rw [← hcenv]; exact I.ok.glob, by show cenv.builtins = _; rw [← hcenv]; rfl, by show s.heap.objs.size ≤ cenv.locals; rw [hL]; exact Nat.le_refl _,
      fun y z c e1 e2 => ?_, fun y hy => ?_, fun y c z e => absurd (show false = true from z) (by decide), fun _ => hh, hAf, .inr ⟨rfl, by show cenv.frame = some cenv.locals; rw [← hcenv]; rfl⟩, fun b hb => ⟨?_, fun y c e z => ?_⟩, I.bs, Nat.le_trans I.ok.bsz I.sz, fun b o e hb => ?_, fun b hb z => ?_, I.stack, I.stkFree⟩
    · exact I.ok.inj y z c (mem e1).1 (mem e2).1
    · show ∃ c, cenv.cells.lookup y = some c
      have key : ∀ k, cenv.kindOf y = some k → (k = .cell ∨ k = .free) → ∃ c, cenv.cells.lookup y = some c := fun k hk hk' => by
        unfold Env.kindOf at hk
        rw [hsc] at hk
        rcases hk' with rfl | rfl
        · exact absurd rfl (hcell _ (PySem.mem_of_lookup hk))
        · obtain ⟨c, h1, _⟩ := look hk
          exact ⟨c, h1⟩
      rcases hy with hy | hy
      · exact key _ hy (.inl rfl)
      · exact key _ hy (.inr rfl)
    · show b ≠ cenv.locals
      rw [hL]; exact Nat.ne_of_lt (hfp b hb).2
    · have e : cenv.cells.lookup y = some c := e
      exact (hfp b hb).1.2.2.2.2.1 y c (mem e).1 z
    · rcases (hfp b hb).1.2.2.2.1 with z | z
      · exact I.ok.noex b o e z
      · exact absurd (Nat.lt_of_lt_of_le (Heap.lt_size e) (Nat.le_trans I.ok.bsz z)) (Nat.lt_irrefl _)
    · rcases List.mem_cons.mp (I.stkSub b z) with z | z
      · exact (hfp b hb).1.2.1 z
      · exact (hfp b hb).1.2.2.1 z
  refine ⟨okB, rfl, hg5, Un.kept hk, ⟨m0, ?_, fun i y av e1 e2 e3 => ?_⟩, fun y c e => ?_, ?_, fun y c e => ?_, fun p hp => ?_, I.hok.kept hk, by rw [wipe_length]; exact I.len⟩
  · show Heap.Ns _ cenv.locals _
    rw [hL]
    exact hn
  · obtain ⟨e2, hne⟩ := wipe_some e2
    have hfr : scope.names.lookup y = some .free := by
      have key : ∀ k, cenv.scope.names.lookup y = some k → k = .local ∨ k = .cell ∨ k = .free → scope.names.lookup y = some .free := fun k hk hk' => by
        rw [hsc] at hk
        have no : ¬ (k = .local ∨ k = .cell) := fun hh => by
          rcases ok.own _ (PySem.mem_of_lookup hk) hh with e' | e'
          · obtain ⟨p, hp, hpy⟩ := List.mem_map.mp e'
            have e3 := ok.ix p hp
            have : p.1 = y := hpy
            rw [this] at e3
            exact hne (List.mem_map.mpr ⟨p, hp, nodup_ix hN e3 e1⟩)
          · exact e' (List.mem_of_getElem? e1)
        rcases hk' with rfl | rfl | rfl
        · exact absurd (.inl rfl) no
        · exact absurd (.inr rfl) no
        · exact hk
      have e3 : Vis cenv.scope y := e3
      rcases e3 with e3 | e3 | e3
      · exact key _ e3 (.inl rfl)
      · exact key _ e3 (.inr (.inl rfl))
      · exact key _ e3 (.inr (.inr rfl))
    obtain ⟨m, hn, hl⟩ := I.loc
    have hvis : Vis X.env.scope y := (ok.free _ (PySem.mem_of_lookup hfr) rfl).elim (fun k => .inr (.inl k)) (fun k => .inr (.inr k))
    obtain ⟨w, r, q⟩ := hl i y av e1 e2 hvis
    refine ⟨w, r, .inr ⟨.inr (by show cenv.scope.names.lookup y = _; rw [hsc]; exact hfr), ?_⟩⟩
    obtain ⟨c, h1, h2⟩ := look hfr
    rcases q with ⟨k, _⟩ | ⟨_, c', e', z⟩
    · have k : X.env.scope.names.lookup y = some .local := k
      rcases ok.free _ (PySem.mem_of_lookup hfr) rfl with k' | k' <;> rw [show X.env.scope.names.lookup y = _ from k'] at k <;> cases k
    · rw [h2] at e'; cases e'
      exact ⟨c, h1, z.keeps hk⟩
  · have e : cenv.cells.lookup y = some c := e
    obtain ⟨w, z⟩ := I.cell y c (mem e).1
    exact ⟨w, z.keeps hk⟩
  · show H cenv.locals = none
    rw [hL]; exact I.hok.fresh (Nat.le_refl _)
  · have e : cenv.cells.lookup y = some c := e
    exact I.freeC y c (mem e).1
  · have hp : p ∈ [(a, go)] := by simpa using hp
    rw [List.mem_singleton.mp hp]
    exact ⟨hga, I.hok.fresh (Nat.le_of_lt ha), by show a ≠ cenv.locals; rw [hL]; exact Nat.ne_of_gt ha, nostk a (Nat.le_of_lt ha), hgo⟩

/-! ### the protocol -/
/-- the consumer changes nothing but which generators run -/
structure Sim (s s' : Shared) : Prop where
  heap : s'.heap = s.heap
  os : s'.os = s.os
  bare : AllBare s'.gens
theorem Inv.sim {s' : Shared} (I : Inv X pins σ H s) (z : Sim s s') : Inv X pins σ H s' := by
  obtain ⟨h1, h2, h3⟩ := z
  exact ⟨I.ok, h2.trans I.os, h3, by rw [h1]; exact I.base, by rw [h1]; exact I.loc, fun x c e => by rw [h1]; exact I.cell x c e, I.free, I.freeC, fun p hp => by rw [h1]; exact I.pin p hp, by rw [h1]; exact I.hok, I.len⟩
end
/-- an item: stopB ends the walk -/
def GYi (XG : Cx) (pins : List (Addr × Obj)) (σw : L2.St) (stopB : Bool) (Q : Hp → Prop) : Protocol := fun _ _ v s kap =>
  ∃ (b : Bool) (H : Hp), v = .bool b ∧ Inv XG pins σw H s ∧ (if b = stopB then Q H else ∀ s'', Sim s s'' → kap (.send .none) s'')
def GEnd (XG : Cx) (pins : List (Addr × Obj)) (σw : L2.St) (Qe : Hp → Prop) : Nat → Shared → Shared → Prop := fun _ _ s => ∃ H, Inv XG pins σw H s ∧ Qe H

/-- the walk's plan -/
def Plan (J : It) (stopB : Bool) (g : TG) (te : TE) (vs : List Nat) (σ : L2.St) (Qe Qs : Hp → Prop) (W : Nat → Nat → Hp → Prop) : Prop := ∀ i m H, W i m H →
  (J.stop i H ∧ Qe H) ∨ (J.go i H ∧ ∃ Nx : Hp → Prop, (∀ H', Nx H' → ∃ m', m' < m ∧ W (i + 1) m' H') ∧ ∀ x H', J.yld i H x H' → g x (wipe σ vs) H' fun σ2 H2 => wipe σ2 vs = wipe σ vs ∧
    te σ2 H2 fun y H3 => ∃ b, y = .bl b ∧ if b = stopB then Qs H3 else Nx H3)

section
variable {X : Cx} {A1 : Around} {elt tg iter : Expr} {scope : Scope} {gpos : Pos} {cenv : Env} {it : Addr} {fp : List Addr} {s4 : Shared} {H4 : Hp} {pn : List (Addr × Obj)} {σ : L2.St} {vs : List Nat} {g : TG} {te : TE} {J : It} {tn : Nat → Heap → Prop}
  {stopB : Bool} {Qe Qs : Hp → Prop} {W : Nat → Nat → Hp → Prop}
abbrev gA (A1 : Around) (elt tg iter : Expr) (scope : Scope) (gpos : Pos) (it : Addr) (cenv : Env) : Around := A1.over (.compLoop (.GeneratorExp elt [⟨tg, iter, [], 0⟩] scope gpos) 0 (.ref it) .none cenv) []
theorem gen_seg (hcalm : X.calm = true) (hco : cenv.scope.isCoroutine = false)
    (T : Turn X.prog X.w X.K tg J fp it tn) (hpn : ∀ p ∈ pn, ∀ b ∈ fp, p.1 ≠ b)
    (hg : PG (gblk X (gA A1 elt tg iter scope gpos it cenv) s4 H4 cenv fp) tg g) (he : PE (gblk X (gA A1 elt tg iter scope gpos it cenv) s4 H4 cenv fp) elt te)
    (plan : Plan J stopB g te vs σ Qe Qs W) :
    ∀ (m i : Nat) (s : Shared) (H : Hp), Inv (gblk X (gA A1 elt tg iter scope gpos it cenv) s4 H4 cenv fp) pn (wipe σ vs) H s → tn i s.heap → (∀ b ∈ fp, H b = none) → W i m H → ∀ (n : Nat) (s₀ : Shared), m < n →
      Seg (model X.prog X.w) A1 (fun n s₀ r s₁ => r = .ok .next ∧ GEnd (gblk X (gA A1 elt tg iter scope gpos it cenv) s4 H4 cenv fp) pn (wipe σ vs) Qe n s₀ s₁) (GYi (gblk X (gA A1 elt tg iter scope gpos it cenv) s4 H4 cenv fp) pn (wipe σ vs) stopB Qs) n s₀
        (.compLoop (.GeneratorExp elt [⟨tg, iter, [], 0⟩] scope gpos) 0 (.ref it) .none cenv)
        ((model X.prog X.w).den (.compLoop (.GeneratorExp elt [⟨tg, iter, [], 0⟩] scope gpos) 0 (.ref it) .none cenv)) [] s := by
  have stat : ∀ {pl : List (Addr × Obj)} {σ' : L2.St} {H' : Hp} {s' : Shared}, Inv (gblk X (gA A1 elt tg iter scope gpos it cenv) s4 H4 cenv fp) pn σ' H' s' → (∀ b ∈ fp, H' b = none) → ∀ b ∈ fp, FpOk (gblk X (gA A1 elt tg iter scope gpos it cenv) s4 H4 cenv fp) pn H' b := fun {pl σ' H' s'} I' hn b hb =>
    ⟨hn b hb, (I'.ok.exf b hb).1, I'.ok.exfs b hb, .inl hb, fun x c e => (I'.ok.exf b hb).2 x c e, fun p hp => hpn p (by simpa using hp) b hb⟩
  intro m
  induction m using Nat.strongRecOn with
  | ind m ih =>
    intro i s H I st nf w n s₀ hmn
    show Seg _ A1 _ _ _ s₀ _ ((compTurn (.GeneratorExp elt [⟨tg, iter, [], 0⟩] scope gpos) 0 (.ref it) .none cenv).onRaise (leaving cenv)) [] s
    rw [compTurn_gen, Sem.onRaise_eq_wrap]
    refine seg_bind_wrap (wpAny_standAt ?_)
    rcases plan i m H w with ⟨stop, qq⟩ | ⟨go, Nx, hNx, step⟩
    · have td := T.done (gblk X (gA A1 elt tg iter scope gpos it cenv) s4 H4 cenv fp) rfl rfl rfl hcalm i pn s _ H (fun _ _ => False) I (stat (pl := []) I nf) st stop
      refine seg_bind_wrap (thnF td fun r s6 ⟨hr, I6⟩ => ?_)
      subst hr
      exact seg_end (.ok .next) ⟨rfl, H, I6, qq⟩
    · have ti := T.item (gblk X (gA A1 elt tg iter scope gpos it cenv) s4 H4 cenv fp) rfl rfl rfl hcalm i pn s _ H (fun _ _ => False) I (stat (pl := []) I nf) st go
      refine seg_bind_wrap (thnF ti fun r s6 ⟨u, hr, h6⟩ => ?_)
      subst hr
      refine seg_bind_wrap (thnF h6 fun _ s7 ⟨x, H7, I7, r7, y7, st7, n7⟩ => ?_)
      have I7' := I7.pinned (stat (pl := []) I7 n7) (T.obj _ _ st7)
      refine seg_bind_wrap (thnF (hg.run _ s7 _ H7 x u _ I7' r7 (step x H7 y7)) fun _ s8 ⟨σ8, H8, I8, hw8, q8⟩ => ?_)
      simp only [List.forIn_nil]
      refine seg_bind_wrap (wpAny_pure ?_)
      simp only [if_true]
      have hy : ∀ v, yieldOut cenv v = yieldValue v := fun v => by simp only [yieldOut, hco, Bool.false_eq_true, if_false]
      simp only [hy]
      rw [Sem.bind_eq_wrap', Sem.bind_eq_wrap', Sem.wrap_wrap, Sem.wrap_wrap]
      refine seg_wrap (thnF (he.run _ s8 σ8 H8 _ I8 q8) fun z s10 ⟨yv, H10, I10, r10, b, hyv, hb⟩ => ?_)
      subst hyv
      have hz : z = .bool b := r10
      subst hz
      have hl : (wipe σ vs).length = σ8.length := by rw [← hw8, wipe_length]
      have I10' : Inv (gblk X (gA A1 elt tg iter scope gpos it cenv) s4 H4 cenv fp) pn (wipe σ vs) H10 s10 := (I10.unpinned (pins := pn)).weak hl (fun j v e => by
        rw [← hw8] at e
        exact (wipe_some e).1)
      have pin' : ∀ b ∈ fp, ∀ o, s7.heap.get? b = some o → s10.heap.get? b = some o ∧ H10 b = none := fun b hb o e =>
        let z := I10.pin (b, o) (List.mem_append_right _ (List.mem_append_right _ (mem_pinsAt hb e)))
        ⟨z.1, z.2.1⟩
      have st10 : tn (i + 1) s10.heap := T.keep _ _ _ st7 fun b hb o e => (pin' b hb o e).1
      have n10 : ∀ b ∈ fp, H10 b = none := fun b hb => by
        obtain ⟨o, e, _⟩ := T.obj _ _ st7 b hb
        exact (pin' b hb o e).2
      cases n with
      | zero => omega
      | succ n =>
        refine seg_at (seg_yield rfl rfl rfl ⟨b, H10, rfl, I10', ?_⟩)
        by_cases hbs : b = stopB
        · rw [if_pos hbs] at hb ⊢
          exact hb
        · rw [if_neg hbs] at hb ⊢
          obtain ⟨m', hm, w'⟩ := hNx H10 hb
          intro s'' hsim
          refine seg_again rfl (ih m' hm (i + 1) s'' H10 (Inv.sim I10' hsim) (by rw [hsim.heap]; exact st10) n10 w' n s'' (by omega))

theorem gen_seg0 (hcalm : X.calm = true) (hco : cenv.scope.isCoroutine = false)
    (T : Turn X.prog X.w X.K tg J fp it tn) (hpn : ∀ p ∈ pn, ∀ b ∈ fp, p.1 ≠ b)
    (hg : PG (gblk X (gA A1 elt tg iter scope gpos it cenv) s4 H4 cenv fp) tg g) (he : PE (gblk X (gA A1 elt tg iter scope gpos it cenv) s4 H4 cenv fp) elt te)
    (plan : Plan J stopB g te vs σ Qe Qs W) {m : Nat} {s : Shared} {H : Hp} (I : Inv (gblk X (gA A1 elt tg iter scope gpos it cenv) s4 H4 cenv fp) pn (wipe σ vs) H s) (st : tn 0 s.heap) (nf : ∀ b ∈ fp, H b = none) (w : W 0 m H) {n : Nat} (s₀ : Shared) (hmn : m < n) :
      Seg (model X.prog X.w) A1 (fun n s₀ r s₁ => r = .ok .next ∧ GEnd (gblk X (gA A1 elt tg iter scope gpos it cenv) s4 H4 cenv fp) pn (wipe σ vs) Qe n s₀ s₁) (GYi (gblk X (gA A1 elt tg iter scope gpos it cenv) s4 H4 cenv fp) pn (wipe σ vs) stopB Qs) n s₀
        (.compStart (.GeneratorExp elt [⟨tg, iter, [], 0⟩] scope gpos) 0 (.ref it) .none cenv)
        ((model X.prog X.w).den (.compStart (.GeneratorExp elt [⟨tg, iter, [], 0⟩] scope gpos) 0 (.ref it) .none cenv)) [] s := by
  have loop := gen_seg hcalm hco T hpn hg he plan m 0 s H I st nf w n s₀ hmn
  show Seg _ A1 _ _ _ s₀ _ ((compStart (.GeneratorExp elt [⟨tg, iter, [], 0⟩] scope gpos) 0 (.ref it) .none cenv).onRaise (leaving cenv)) [] s
  unfold compStart
  rw [Sem.onRaise_eq_wrap]
  show Seg _ A1 _ _ _ s₀ _ ((ask >>= _).wrap _ _ _ _) [] s
  refine seg_bind_wrap (wpAny_askSetting ?_)
  split
  · exact seg_again rfl loop
  · first
      | exact seg_bind_wrap (wpAny_rule (seg_bind_wrap (wpAny_standAt (seg_bind_wrap (T.self _ 0 s _ _ st (seg_again rfl loop))))))
      | (refine seg_bind_wrap (wpAny_rule ?_); show Seg _ A1 _ _ _ s₀ _ ((standAt iter.pos >>= _).wrap _ _ _ _) [] s; exact seg_bind_wrap (wpAny_standAt (seg_bind_wrap (T.self _ 0 s _ _ st (seg_again rfl loop)))))
end

/-! ### the consumer -/
structure Ready (M : Model) (A1 : Around) (R : GenEnd) (Y : Protocol) (a : Addr) (g n : Nat) (s : Shared) : Prop where
  lim : s.heap.NoLimit
  gen : s.heap.IsGen a g
  go : ∃ gs, s.gens[g]? = some gs ∧ ∀ s'', Sim s s'' → gs.Goes M A1 R Y n (.send .none) s''
  bare : AllBare s.gens
theorem setGen_bare {s : Shared} {g : Nat} {x : GenState} (h : AllBare s.gens) (hx : x.bare = true) : AllBare (s.setGen g x).gens := by
  intro y hy
  simp only [Shared.setGen] at hy
  rcases Array.mem_or_eq_of_mem_setIfInBounds hy with z | z
  · exact h y z
  · rw [z]; exact hx
theorem setGen_at {s : Shared} {g : Nat} {x : GenState} (h : g < s.gens.size) : (s.setGen g x).gens[g]? = some x := by
  simp [Shared.setGen, h]
theorem sim_setGen {s : Shared} {g : Nat} {x : GenState} (h : AllBare s.gens) (hx : x.bare = true) : Sim s (s.setGen g x) := ⟨rfl, rfl, setGen_bare h hx⟩
theorem Sim.trans {a b c : Shared} (x : Sim a b) (y : Sim b c) : Sim a c := ⟨y.heap.trans x.heap, y.os.trans x.os, y.bare⟩
section
variable {XG : Cx} {pn : List (Addr × Obj)} {σw : L2.St} {stopB : Bool} {Qe Qs : Hp → Prop} {A : Around} {a : Addr} {go : Obj} {g : Nat} {nm qn : Value}
/-- one next of the generator -/
theorem next_gen {n : Nat} {s : Shared} {E : Value → Shared → Prop} {Q : Option Value → Shared → Prop} (hh : A.handled = none) (hroom : A.depth < recursionLimit) (hpa : (a, go) ∈ pn)
    (hgo : go.cls = .type "generator" ∧ go.data = .fields #[.int g 0, nm, qn] ∧ go.slots = #[])
    (r : Ready (model XG.prog XG.w) A.in1 (fun n s₀ r s₁ => r = .ok .next ∧ GEnd XG pn σw Qe n s₀ s₁) (GYi XG pn σw stopB Qs) a g n s)
    (hE : ∀ s' H, Inv XG pn σw H s' → Qe H → Q none s')
    (hS : ∀ s' H, Inv XG pn σw H s' → Qs H → Q (some (.bool stopB)) s')
    (hC : ∀ s' m, m < n → Ready (model XG.prog XG.w) A.in1 (fun n s₀ r s₁ => r = .ok .next ∧ GEnd XG pn σw Qe n s₀ s₁) (GYi XG pn σw stopB Qs) a g m s' → Q (some (.bool (!stopB))) s') :
    wpAny (model XG.prog XG.w) A (pyNext (.ref a)) Q E s := by
  obtain ⟨hl, hg, ⟨gs, hgs, hgoes⟩, hb⟩ := r
  have hlt : g < s.gens.size := by
    obtain ⟨h, _⟩ := Array.getElem?_eq_some_iff.mp hgs
    exact h
  have fin : wpAny (model XG.prog XG.w) A (pyNext (.ref a)) (fun r s' => s.gens.size ≤ s'.gens.size → Q r s') (fun e s' => s.gens.size ≤ s'.gens.size → E e s') s := by
    refine wpAny_pyNext_genexpQ (P := fun n s₀ s₁ => GEnd XG pn σw Qe n s₀ s₁) hh hl hroom hg hgs (hgoes _ (sim_setGen hb rfl)) (fun v s₁ gs' hgb hv => ?_) (fun s₁ hp h' hk => ?_)
    · intro hsz
      obtain ⟨b, H, rfl, I, hq⟩ := hv
      have hsz' : s.gens.size ≤ s₁.gens.size := by
        rw [GenW.setGen_size] at hsz
        exact hsz
      have sm : Sim s₁ (s₁.setGen g gs') := sim_setGen I.bare hgb
      by_cases hbs : b = stopB
      · rw [if_pos hbs] at hq
        rw [hbs]
        exact hS _ H (Inv.sim I sm) hq
      · rw [if_neg hbs] at hq
        have hbn : b = !stopB := by cases b <;> cases stopB <;> simp_all
        rw [hbn]
        have J := Inv.sim I sm
        have ea : (s₁.setGen g gs').heap.get? a = some go := (J.pin (a, go) (List.mem_append_right _ hpa)).1
        cases n with
        | zero => exact False.elim (hq s₁ ⟨rfl, rfl, I.bare⟩)
        | succ m =>
          refine hC _ m (Nat.lt_succ_self m) ⟨J.nolimit, ⟨go, nm, qn, ea, hgo.1, hgo.2.1, hgo.2.2⟩, ⟨gs', setGen_at (Nat.lt_of_lt_of_le hlt hsz'), fun s'' z => hq s'' (Sim.trans sm z)⟩, J.bare⟩
    · intro hsz
      obtain ⟨H, I, hq⟩ := hp
      have J := Inv.sim I (sim_setGen (g := g) (x := .finished) I.bare rfl)
      exact hE _ H (Inv.kept (t' := (s₁.setGen g .finished).toks) J hk) hq
  exact GenW.wpAny_gsz (Nat.le_refl _) fin
theorem any_loop (hh : A.handled = none) (hroom : A.depth < recursionLimit) (hpa : (a, go) ∈ pn) (hgo : go.cls = .type "generator" ∧ go.data = .fields #[.int g 0, nm, qn] ∧ go.slots = #[]) {Rc : Result → Shared → Prop}
    (hE : ∀ s' H, Inv XG pn σw H s' → Qe H → Rc (.ok (.ret (.bool false))) s') (hS : ∀ s' H, Inv XG pn σw H s' → Qs H → Rc (.ok (.ret (.bool true))) s') :
    ∀ (n : Nat) (s : Shared), Ready (model XG.prog XG.w) A.in1.in1 (fun n s₀ r s₁ => r = .ok .next ∧ GEnd XG pn σw Qe n s₀ s₁) (GYi XG pn σw true Qs) a g n s →
      codeAny (model XG.prog XG.w) A (.builtin "any.loop" ⟨[.ref a], []⟩) Rc s := by
  intro n
  induction n using Nat.strongRecOn with
  | ind n ih =>
    intro s r
    refine codeAny_builtin F.entry_any_loop ?_
    rw [Around.under_plainId F.plain_any_loop _]
    show wpAny _ A.in1 (pyNext (.ref a) >>= _) _ _ s
    refine wpAny_bind (next_gen (A := A.in1) hh hroom hpa hgo r (fun s' H I q => ?_) (fun s' H I q => ?_) fun s' m hm r' => ?_)
    · exact wpAny_bind (wpAny_rule (wpAny_pure (hE s' H I q)))
    · refine wpAny_bind (wpAny_holding (wpAny_truthy_bool ?_))
      refine wpAny_bind (wpAny_letGo ?_)
      simp only [if_true]
      exact wpAny_bind (wpAny_rule (wpAny_pure (hS s' H I q)))
    · refine wpAny_bind (wpAny_holding (wpAny_truthy_bool ?_))
      refine wpAny_bind (wpAny_letGo ?_)
      simp only [Bool.not_true, Bool.false_eq_true, if_false]
      exact wpAny_pure ⟨plainId_quiet F.plain_any_loop _, ih m hm s' r'⟩
theorem all_loop (hh : A.handled = none) (hroom : A.depth < recursionLimit) (hpa : (a, go) ∈ pn) (hgo : go.cls = .type "generator" ∧ go.data = .fields #[.int g 0, nm, qn] ∧ go.slots = #[]) {Rc : Result → Shared → Prop}
    (hE : ∀ s' H, Inv XG pn σw H s' → Qe H → Rc (.ok (.ret (.bool true))) s') (hS : ∀ s' H, Inv XG pn σw H s' → Qs H → Rc (.ok (.ret (.bool false))) s') :
    ∀ (n : Nat) (s : Shared), Ready (model XG.prog XG.w) A.in1.in1 (fun n s₀ r s₁ => r = .ok .next ∧ GEnd XG pn σw Qe n s₀ s₁) (GYi XG pn σw false Qs) a g n s →
      codeAny (model XG.prog XG.w) A (.builtin "all.loop" ⟨[.ref a], []⟩) Rc s := by
  intro n
  induction n using Nat.strongRecOn with
  | ind n ih =>
    intro s r
    refine codeAny_builtin F.entry_all_loop ?_
    rw [Around.under_plainId F.plain_all_loop _]
    show wpAny _ A.in1 (pyNext (.ref a) >>= _) _ _ s
    refine wpAny_bind (next_gen (A := A.in1) hh hroom hpa hgo r (fun s' H I q => ?_) (fun s' H I q => ?_) fun s' m hm r' => ?_)
    · exact wpAny_bind (wpAny_rule (wpAny_pure (hE s' H I q)))
    · refine wpAny_bind (wpAny_holding (wpAny_truthy_bool ?_))
      refine wpAny_bind (wpAny_letGo ?_)
      simp only [Bool.false_eq_true, if_false]
      exact wpAny_bind (wpAny_rule (wpAny_pure (hS s' H I q)))
    · refine wpAny_bind (wpAny_holding (wpAny_truthy_bool ?_))
      refine wpAny_bind (wpAny_letGo ?_)
      simp only [Bool.not_false, if_true]
      exact wpAny_pure ⟨plainId_quiet F.plain_all_loop _, ih m hm s' r'⟩
end

/-! ### the rule -/
/-- a generator expression's own scope -/
structure GenSc (scope : Scope) : Prop where
  co : scope.isCoroutine = false
  cell : ∀ y ∈ scope.names, y.2 ≠ .cell
  dot : scope.names.lookup (".0" : Str) = some NameKind.local
/-- any, all of a generator expression: stopB ends it; its def's table at P may grow at first -/
def tGenQ (P : Addr) (stopB : Bool) (wi : TI) (g : TG) (te : TE) (vs : List Nat) : TE := fun σ H Q => wi σ H fun J H1 => TabG H1 P ∧ ∀ H2, Tabbed P H1 H2 →
  ∃ W : Nat → Nat → Hp → Prop, (∃ m, W 0 m H2) ∧ Plan J stopB g te vs σ (fun H => Q (.bl (!stopB)) H) (fun H => Q (.bl stopB) H) W
theorem room_gA {k : Nat} {A : Around} (r : Room (k + 1) A) (elt tg iter : Expr) (scope : Scope) (gpos : Pos) (it : Addr) (cenv : Env) : Room k (gA A.in1.in1 elt tg iter scope gpos it cenv) :=
  ⟨r.hd, by have := r.dp; show A.depth + 0 + 1 + 3 * k + 5 < _; omega, by have := r.un; show A.units + 1 + 1 + 0 + 3 + 16 * k + 200 < _; omega⟩
section
variable {X : Cx} {elt tg iter : Expr} {scope : Scope} {gpos : Pos} {own : List (Str × Nat)} {g : TG} {te : TE} {wi : TI} {stopB : Bool} {c P : Addr} {k : Nat}
theorem gen_made {pins : List (Addr × Obj)} {s : Shared} {σ : L2.St} {H : Hp} {Q : VK} {Q' : Value → Shared → Prop}
    (hr : Room (k + 1) X.A) (hcalm : X.calm = true) (hN : X.N.Nodup) (TB : TabB X.base X.mg c P) (hcode : X.env.code = .ref c) (hi : PI X tg iter wi) (ok : BlkOk X.N X.env.scope scope own) (sc : GenSc scope)
    (hgt : ∀ (A : Around) (s : Shared) (H : Hp) (C : Addr) (code : Value) (fp : List Addr), PG (gblk X A s H (genEnv scope (cloFrom X.env.cells scope.names []) C code builtinsNs X.env) fp) tg g)
    (hel : ∀ (A : Around) (s : Shared) (H : Hp) (C : Addr) (code : Value) (fp : List Addr), Room k A → PE (gblk X A s H (genEnv scope (cloFrom X.env.cells scope.names []) C code builtinsNs X.env) fp) elt te)
    (hs : ∀ v, genFold iter X.env v = pure v) (I : Inv X pins σ H s) (h : tGenQ P stopB wi g te (own.map (·.2)) σ H Q)
    (hQ : ∀ (XG : Cx) (pn : List (Addr × Obj)) (σw : L2.St) (a : Addr) (go : Obj) (gi : Nat) (nm qn : Value) (n : Nat) (s5 : Shared), XG.prog = X.prog → XG.w = X.w → (a, go) ∈ pn → (go.cls = .type "generator" ∧ go.data = .fields #[.int gi 0, nm, qn] ∧ go.slots = #[]) →
      Ready (model XG.prog XG.w) X.A.in1.in1 (fun n s₀ r s₁ => r = .ok .next ∧ GEnd XG pn σw (fun H => Q (.bl (!stopB)) H) n s₀ s₁) (GYi XG pn σw stopB (fun H => Q (.bl stopB) H)) a gi n s5 →
      (∀ s' H, Inv XG pn σw H s' → Inv X pins σ H s') → Q' (.ref a) s5) :
    wpAny (model X.prog X.w) X.A (eval (.GeneratorExp elt [⟨tg, iter, [], 0⟩] scope gpos) X.env) Q' X.xe s := by
  have hfree : ∀ y ∈ scope.names, y.2 = .free → ∃ c, X.env.cells.lookup y.1 = some c := fun y hy e => by
    rcases ok.free y hy e with k | k
    · exact I.ok.has _ (.inl k)
    · exact I.ok.has _ (.inr k)
  refine wpAny_GeneratorExp_make sc.co (closure_ok hfree) sc.cell sc.dot ok.kind (by have := hr.dp; omega) ?_ hs
  refine thn (hi.run pins s σ H _ I h) fun xv s1 hx => thn hx fun itv s2 h2 => ?_
  obtain ⟨it, fp, tn, J, H1, e, I1, T, st2, f2, ⟨ps, hP, ht⟩, q⟩ := h2
  subst e
  refine ⟨I1.nolimit, ?_⟩
  have hPs : s2.heap.get? P = some { cls := .none, data := .fields ps } := I1.hok P _ hP
  have cd : PySem.W.CodeHd s2.heap c P := TB.code.keeps fun b u e => I1.bk b u e
  have sz2 : ∀ b ∈ fp, b < s2.heap.objs.size := fun b hb => by
    obtain ⟨o, e, _⟩ := T.obj _ _ st2 b hb
    exact Heap.lt_size e
  have fpP : ∀ b ∈ fp, b ≠ P := fun b hb z => by
    have := (f2 b hb).1
    rw [z, hP] at this; cases this
  -- behind the code object: the table may have grown
  have cont : ∀ (code : Value) (h3 : Heap) (tk : Nat) (more : Array Value), Heap.ExtBut P s2.heap h3 → s2.heap.objs.size ≤ h3.objs.size → h3.get? P = some { cls := .none, data := .fields (ps ++ more) } → TriplesOk (ps ++ more).toList →
      wpAny (model X.prog X.w) X.A (builtinsFor X.env.globals X.env.builtins) (fun bi s₄ =>
        ∀ h', h'.Ns s₄.heap.objs.size (fun y => if y = ".0" then some (.ref it) else none) → Heap.SameBut s₄.heap.objs.size (s₄.heap.push { cls := .type "frame", data := .dict #[] }) h' →
          Q' (.ref h'.objs.size) { s₄ with
            gens := s₄.gens.push (.fresh (.compStart (.GeneratorExp elt [⟨tg, iter, [], 0⟩] scope gpos) 0 (.ref it) .none (genEnv scope (cloFrom X.env.cells scope.names []) s₄.heap.objs.size code bi X.env))),
            toks := s₄.toks + 1 + 1 + 1,
            heap := h'.push { cls := .type "generator", data := .fields #[.int s₄.gens.size 0, .str "<genexpr>" (s₄.toks + 1), .str (X.env.qual ++ "<genexpr>") (s₄.toks + 1 + 1)] } }) X.xe { s2 with heap := h3, toks := tk } := by
    intro code h3 tk more hx hsz hP3 ht3
    obtain ⟨bm, ob, e1, e2, e3, e4, e5, e6, e7, e8⟩ := TB.bm
    have keep3 : ∀ b u, b ≠ P → s2.heap.get? b = some u → h3.get? b = some u := fun b u hb e => hx b u hb e
    refine wpAny_builtinsFor (m := X.mg) (by rw [I1.ok.glob]; exact ((I1.mod.glob.keeps I1.bk)).extBut hx TB.gP) e1 e2 (keep3 _ _ e4 (I1.bk _ _ e5)) e6 e7 e8 ?_
    intro h' hn' hs'
    have I2 : Inv X pins σ (upd H1 P (.tbl (ps ++ more))) { s2 with heap := h3, toks := tk } := inv_tab (more := more) (h' := h3) (g' := s2.gens) (d' := s2.drawn) (t' := tk) I1 hP keep3 hP3 I1.bare
    have tb : Tabbed P H1 (upd H1 P (.tbl (ps ++ more))) := ⟨⟨_, upd_same, ht3⟩, fun b hb => upd_ne hb⟩
    obtain ⟨W, ⟨m0, w0⟩, plan⟩ := q _ tb
    have kf : ∀ b o, h3.get? b = some o → h'.get? b = some o := fun b o e => hs'.extBut b o (Nat.ne_of_lt (Heap.lt_size e)) (Heap.get?_push_of_some _ e)
    have hsz' : h'.objs.size = h3.objs.size + 1 := by
      have := hs'.1
      rw [this, Heap.size_push]
    have f3 : ∀ b ∈ fp, FpOk X pins (upd H1 P (.tbl (ps ++ more))) b ∧ b < h3.objs.size := fun b hb =>
      ⟨⟨by rw [upd_ne (fpP b hb)]; exact (f2 b hb).1, (f2 b hb).2⟩, Nat.lt_of_lt_of_le (sz2 b hb) hsz⟩
    have hAf : (gA X.A.in1.in1 elt tg iter scope gpos it (genEnv scope (cloFrom X.env.cells scope.names []) h3.objs.size code builtinsNs X.env)).frames = some (genEnv scope (cloFrom X.env.cells scope.names []) h3.objs.size code builtinsNs X.env :: X.stack) := by
      have e := I1.ok.frames
      show pushEnvs [_] (pushEnvs [] X.A.frames) = _
      rw [e]; rfl
    have go5 := Heap.get?_push_size h' (o := { cls := .type "generator", data := .fields #[.int s2.gens.size 0, .str "<genexpr>" (tk + 1), .str (X.env.qual ++ "<genexpr>") (tk + 1 + 1)] }) rfl
    have I5 := gen_start (A := gA X.A.in1.in1 elt tg iter scope gpos it (genEnv scope (cloFrom X.env.cells scope.names []) h3.objs.size code builtinsNs X.env)) (code := code) (h5 := h'.push { cls := .type "generator", data := .fields #[.int s2.gens.size 0, .str "<genexpr>" (tk + 1), .str (X.env.qual ++ "<genexpr>") (tk + 1 + 1)] })
      (g5 := s2.gens.push (.fresh (.compStart (.GeneratorExp elt [⟨tg, iter, [], 0⟩] scope gpos) 0 (.ref it) .none (genEnv scope (cloFrom X.env.cells scope.names []) h3.objs.size code builtinsNs X.env)))) (t5 := tk + 1 + 1 + 1) (a := h'.objs.size)
      I2 ok hN sc.cell f3 hr.hd hAf (AllBare.push I1.bare rfl) (hn'.push _) (fun b o e => Heap.get?_push_of_some _ (kf b o e)) (by show h3.objs.size < h'.objs.size; omega) go5 (fun v z => by cases z)
    have st5 : tn 0 (h'.push { cls := .type "generator", data := .fields #[.int s2.gens.size 0, .str "<genexpr>" (tk + 1), .str (X.env.qual ++ "<genexpr>") (tk + 1 + 1)] }) := T.keep _ _ _ st2 fun b hb o e => Heap.get?_push_of_some _ (kf b o (keep3 b o (fpP b hb) e))
    refine hQ (gblk X (gA X.A.in1.in1 elt tg iter scope gpos it (genEnv scope (cloFrom X.env.cells scope.names []) h3.objs.size code builtinsNs X.env)) { s2 with heap := h3, toks := tk } (upd H1 P (.tbl (ps ++ more))) (genEnv scope (cloFrom X.env.cells scope.names []) h3.objs.size code builtinsNs X.env) fp) [(h'.objs.size, ({ cls := .type "generator", data := .fields #[.int s2.gens.size 0, .str "<genexpr>" (tk + 1), .str (X.env.qual ++ "<genexpr>") (tk + 1 + 1)] } : Obj))] (wipe σ (own.map (·.2))) h'.objs.size ({ cls := .type "generator", data := .fields #[.int s2.gens.size 0, .str "<genexpr>" (tk + 1), .str (X.env.qual ++ "<genexpr>") (tk + 1 + 1)] } : Obj) s2.gens.size (.str "<genexpr>" (tk + 1)) (.str (X.env.qual ++ "<genexpr>") (tk + 1 + 1)) (m0 + 1) _ rfl rfl (List.mem_singleton.mpr rfl) ⟨rfl, rfl, rfl⟩ ⟨I5.nolimit, ⟨_, _, _, go5, rfl, rfl, rfl⟩, ⟨_, Array.getElem?_push_size .., fun s'' z => ⟨rfl, ?_⟩⟩, I5.bare⟩ fun s' H' J => ?_
    · exact gen_seg0 hcalm sc.co T (fun p hp b hb z => by
        rw [List.mem_singleton.mp hp] at z
        have := sz2 b hb
        rw [← z] at this
        have z2 : h'.objs.size < s2.heap.objs.size := this
        omega) (hgt _ _ _ _ _ _) (hel _ _ _ _ _ _ (room_gA hr ..)) plan (Inv.sim I5 z) (by rw [z.heap]; exact st5) (fun b hb => (f3 b hb).1.1) w0 s'' (Nat.lt_succ_self m0)
    · exact I2.call' (ch := fp) J.os J.base J.hok J.bare fun b hb => ⟨(f3 b hb).1.2.2.2.1, (f3 b hb).1.2.1, (f3 b hb).1.2.2.2.2.1, (f3 b hb).1.2.2.2.2.2⟩
  cases hf : codeAmong gpos ps.toList with
  | none =>
    refine wpAny_genexprCodeX hcode (cd.code hPs ht) (cd.tab hPs) hf fun c' h' tk hx hge hlt hco' _ htab' _ => ?_
    obtain ⟨o1, vs, f1, tf, fl, tg', inF, tx, tt, op, _, _, _, _, _, _, _, _, _, htr, _⟩ := hco'
    exact cont _ h' tk _ hx (Nat.le_trans hge (Nat.le_of_lt hlt)) htab'.2 htr
  | some cv =>
    refine wpAny_genexprCode_hit hcode (cd.code hPs ht) hf ?_
    exact cont cv s2.heap s2.toks #[] (Heap.ExtBut.refl _ _) (Nat.le_refl _) (by simpa using hPs) (by simpa using ht)
theorem pe_anyG {p pos : Pos}
    (hr : Room (k + 1) X.A) (hcalm : X.calm = true) (hN : X.N.Nodup) (hg : Gl X "any") (hm : X.mg "any" = none) (TB : TabB X.base X.mg c P) (hcode : X.env.code = .ref c) (hi : PI X tg iter wi) (ok : BlkOk X.N X.env.scope scope own) (sc : GenSc scope)
    (hgt : ∀ (A : Around) (s : Shared) (H : Hp) (C : Addr) (code : Value) (fp : List Addr), PG (gblk X A s H (genEnv scope (cloFrom X.env.cells scope.names []) C code builtinsNs X.env) fp) tg g)
    (hel : ∀ (A : Around) (s : Shared) (H : Hp) (C : Addr) (code : Value) (fp : List Addr), Room k A → PE (gblk X A s H (genEnv scope (cloFrom X.env.cells scope.names []) C code builtinsNs X.env) fp) elt te)
    (hs : ∀ v, genFold iter X.env v = pure v := by intro _; rfl)
    (he : starEach [.GeneratorExp elt [⟨tg, iter, [], 0⟩] scope gpos] X.env = (false, eval (.GeneratorExp elt [⟨tg, iter, [], 0⟩] scope gpos) X.env) :: starEach [] X.env := by rfl) :
    PE X (.Call (.Name "any" p) [.GeneratorExp elt [⟨tg, iter, [], 0⟩] scope gpos] [] pos) (tGenQ P true wi g te (own.map (·.2))) := by
  refine ⟨fun pins s σ H Q I h => ?_⟩
  refine wpAny_Call_Name_kw (ld_blt I hg hm boot_any ?_)
  refine PyProof.Rows.callWith_builtin1 ?_ he (by rfl)
  rw [he]
  show wpAny _ _ (spliced ((false, eval (.GeneratorExp elt [⟨tg, iter, [], 0⟩] scope gpos) X.env) :: backTo pos (starEach [] X.env))) _ _ s
  refine Calls.spliced_cons (gen_made hr hcalm hN TB hcode hi ok sc hgt hel hs I h fun XG pn σw a go gi nm qn n s5 e1 e2 hpa hgo hR back => ?_)
  refine Calls.spliced_nil ?_
  refine call_function_tree F.kind_any F.plain_any F.entry_any (F.args_any1 _) ?_
  unfold Builtin.«any»
  refine wpAny_bind (m := oneArg "any" _) (wpAny_pure ?_)
  refine wpAny_bind (wpAny_pyIter_gen hR.gen ?_)
  refine wpAny_pure ⟨plainId_quiet F.plain_any_loop _, ?_⟩
  have := any_loop (XG := XG) (pn := pn) (σw := σw) (go := go) (g := gi) (nm := nm) (qn := qn) (A := X.A) hr.hd (by have := hr.dp; omega) hpa hgo (Rc := fun r s' => match r with | .ok (.ret v) => EP X pins σ Q v s' | .ok _ => False | .error e => X.xe e s')
    (Qe := fun H => Q (.bl (!true)) H) (Qs := fun H => Q (.bl true) H) (fun s' H' J q => ⟨.bl false, H', back s' H' J, rfl, q⟩) (fun s' H' J q => ⟨.bl true, H', back s' H' J, rfl, q⟩) n s5 hR
  rw [e1, e2] at this
  exact this
theorem pe_allG {p pos : Pos}
    (hr : Room (k + 1) X.A) (hcalm : X.calm = true) (hN : X.N.Nodup) (hg : Gl X "all") (hm : X.mg "all" = none) (TB : TabB X.base X.mg c P) (hcode : X.env.code = .ref c) (hi : PI X tg iter wi) (ok : BlkOk X.N X.env.scope scope own) (sc : GenSc scope)
    (hgt : ∀ (A : Around) (s : Shared) (H : Hp) (C : Addr) (code : Value) (fp : List Addr), PG (gblk X A s H (genEnv scope (cloFrom X.env.cells scope.names []) C code builtinsNs X.env) fp) tg g)
    (hel : ∀ (A : Around) (s : Shared) (H : Hp) (C : Addr) (code : Value) (fp : List Addr), Room k A → PE (gblk X A s H (genEnv scope (cloFrom X.env.cells scope.names []) C code builtinsNs X.env) fp) elt te)
    (hs : ∀ v, genFold iter X.env v = pure v := by intro _; rfl)
    (he : starEach [.GeneratorExp elt [⟨tg, iter, [], 0⟩] scope gpos] X.env = (false, eval (.GeneratorExp elt [⟨tg, iter, [], 0⟩] scope gpos) X.env) :: starEach [] X.env := by rfl) :
    PE X (.Call (.Name "all" p) [.GeneratorExp elt [⟨tg, iter, [], 0⟩] scope gpos] [] pos) (tGenQ P false wi g te (own.map (·.2))) := by
  refine ⟨fun pins s σ H Q I h => ?_⟩
  refine wpAny_Call_Name_kw (ld_blt I hg hm boot_all ?_)
  refine PyProof.Rows.callWith_builtin1 ?_ he (by rfl)
  rw [he]
  show wpAny _ _ (spliced ((false, eval (.GeneratorExp elt [⟨tg, iter, [], 0⟩] scope gpos) X.env) :: backTo pos (starEach [] X.env))) _ _ s
  refine Calls.spliced_cons (gen_made hr hcalm hN TB hcode hi ok sc hgt hel hs I h fun XG pn σw a go gi nm qn n s5 e1 e2 hpa hgo hR back => ?_)
  refine Calls.spliced_nil ?_
  refine call_function_tree F.kind_all F.plain_all F.entry_all (F.args_all1 _) ?_
  unfold Builtin.«all»
  refine wpAny_bind (m := oneArg "all" _) (wpAny_pure ?_)
  refine wpAny_bind (wpAny_pyIter_gen hR.gen ?_)
  refine wpAny_pure ⟨plainId_quiet F.plain_all_loop _, ?_⟩
  have := all_loop (XG := XG) (pn := pn) (σw := σw) (go := go) (g := gi) (nm := nm) (qn := qn) (A := X.A) hr.hd (by have := hr.dp; omega) hpa hgo (Rc := fun r s' => match r with | .ok (.ret v) => EP X pins σ Q v s' | .ok _ => False | .error e => X.xe e s')
    (Qe := fun H => Q (.bl (!false)) H) (Qs := fun H => Q (.bl false) H) (fun s' H' J q => ⟨.bl true, H', back s' H' J, rfl, q⟩) (fun s' H' J q => ⟨.bl false, H', back s' H' J, rfl, q⟩) n s5 hR
  rw [e1, e2] at this
  exact this
end
end GA


set_option Elab.async false
set_option linter.all false
set_option maxRecDepth 100000
set_option maxHeartbeats 4000000
/-! What stands in the heap: parts, rows of parts; the parts' defs. -/
namespace K44
open PySem L2
open LP (Fit lim)
def top (i : Nat) : Stmt := PySem.Challenge.pw_paidallways_k44_whole_systems_that_ask_o.main.body.getD i (.Pass ⟨0, 0, 0, 0⟩)

/-! ### heaps that grow: tables of code objects may be longer -/
def Gw (H H' : Hp) : Prop := ∀ b o, H b = some o → H' b = some o ∨ ∃ ps ps', o = .tbl ps ∧ H' b = some (.tbl ps') ∧ (TriplesOk ps.toList → TriplesOk ps'.toList)
theorem Gw.refl (H : Hp) : Gw H H := fun _ _ h => .inl h
theorem Gw.trans {H H1 H2 : Hp} (a : Gw H H1) (b : Gw H1 H2) : Gw H H2 := fun c o h => by
  rcases a c o h with h1 | ⟨ps, ps', rfl, h1, t1⟩
  · exact b c o h1
  · rcases b c _ h1 with h2 | ⟨qs, qs', e, h2, t2⟩
    · exact .inr ⟨ps, ps', rfl, h2, t1⟩
    · cases e
      exact .inr ⟨ps, qs', rfl, h2, fun z => t2 (t1 z)⟩
theorem Gw.of {H H' : Hp} (h : ∀ b o, H b = some o → H' b = some o) : Gw H H' := fun b o e => .inl (h b o e)
theorem Gw.free {H H' : Hp} (e : Gw H H') {l : Addr} (h : H' l = none) : H l = none := by
  cases q : H l with
  | none => rfl
  | some o =>
    rcases e l o q with z | ⟨_, _, _, z, _⟩ <;> rw [h] at z <;> cases z
theorem Gw.new {H : Hp} {p : Addr} (o : HO) (h : H p = none) : Gw H (upd H p o) := .of fun b u e => by rw [upd_ne (ne_of_none e h)]; exact e
theorem Gw.upd {H H' : Hp} {p : Addr} (o : HO) (g : Gw H H') (h : H p = none) : Gw H (L2.upd H' p o) := fun b u e => by
  have hb : b ≠ p := ne_of_none e h
  rw [upd_ne hb]
  exact g b u e
theorem Gw.tab {H H' : Hp} {P : Addr} (t : GxR.TabG H P) (z : GxR.Tabbed P H H') : Gw H H' := fun b o e => by
  by_cases hb : b = P
  · subst hb
    obtain ⟨ps, h1, h2⟩ := t
    obtain ⟨ps', h3, h4⟩ := z.1
    rw [e] at h1
    cases h1
    exact .inr ⟨ps, ps', rfl, h3, fun _ => h4⟩
  · exact .inl (by rw [z.2 b hb]; exact e)
theorem Gw.tabG {H H' : Hp} {P : Addr} (g : Gw H H') (t : GxR.TabG H P) : GxR.TabG H' P := by
  obtain ⟨ps, h1, h2⟩ := t
  rcases g P _ h1 with z | ⟨qs, qs', e, z, t⟩
  · exact ⟨ps, z, h2⟩
  · cases e
    exact ⟨qs', z, t h2⟩
section
variable {K : PySem.W.Frag} {H H' : Hp} {a : Addr} {xs : List V}
theorem Gw.at (g : Gw H H') {o : HO} (h : H a = some o) (n : ∀ ps, o ≠ .tbl ps := by intro _ z; cases z) : H' a = some o := by
  rcases g a o h with z | ⟨ps, _, e, _⟩
  · exact z
  · exact absurd e (n ps)
theorem Gw.sqT (g : Gw H H') (h : SqT K H a xs) : SqT K H' a xs := by
  rcases h with (h | ⟨o, h⟩) | h
  · exact .inl (.inl (g.at h))
  · exact .inl (.inr ⟨o, g.at h⟩)
  · exact .inr h
theorem Gw.sqL (g : Gw H H') (h : SqL K H a xs) : SqL K H' a xs := by
  rcases h with (h | ⟨o, h⟩) | h
  · exact .inl (.inl (g.at h))
  · exact .inl (.inr ⟨o, g.at h⟩)
  · exact .inr h
mutual
theorem Gw.dp (g : Gw H H') : ∀ {v : V} {d : PyData}, Dp K H v d → Dp K H' v d
  | _, _, .non => .non
  | _, _, .bl b => .bl b
  | _, _, .int i => .int i
  | _, _, .str x => .str x
  | _, _, .lst h t => .lst (g.sqL h) (Gw.dpA g t)
  | _, _, .tup h t => .tup (g.sqT h) (Gw.dpA g t)
theorem Gw.dpA (g : Gw H H') : ∀ {vs : List V} {ds : List PyData}, DpAll K H vs ds → DpAll K H' vs ds
  | _, _, .nil => .nil
  | _, _, .cons h t => .cons (Gw.dp g h) (Gw.dpA g t)
end
end

/-! ### parts -/
/-- v is the part q -/
def PAt (K : PySem.W.Frag) (H : Hp) (v : V) (q : Rat) : Prop := (∃ a, v = .ref a ∧ SqT K H a [.int q.num, .int (q.den : Int)]) ∧ Fit q
def partD (q : Rat) : PyData := .tuple [.int q.num, .int (q.den : Int)]
theorem PAt.gw {K : PySem.W.Frag} {H H' : Hp} {v : V} {q : Rat} (h : PAt K H v q) (g : Gw H H') : PAt K H' v q := by
  obtain ⟨⟨a, e, s⟩, f⟩ := h
  exact ⟨⟨a, e, g.sqT s⟩, f⟩
theorem PAt.dp {K : PySem.W.Frag} {H : Hp} {v : V} {q : Rat} (h : PAt K H v q) : Dp K H v (partD q) := by
  obtain ⟨⟨a, rfl, s⟩, _⟩ := h
  exact .tup s (.cons (.int _) (.cons (.int _) .nil))
theorem lim_lt : lim < 2 ^ 200 := by decide +kernel
theorem Fit.num_lt {q : Rat} (h : Fit q) : q.num.natAbs < 2 ^ 200 := Nat.lt_of_le_of_lt h.1 lim_lt
theorem Fit.den_lt {q : Rat} (h : Fit q) : (q.den : Int).natAbs < 2 ^ 200 := Nat.lt_of_le_of_lt (by rw [Int.natAbs_natCast]; exact h.2) lim_lt
theorem fit_zero : Fit 0 := ⟨by decide, by decide +kernel⟩
theorem fit_one : Fit 1 := ⟨by decide +kernel, by decide +kernel⟩
theorem fit_neg_one : Fit (-1) := ⟨by decide +kernel, by decide +kernel⟩
/-- a part of two whole numbers -/
theorem mk_eq {a d : Int} (hd : d ≠ 0) (g : Nat) (hg : g = Nat.gcd a.natAbs d.natAbs) :
    a.fdiv (if 0 < d then (g : Int) else -(g : Int)) = (Rat.divInt a d).num ∧ d.fdiv (if 0 < d then (g : Int) else -(g : Int)) = ((Rat.divInt a d).den : Int) := by
  have e1 := Rat.num_divInt a d
  have e2 := Rat.den_divInt a d
  have hg0 : 0 < g := by rw [hg]; exact Nat.gcd_pos_of_pos_right _ (by omega)
  have hga : (g : Int) ∣ a := by
    rw [hg]; exact Int.ofNat_dvd_left.mpr (Nat.gcd_dvd_left _ _)
  have hgd : (g : Int) ∣ d := by
    rw [hg]; exact Int.ofNat_dvd_left.mpr (Nat.gcd_dvd_right _ _)
  have ig : (Int.gcd d a : Nat) = g := by rw [hg]; exact Nat.gcd_comm _ _
  obtain ⟨x, hx⟩ := hga
  obtain ⟨y, hy⟩ := hgd
  have hgz : (g : Int) ≠ 0 := by omega
  rw [e1, e2, if_neg hd, ig]
  by_cases h : 0 < d
  · rw [if_pos h, Int.sign_eq_one_of_pos h, Int.one_mul]
    constructor
    · rw [hx, Int.mul_fdiv_cancel_left _ hgz, Int.mul_ediv_cancel_left _ hgz]
    · rw [hy, Int.mul_fdiv_cancel_left _ hgz, Int.natAbs_mul, Int.natAbs_natCast, Nat.mul_div_cancel_left _ hg0]
      have : 0 < y := by
        rw [hy] at h
        exact Int.pos_of_mul_pos_right h (by omega)
      omega
  · rw [if_neg h, Int.sign_eq_neg_one_of_neg (by omega)]
    have ea : a = (-(g : Int)) * (-x) := by rw [Int.neg_mul_neg]; exact hx
    have ed : d = (-(g : Int)) * (-y) := by rw [Int.neg_mul_neg]; exact hy
    have hgn : -(g : Int) ≠ 0 := by omega
    constructor
    · rw [ea, Int.mul_fdiv_cancel_left _ hgn]
      have : (-1 : Int) * (-(g : Int) * -x) = (g : Int) * (-x) := by rw [Int.neg_mul_neg, Int.mul_neg]; omega
      rw [this, Int.mul_ediv_cancel_left _ hgz]
    · rw [ed, Int.mul_fdiv_cancel_left _ hgn, Int.natAbs_mul, Int.natAbs_neg, Int.natAbs_natCast, Nat.mul_div_cancel_left _ hg0]
      have : y < 0 := by
        have hd' : d < 0 := by omega
        rw [hy] at hd'
        exact Int.neg_of_mul_neg_right hd' (by omega)
      omega

/-! ### floor division by any great number -/
def CDivX (_ j : Int) : Prop := j ≠ 0 ∧ j.natAbs.log2 < 9000
theorem op_fdivX {X : Cx} : OpR X (binaryOp .FloorDiv) (rI CDivX fun i j => .int (i.fdiv j)) := opI fun i j _ _ _ _ _ hc q =>
  PyProof.Rows.floordiv_int hc.1 q (.inl (PyProof.noPylong_of_log2 hc.2))

/-! ### what the top has written -/
structure Txt (K : PySem.W.Frag) (mg : Str → Option Value) : Prop where
  gcd : mg "gcd" = some (.builtin "math.gcd")
  most : ∃ t, mg "MOST" = some (.int (10 ^ 60) t)
  zero : ∃ a, mg "ZERO" = some (.ref a) ∧ ∀ H, SqT K H a [.int 0, .int 1]
  one : ∃ a, mg "ONE" = some (.ref a) ∧ ∀ H, SqT K H a [.int 1, .int 1]
  abs : mg "abs" = none
  isi : mg "isinstance" = none
  int : mg "int" = none
  bool : mg "bool" = none
  tuple : mg "tuple" = none
  list : mg "list" = none
  str : mg "str" = none
  len : mg "len" = none
  range : mg "range" = none
  zip : mg "zip" = none
  enum : mg "enumerate" = none
  all : mg "all" = none
  any : mg "any" = none
  sum : mg "sum" = none
  min : mg "min" = none
  rev : mg "reversed" = none
  mostRows : ∃ t, mg "MOST_ROWS" = some (.int 60 t)
  mostPlaces : ∃ t, mg "MOST_PLACES" = some (.int 30 t)
/-- a def that keeps a promise, as its callers need it -/
structure Cal (P : Program) (w : World) (K : PySem.W.Frag) (mg : Str → Option Value) (base : Heap) (x : Str) (k : Nat) (ps : List Str) (sp : Sp) where
  f : Addr
  fd : FuncData
  ok : FnOk P w K mg base CX0 k f fd ps sp
  hm : mg x = some (.ref f)
  kp : PySem.W.keepIn K (.ref f) = true
  b : Binds K fd ps []

/-! ### promises -/
/-- an answer R, the heap grown -/
abbrev Ans (H : Hp) (R : V → Hp → Prop) (Q : VK) : Prop := ∀ v H', Gw H H' → R v H' → Q v H'
def spPart (K : PySem.W.Frag) : Sp := fun vs H Q _ => ∃ a d : Int, vs = [.int a, .int d] ∧ d ≠ 0 ∧ d.natAbs < 2 ^ 1000 ∧ Fit (Rat.divInt a d) ∧ Ans H (fun v H' => PAt K H' v (Rat.divInt a d)) Q
def sp2 (K : PySem.W.Frag) (f : Rat → Rat → Rat) : Sp := fun vs H Q _ => ∃ (x y : V) (a b : Rat), vs = [x, y] ∧ PAt K H x a ∧ PAt K H y b ∧ Fit (f a b) ∧ Ans H (fun v H' => PAt K H' v (f a b)) Q
/-- .. not over 0 -/
def sp2o (K : PySem.W.Frag) : Sp := fun vs H Q _ => ∃ (x y : V) (a b : Rat), vs = [x, y] ∧ PAt K H x a ∧ PAt K H y b ∧ b ≠ 0 ∧ Fit (a / b) ∧ Ans H (fun v H' => PAt K H' v (a / b)) Q
def spLess (K : PySem.W.Frag) : Sp := fun vs H Q _ => ∃ (x y : V) (a b : Rat), vs = [x, y] ∧ PAt K H x a ∧ PAt K H y b ∧ Q (.bl (decide (a < b))) H

abbrev sPart : Stmt := top 13
abbrev sPlus : Stmt := top 14
abbrev sMinus : Stmt := top 15
abbrev sTimes : Stmt := top 16
abbrev sOver : Stmt := top 17
abbrev sLess : Stmt := top 18
section
variable {P : Program} {w : World} {K : PySem.W.Frag} {mg : Str → Option Value} {base : Heap}
theorem scPart : FnScope ["one", "other", "shared", "found"] ["one", "other"] (defScope sPart) := ⟨rfl, rfl, rfl, by decide +kernel, rfl, by decide +kernel, by decide +kernel⟩
theorem ok_part {f : Addr} {fd : FuncData} (F : Fun K "part" "part" sPart f fd) (T : Txt K mg) : FnOk P w K mg base CX0 1 f fd ["one", "other"] (spPart K) := by
  refine F.ok scPart (fun vs H Q E h => ?_) (fun cdv A outer s H vs Q E hr h => ?_)
  · obtain ⟨a, d, rfl, _⟩ := h
    rfl
  · obtain ⟨a, d, rfl, hd, hdb, hfit, k⟩ := h
    obtain ⟨t, hM⟩ := T.most
    refine ⟨_, pss_cons (ps_if (pt_cmpR op_eq (pv 1) pe_int (nomark _)) (pss_one ps_never) pss_nil)
      (pss_cons (ps_set (i := 2) scPart.nd rfl (Or.inl rfl) (pe_ifExp (pt_cmpR op_gt (pv 1) pe_int (nomark _)) (pe_callBfun cr_gcd rfl T.gcd (pa_cons (pv 0) (pa_cons (pv 1) pa_nil))) (pe_un un_neg (pe_callBfun cr_gcd rfl T.gcd (pa_cons (pv 0) (pa_cons (pv 1) pa_nil))))))
      (pss_cons (ps_set (i := 3) scPart.nd rfl (Or.inl rfl) (pe_tup (pa_cons (pe_op op_fdivX (pv 0) (pv 2)) (pa_cons (pe_op op_fdivX (pv 1) (pv 2)) pa_nil))))
      (pss_cons (ps_if (PW.pt (pw_or (pt_cmpR op_gt (pe_callB call_abs (by rfl) T.abs (by decide +kernel) (pa_cons (pe_ix ix_tup (pv 3) pe_int (fun _ _ => rfl)) pa_nil)) (pe_glob (v := .int (10 ^ 60)) rfl hM ⟨t, rfl⟩) (nomark _))
          (pw_or1 (pt_cmpR op_gt (pe_ix ix_tup (pv 3) pe_int (fun _ _ => rfl)) (pe_glob (v := .int (10 ^ 60)) rfl hM ⟨t, rfl⟩) (nomark _))))) (pss_one ps_never) pss_nil)
      (pss_one (ps_ret (pv 3)))))), ?_⟩
    refine ⟨_, rfl, rfl, _, rfl, ?_⟩
    rw [show decide (V.int d = V.int 0) = false from decide_eq_false fun z => hd (V.int.inj z)]
    refine iteF ?_
    have hg0 : (Nat.gcd a.natAbs d.natAbs : Int) ≠ 0 := by
      have := Nat.gcd_pos_of_pos_right a.natAbs (show 0 < d.natAbs by omega)
      omega
    obtain ⟨m1, m2⟩ := mk_eq (a := a) hd _ rfl
    have hgl : Nat.gcd a.natAbs d.natAbs < 2 ^ 1000 := Nat.lt_of_le_of_lt (Nat.le_of_dvd (by omega) (Nat.gcd_dvd_right _ _)) hdb
    have hgl2 : (Nat.gcd a.natAbs d.natAbs).log2 < 9000 := Nat.lt_trans (PySem.Flt.log2_lt_of (by decide) hgl) (by decide)
    generalize hg : (Nat.gcd a.natAbs d.natAbs) = g at m1 m2 hg0 hgl2
    -- shared
    have two : ∀ sh : Int, sh = (if 0 < d then (g : Int) else -(g : Int)) → CDivX a sh ∧ CDivX d sh := fun sh e => by
      have : sh ≠ 0 ∧ sh.natAbs = g := by rw [e]; split <;> omega
      exact ⟨⟨this.1, by rw [this.2]; exact hgl2⟩, ⟨this.1, by rw [this.2]; exact hgl2⟩⟩
    refine ⟨_, rfl, _, _, rfl, rfl, _, rfl, ?_⟩
    refine ite2 (fun h => ?g1) (fun h => ?g2)
    case' g1 =>
      have hp : 0 < d := of_decide_eq_true h
      rw [if_pos hp] at m1 m2
      obtain ⟨c1, c2⟩ := two g (by rw [if_pos hp])
      refine ⟨_, rfl, _, rfl, _, _, rfl, ?_⟩
      rw [hg]
    case' g2 =>
      have hp : ¬ 0 < d := fun z => h (decide_eq_true z)
      rw [if_neg hp] at m1 m2
      obtain ⟨c1, c2⟩ := two (-(g : Int)) (by rw [if_neg hp])
      refine ⟨_, rfl, _, rfl, _, _, rfl, ?_⟩
      rw [hg]
      refine ⟨_, rfl, ?_⟩
    all_goals
      refine ⟨_, rfl, _, rfl, _, _, rfl, rfl, c1, _, rfl, _, rfl, _, _, rfl, rfl, c2, (show 2 ≤ sizeLine by decide), fun p hp => ?_⟩
      dsimp only
      rw [m1, m2]
      have hT : SqT K (upd H p (HO.tup [V.int (Rat.divInt a d).num, V.int ((Rat.divInt a d).den : Int)])) p [.int (Rat.divInt a d).num, .int ((Rat.divInt a d).den : Int)] := SqT.of upd_same
      have l1 : ¬ (10 ^ 60 : Int) < (if (Rat.divInt a d).num < 0 then - (Rat.divInt a d).num else (Rat.divInt a d).num) := by
        have := hfit.1
        unfold lim at this
        split <;> omega
      have l2 : ¬ (10 ^ 60 : Int) < ((Rat.divInt a d).den : Int) := by
        have := hfit.2
        unfold lim at this
        omega
      refine ⟨_, rfl, _, _, _, _, rfl, rfl, hT, atI_nat (j := 0) rfl, _, rfl, _, _, rfl, rfl, _, rfl, ?_⟩
      rw [decide_eq_false l1]
      refine iteF ?_
      refine ⟨_, rfl, _, _, _, _, rfl, rfl, hT, atI_nat (j := 1) rfl, _, _, rfl, rfl, _, rfl, ?_⟩
      rw [decide_eq_false l2]
      refine iteF ⟨_, rfl, ?_⟩
      exact k _ _ (Gw.new _ hp) ⟨⟨p, rfl, hT⟩, hfit⟩
end
end K44


set_option Elab.async false
set_option linter.all false
set_option maxRecDepth 100000
set_option maxHeartbeats 4000000
set_option exponentiation.threshold 3000
/-! The operations on parts. -/
namespace K44
open PySem L2
open LP (Fit lim)
theorem den_ne (a : Rat) : (a.den : Int) ≠ 0 := by have := a.den_nz; omega
theorem add_mk (a b : Rat) : Rat.divInt (a.num * b.den + b.num * a.den) (a.den * b.den) = a + b := by
  rw [← Rat.divInt_add_divInt _ _ (den_ne a) (den_ne b), Rat.num_divInt_den, Rat.num_divInt_den]
theorem sub_mk (a b : Rat) : Rat.divInt (a.num * b.den - b.num * a.den) (a.den * b.den) = a - b := by
  rw [← Rat.divInt_sub_divInt _ _ (den_ne a) (den_ne b), Rat.num_divInt_den, Rat.num_divInt_den]
theorem mul_mk (a b : Rat) : Rat.divInt (a.num * b.num) (a.den * b.den) = a * b := by
  rw [← Rat.divInt_mul_divInt, Rat.num_divInt_den, Rat.num_divInt_den]
theorem div_mk (a b : Rat) : Rat.divInt (a.num * b.den) (a.den * b.num) = a / b := by
  rw [← Rat.divInt_mul_divInt, Rat.num_divInt_den, ← Rat.inv_divInt, Rat.num_divInt_den, Rat.div_def]
theorem wide_nn {a b : Rat} (ha : Fit a) (hb : Fit b) : CMulW a.num b.num := wide_mul (Fit.num_lt ha) (Fit.num_lt hb) (by decide) (by decide) (by decide)
theorem wide_nd {a b : Rat} (ha : Fit a) (hb : Fit b) : CMulW a.num b.den := wide_mul (Fit.num_lt ha) (Fit.den_lt hb) (by decide) (by decide) (by decide)
theorem wide_dn {a b : Rat} (ha : Fit a) (hb : Fit b) : CMulW a.den b.num := wide_mul (Fit.den_lt ha) (Fit.num_lt hb) (by decide) (by decide) (by decide)
theorem wide_dd {a b : Rat} (ha : Fit a) (hb : Fit b) : CMulW a.den b.den := wide_mul (Fit.den_lt ha) (Fit.den_lt hb) (by decide) (by decide) (by decide)
theorem lt_1000 {i j : Int} (h : (i * j).natAbs < 2 ^ (200 + 200)) : (i * j).natAbs < 2 ^ 1000 := Nat.lt_trans h (Nat.pow_lt_pow_of_lt (by decide) (by decide))
section
variable {P : Program} {w : World} {K : PySem.W.Frag} {mg : Str → Option Value} {base : Heap}
theorem sc2p : FnScope ["one", "other"] ["one", "other"] (defScope sPlus) := ⟨rfl, rfl, rfl, by decide +kernel, rfl, by decide +kernel, by decide +kernel⟩
theorem sc2m : FnScope ["one", "other"] ["one", "other"] (defScope sMinus) := ⟨rfl, rfl, rfl, by decide +kernel, rfl, by decide +kernel, by decide +kernel⟩
theorem sc2t : FnScope ["one", "other"] ["one", "other"] (defScope sTimes) := ⟨rfl, rfl, rfl, by decide +kernel, rfl, by decide +kernel, by decide +kernel⟩
theorem sc2o : FnScope ["one", "other"] ["one", "other"] (defScope sOver) := ⟨rfl, rfl, rfl, by decide +kernel, rfl, by decide +kernel, by decide +kernel⟩
theorem sc2l : FnScope ["one", "other"] ["one", "other"] (defScope sLess) := ⟨rfl, rfl, rfl, by decide +kernel, rfl, by decide +kernel, by decide +kernel⟩
abbrev CPart (P : Program) (w : World) (K : PySem.W.Frag) (mg : Str → Option Value) (base : Heap) := Cal P w K mg base "part" 1 ["one", "other"] (spPart K)
theorem ok_plus {f : Addr} {fd : FuncData} (F : Fun K "plus" "plus" sPlus f fd) (C : CPart P w K mg base) : FnOk P w K mg base CX0 2 f fd ["one", "other"] (sp2 K (· + ·)) := by
  refine F.ok sc2p (fun vs H Q E h => ?_) (fun cdv A outer s H vs Q E hr h => ?_)
  · obtain ⟨x, y, a, b, rfl, _⟩ := h
    rfl
  · obtain ⟨x, y, a, b, rfl, ⟨⟨p, rfl, hp⟩, fa⟩, ⟨⟨q, rfl, hq⟩, fb⟩, hfit, k⟩ := h
    refine ⟨_, pss_one (ps_ret (pe_call C.ok hr rfl C.hm C.kp C.b .nil pass0 (pa_cons (pe_op op_add (pe_op op_mulW (pe_ix ix_tup (pv 0) pe_int (fun _ _ => rfl)) (pe_ix ix_tup (pv 1) pe_int (fun _ _ => rfl)))
      (pe_op op_mulW (pe_ix ix_tup (pv 1) pe_int (fun _ _ => rfl)) (pe_ix ix_tup (pv 0) pe_int (fun _ _ => rfl))))
      (pa_cons (pe_op op_mulW (pe_ix ix_tup (pv 0) pe_int (fun _ _ => rfl)) (pe_ix ix_tup (pv 1) pe_int (fun _ _ => rfl))) pa_nil)))), ?_⟩
    refine ⟨_, rfl, _, _, _, _, rfl, rfl, hp, atI_nat (j := 0) rfl, _, rfl, _, _, _, _, rfl, rfl, hq, atI_nat (j := 1) rfl, _, _, rfl, rfl, wide_nd fa fb,
      _, rfl, _, _, _, _, rfl, rfl, hq, atI_nat (j := 0) rfl, _, rfl, _, _, _, _, rfl, rfl, hp, atI_nat (j := 1) rfl, _, _, rfl, rfl, wide_nd fb fa, _, _, rfl, rfl,
      _, rfl, _, _, _, _, rfl, rfl, hp, atI_nat (j := 1) rfl, _, rfl, _, _, _, _, rfl, rfl, hq, atI_nat (j := 1) rfl, _, _, rfl, rfl, wide_dd fa fb,
      _, _, rfl, Int.mul_ne_zero (den_ne a) (den_ne b), lt_1000 (wide_lt (Fit.den_lt fa) (Fit.den_lt fb)), (by rw [add_mk]; exact hfit), fun v H' g r => k v H' g ?_⟩
    rw [add_mk] at r
    exact r
theorem ok_minus {f : Addr} {fd : FuncData} (F : Fun K "minus" "minus" sMinus f fd) (C : CPart P w K mg base) : FnOk P w K mg base CX0 2 f fd ["one", "other"] (sp2 K (· - ·)) := by
  refine F.ok sc2m (fun vs H Q E h => ?_) (fun cdv A outer s H vs Q E hr h => ?_)
  · obtain ⟨x, y, a, b, rfl, _⟩ := h
    rfl
  · obtain ⟨x, y, a, b, rfl, ⟨⟨p, rfl, hp⟩, fa⟩, ⟨⟨q, rfl, hq⟩, fb⟩, hfit, k⟩ := h
    refine ⟨_, pss_one (ps_ret (pe_call C.ok hr rfl C.hm C.kp C.b .nil pass0 (pa_cons (pe_op op_sub (pe_op op_mulW (pe_ix ix_tup (pv 0) pe_int (fun _ _ => rfl)) (pe_ix ix_tup (pv 1) pe_int (fun _ _ => rfl)))
      (pe_op op_mulW (pe_ix ix_tup (pv 1) pe_int (fun _ _ => rfl)) (pe_ix ix_tup (pv 0) pe_int (fun _ _ => rfl))))
      (pa_cons (pe_op op_mulW (pe_ix ix_tup (pv 0) pe_int (fun _ _ => rfl)) (pe_ix ix_tup (pv 1) pe_int (fun _ _ => rfl))) pa_nil)))), ?_⟩
    refine ⟨_, rfl, _, _, _, _, rfl, rfl, hp, atI_nat (j := 0) rfl, _, rfl, _, _, _, _, rfl, rfl, hq, atI_nat (j := 1) rfl, _, _, rfl, rfl, wide_nd fa fb,
      _, rfl, _, _, _, _, rfl, rfl, hq, atI_nat (j := 0) rfl, _, rfl, _, _, _, _, rfl, rfl, hp, atI_nat (j := 1) rfl, _, _, rfl, rfl, wide_nd fb fa, _, _, rfl, rfl,
      _, rfl, _, _, _, _, rfl, rfl, hp, atI_nat (j := 1) rfl, _, rfl, _, _, _, _, rfl, rfl, hq, atI_nat (j := 1) rfl, _, _, rfl, rfl, wide_dd fa fb,
      _, _, rfl, Int.mul_ne_zero (den_ne a) (den_ne b), lt_1000 (wide_lt (Fit.den_lt fa) (Fit.den_lt fb)), (by rw [sub_mk]; exact hfit), fun v H' g r => k v H' g ?_⟩
    rw [sub_mk] at r
    exact r
theorem ok_times {f : Addr} {fd : FuncData} (F : Fun K "times" "times" sTimes f fd) (C : CPart P w K mg base) : FnOk P w K mg base CX0 2 f fd ["one", "other"] (sp2 K (· * ·)) := by
  refine F.ok sc2t (fun vs H Q E h => ?_) (fun cdv A outer s H vs Q E hr h => ?_)
  · obtain ⟨x, y, a, b, rfl, _⟩ := h
    rfl
  · obtain ⟨x, y, a, b, rfl, ⟨⟨p, rfl, hp⟩, fa⟩, ⟨⟨q, rfl, hq⟩, fb⟩, hfit, k⟩ := h
    refine ⟨_, pss_one (ps_ret (pe_call C.ok hr rfl C.hm C.kp C.b .nil pass0 (pa_cons (pe_op op_mulW (pe_ix ix_tup (pv 0) pe_int (fun _ _ => rfl)) (pe_ix ix_tup (pv 1) pe_int (fun _ _ => rfl)))
      (pa_cons (pe_op op_mulW (pe_ix ix_tup (pv 0) pe_int (fun _ _ => rfl)) (pe_ix ix_tup (pv 1) pe_int (fun _ _ => rfl))) pa_nil)))), ?_⟩
    refine ⟨_, rfl, _, _, _, _, rfl, rfl, hp, atI_nat (j := 0) rfl, _, rfl, _, _, _, _, rfl, rfl, hq, atI_nat (j := 0) rfl, _, _, rfl, rfl, wide_nn fa fb,
      _, rfl, _, _, _, _, rfl, rfl, hp, atI_nat (j := 1) rfl, _, rfl, _, _, _, _, rfl, rfl, hq, atI_nat (j := 1) rfl, _, _, rfl, rfl, wide_dd fa fb,
      _, _, rfl, Int.mul_ne_zero (den_ne a) (den_ne b), lt_1000 (wide_lt (Fit.den_lt fa) (Fit.den_lt fb)), (by rw [mul_mk]; exact hfit), fun v H' g r => k v H' g ?_⟩
    rw [mul_mk] at r
    exact r
theorem num_ne {a : Rat} (h : a ≠ 0) : a.num ≠ 0 := fun z => h (Rat.num_eq_zero.mp z)
theorem ok_over {f : Addr} {fd : FuncData} (F : Fun K "over" "over" sOver f fd) (C : CPart P w K mg base) : FnOk P w K mg base CX0 2 f fd ["one", "other"] (sp2o K) := by
  refine F.ok sc2o (fun vs H Q E h => ?_) (fun cdv A outer s H vs Q E hr h => ?_)
  · obtain ⟨x, y, a, b, rfl, _⟩ := h
    rfl
  · obtain ⟨x, y, a, b, rfl, ⟨⟨p, rfl, hp⟩, fa⟩, ⟨⟨q, rfl, hq⟩, fb⟩, hb, hfit, k⟩ := h
    refine ⟨_, pss_one (ps_ret (pe_call C.ok hr rfl C.hm C.kp C.b .nil pass0 (pa_cons (pe_op op_mulW (pe_ix ix_tup (pv 0) pe_int (fun _ _ => rfl)) (pe_ix ix_tup (pv 1) pe_int (fun _ _ => rfl)))
      (pa_cons (pe_op op_mulW (pe_ix ix_tup (pv 0) pe_int (fun _ _ => rfl)) (pe_ix ix_tup (pv 1) pe_int (fun _ _ => rfl))) pa_nil)))), ?_⟩
    refine ⟨_, rfl, _, _, _, _, rfl, rfl, hp, atI_nat (j := 0) rfl, _, rfl, _, _, _, _, rfl, rfl, hq, atI_nat (j := 1) rfl, _, _, rfl, rfl, wide_nd fa fb,
      _, rfl, _, _, _, _, rfl, rfl, hp, atI_nat (j := 1) rfl, _, rfl, _, _, _, _, rfl, rfl, hq, atI_nat (j := 0) rfl, _, _, rfl, rfl, wide_dn fa fb,
      _, _, rfl, Int.mul_ne_zero (den_ne a) (num_ne hb), lt_1000 (wide_lt (Fit.den_lt fa) (Fit.num_lt fb)), (by rw [div_mk]; exact hfit), fun v H' g r => k v H' g ?_⟩
    rw [div_mk] at r
    exact r
theorem ok_less {f : Addr} {fd : FuncData} (F : Fun K "is_less" "is_less" sLess f fd) : FnOk P w K mg base CX0 1 f fd ["one", "other"] (spLess K) := by
  refine F.ok sc2l (fun vs H Q E h => ?_) (fun cdv A outer s H vs Q E hr h => ?_)
  · obtain ⟨x, y, a, b, rfl, _⟩ := h
    rfl
  · obtain ⟨x, y, a, b, rfl, ⟨⟨p, rfl, hp⟩, fa⟩, ⟨⟨q, rfl, hq⟩, fb⟩, k⟩ := h
    refine ⟨_, pss_one (ps_ret (pe_cmpR op_lt (pe_op op_mulW (pe_ix ix_tup (pv 0) pe_int (fun _ _ => rfl)) (pe_ix ix_tup (pv 1) pe_int (fun _ _ => rfl)))
      (pe_op op_mulW (pe_ix ix_tup (pv 1) pe_int (fun _ _ => rfl)) (pe_ix ix_tup (pv 0) pe_int (fun _ _ => rfl))) (nomark _))), ?_⟩
    refine ⟨_, rfl, _, _, _, _, rfl, rfl, hp, atI_nat (j := 0) rfl, _, rfl, _, _, _, _, rfl, rfl, hq, atI_nat (j := 1) rfl, _, _, rfl, rfl, wide_nd fa fb,
      _, rfl, _, _, _, _, rfl, rfl, hq, atI_nat (j := 0) rfl, _, rfl, _, _, _, _, rfl, rfl, hp, atI_nat (j := 1) rfl, _, _, rfl, rfl, wide_nd fb fa, _, _, rfl, rfl, ?_⟩
    dsimp only
    rw [show decide (a.num * (b.den : Int) < b.num * (a.den : Int)) = decide (a < b) from decide_eq_decide.mpr (Rat.lt_iff a b).symm]
    exact k
end
end K44


set_option Elab.async false
set_option linter.all false
set_option maxRecDepth 100000
set_option maxHeartbeats 4000000
set_option exponentiation.threshold 3000
/-! Rows of parts, lists that are being made; sums. -/
namespace K44
open PySem L2
open LP (Fit lim S)

/-! ### the heap without an object of one's own -/
def rm (H : Hp) (D : Addr) : Hp := fun b => if b = D then none else H b
theorem rm_ne {H : Hp} {D b : Addr} (h : b ≠ D) : rm H D b = H b := if_neg h
theorem rm_same {H : Hp} {D : Addr} : rm H D D = none := if_pos rfl
theorem rm_some {H : Hp} {D b : Addr} {o : HO} (h : rm H D b = some o) : b ≠ D ∧ H b = some o := by
  unfold rm at h
  by_cases e : b = D
  · rw [if_pos e] at h; cases h
  · rw [if_neg e] at h; exact ⟨e, h⟩
theorem rm_none {H : Hp} {D : Addr} (h : H D = none) : rm H D = H := by
  funext b; unfold rm; split
  · rename_i e; rw [e, h]
  · rfl
theorem rm_upd {H : Hp} {D : Addr} {o : HO} : rm (upd H D o) D = rm H D := by
  funext b; unfold rm upd; split <;> rfl
theorem Gw.rm_le {H : Hp} {D : Addr} : Gw (rm H D) H := fun b o e => .inl (rm_some e).2
theorem Gw.rm_up {H : Hp} {D : Addr} {o : HO} : Gw (rm H D) (L2.upd H D o) := fun b u e => by
  obtain ⟨h1, h2⟩ := rm_some e
  exact .inl (by rw [upd_ne h1]; exact h2)
theorem Gw.rm {H H' : Hp} {D : Addr} (g : Gw H H') : Gw (K44.rm H D) (K44.rm H' D) := fun b o e => by
  obtain ⟨h1, h2⟩ := rm_some e
  rcases g b o h2 with z | ⟨ps, ps', e1, e2, t⟩
  · exact .inl (by rw [rm_ne h1]; exact z)
  · exact .inr ⟨ps, ps', e1, by rw [rm_ne h1]; exact e2, t⟩
theorem Gw.rm_free {H H' : Hp} {D : Addr} (g : Gw H H') (h : H D = none) : Gw H (K44.rm H' D) := by
  have := g.rm (D := D)
  rw [rm_none h] at this
  exact this
theorem sqT_rm {K : PySem.W.Frag} {H : Hp} {D a : Addr} {xs ys : List V} (h : SqT K H a xs) (hD : H D = some (.lst ys)) : SqT K (rm H D) a xs := by
  have ne : ∀ o, H a = some o → (∀ l, o ≠ .lst l) → a ≠ D := fun o e n z => by
    rw [z, hD] at e
    exact n ys (Option.some.inj e).symm
  rcases h with (h | ⟨o, h⟩) | h
  · exact .inl (.inl (by rw [rm_ne (ne _ h fun l z => by cases z)]; exact h))
  · exact .inl (.inr ⟨o, by rw [rm_ne (ne _ h fun l z => by cases z)]; exact h⟩)
  · exact .inr h
theorem PAt.rm {K : PySem.W.Frag} {H : Hp} {D : Addr} {v : V} {q : Rat} {ys : List V} (h : PAt K H v q) (hD : H D = some (.lst ys)) : PAt K (K44.rm H D) v q := by
  obtain ⟨⟨a, e, s⟩, f⟩ := h
  exact ⟨⟨a, e, sqT_rm s hD⟩, f⟩

/-! ### rows of parts -/
/-- the items of vs are the parts f 0, f 1, .. -/
def Items (K : PySem.W.Frag) (H : Hp) (vs : List V) (n : Nat) (f : Nat → Rat) : Prop := vs.length = n ∧ ∀ i, i < n → ∃ x, vs[i]? = some x ∧ PAt K H x (f i)
/-- a list of parts, a tuple of parts -/
def VL (K : PySem.W.Frag) (H : Hp) (v : V) (n : Nat) (f : Nat → Rat) : Prop := ∃ a vs, v = .ref a ∧ SqL K H a vs ∧ Items K H vs n f
def VT (K : PySem.W.Frag) (H : Hp) (v : V) (n : Nat) (f : Nat → Rat) : Prop := ∃ a vs, v = .ref a ∧ SqT K H a vs ∧ Items K H vs n f
section
variable {K : PySem.W.Frag} {H H' : Hp} {v : V} {n : Nat} {f : Nat → Rat}
theorem Items.gw {vs : List V} (h : Items K H vs n f) (g : Gw H H') : Items K H' vs n f := ⟨h.1, fun i hi => let ⟨x, e, p⟩ := h.2 i hi; ⟨x, e, p.gw g⟩⟩
theorem VL.gw (h : VL K H v n f) (g : Gw H H') : VL K H' v n f := let ⟨a, vs, e, s, i⟩ := h; ⟨a, vs, e, g.sqL s, i.gw g⟩
theorem VT.gw (h : VT K H v n f) (g : Gw H H') : VT K H' v n f := let ⟨a, vs, e, s, i⟩ := h; ⟨a, vs, e, g.sqT s, i.gw g⟩
theorem Items.congr {vs : List V} {f' : Nat → Rat} (h : Items K H vs n f) (e : ∀ i, i < n → f i = f' i) : Items K H vs n f' := ⟨h.1, fun i hi => by rw [← e i hi]; exact h.2 i hi⟩
theorem VL.congr {f' : Nat → Rat} (h : VL K H v n f) (e : ∀ i, i < n → f i = f' i) : VL K H v n f' := let ⟨a, vs, e1, s, i⟩ := h; ⟨a, vs, e1, s, i.congr e⟩
theorem VT.congr {f' : Nat → Rat} (h : VT K H v n f) (e : ∀ i, i < n → f i = f' i) : VT K H v n f' := let ⟨a, vs, e1, s, i⟩ := h; ⟨a, vs, e1, s, i.congr e⟩
end

/-! ### lists that are made by a comprehension -/
/-- a comprehension without tests over n turns: what is made at turn i keeps R i -/
theorem lc_grow {J : It} {n : Nat} {G : Hp → Prop} {Y : Nat → Hp → V → Hp → Prop} (w : Walk J n G Y) {g : TG} {te : TE} {vs : List Nat} {σ : L2.St} {H1 : Hp} {D : Addr} {Qd : Hp → Prop} (nD : H1 D = none) (hn : n ≤ 100000)
    (R : Nat → V → Hp → Prop) (monoR : ∀ i v H H', Gw H H' → R i v H → R i v H') (hG : ∀ H, Gw H1 H → G H)
    (step : ∀ i x H H', i < n → Gw H1 (rm H D) → Gw H1 H → (∃ xs, H D = some (.lst xs)) → Y i H x H' → ∀ C : VK, (∀ y H4, Gw H H4 → R i y (rm H4 D) → C y H4) → g x (wipe σ vs) H' fun σ2 H2 => wipe σ2 vs = wipe σ vs ∧ te σ2 H2 C)
    (hd : ∀ H xs, Gw H1 H → Gw H1 (rm H D) → H D = some (.lst xs) → xs.length = n → (∀ i, i < n → ∃ y, xs[i]? = some y ∧ R i y (rm H D)) → Qd H) :
    ∃ W : Nat → Nat → Hp → Prop, (∃ m, W 0 m (upd H1 D (.lst []))) ∧ ∀ i m H, W i m H →
      (J.stop i H ∧ Qd H) ∨ (J.go i H ∧ ∃ Nx : Hp → Prop, (∀ H', Nx H' → ∃ m', m' < m ∧ W (i + 1) m' H') ∧ ∀ x H', J.yld i H x H' → g x (wipe σ vs) H' fun σ2 H2 => wipe σ2 vs = wipe σ vs ∧ tYes σ2 H2 fun b H3 =>
        if b = true then te σ2 H3 fun y H4 => ∃ acc, H4 D = some (.lst acc) ∧ acc.length < sizeLine ∧ Nx (upd H4 D (.lst (acc ++ [y]))) else Nx H3) := by
  refine lc_it w (fun i H => ∃ xs, H D = some (.lst xs) ∧ xs.length = i ∧ Gw H1 (rm H D) ∧ ∀ j, j < i → ∃ y, xs[j]? = some y ∧ R j y (rm H D))
    ⟨[], upd_same, rfl, by rw [rm_upd, rm_none nD]; exact Gw.refl _, fun j hj => absurd hj (Nat.not_lt_zero _)⟩ (fun i H _ ⟨xs, _, _, g1, _⟩ => hG H (g1.trans Gw.rm_le)) ?_ (fun H ⟨xs, h1, h2, h3, h4⟩ => hd H xs (h3.trans Gw.rm_le) h3 h1 h2 h4)
  rintro i x H H' hi ⟨xs, h1, h2, h3, h4⟩ y
  refine step i x H H' hi h3 (h3.trans Gw.rm_le) ⟨xs, h1⟩ y _ (fun z H4 g4 r4 => ⟨xs, g4.at h1, by rw [h2]; exact Nat.lt_of_lt_of_le hi (Nat.le_trans hn (by decide)), xs ++ [z], upd_same, by simp [h2], ?_, fun j hj => ?_⟩)
  · rw [rm_upd]; exact h3.trans g4.rm
  · rw [rm_upd]
    by_cases e : j < i
    · obtain ⟨u, e1, r⟩ := h4 j e
      exact ⟨u, by rw [List.getElem?_append_left (by omega)]; exact e1, monoR _ _ _ _ g4.rm r⟩
    · have : j = i := by omega
      subst this
      exact ⟨z, by rw [List.getElem?_append_right (by omega), h2, Nat.sub_self]; rfl, r4⟩
theorem walk_zipT {K : PySem.W.Frag} {a b : Addr} {xs ys : List V} {n : Nat} (hn : n = min xs.length ys.length) : Walk (RZ.ItzT K a b) n (fun H => SqT K H a xs ∧ SqT K H b ys) (YPair (fun i => xs[i]?) (fun i => ys[i]?)) := by
  subst hn
  refine ⟨fun i _ hi q => ?_, fun _ q => ⟨xs, ys, q.1, q.2, by omega⟩, fun i H v H' _ q y => ?_⟩
  · have h1 : i < xs.length := by omega
    have h2 : i < ys.length := by omega
    exact ⟨xs, ys, xs[i], ys[i], q.1, q.2, by simp [h1], by simp [h2]⟩
  · obtain ⟨T, x, z, h1, h2, h3, h4, h5⟩ := y
    exact ⟨T, x, z, h1, h2, h3, h4 xs q.1, h5 ys q.2⟩
end K44


set_option Elab.async false
set_option linter.all false
set_option maxRecDepth 100000
set_option maxHeartbeats 4000000
set_option exponentiation.threshold 3000
/-! sum_of, weighed. -/
namespace K44
open PySem L2
open LP (Fit lim S)
def spSumOf (K : PySem.W.Frag) : Sp := fun vs H Q _ => ∃ (x : V) (n : Nat) (f : Nat → Rat), vs = [x] ∧ VL K H x n f ∧ (∀ k, k ≤ n → Fit (S k f)) ∧ Ans H (fun v H' => PAt K H' v (S n f)) Q
/-- two lists, or two tuples -/
def Two (K : PySem.W.Frag) (H : Hp) (x y : V) (n : Nat) (f g : Nat → Rat) : Prop := (VL K H x n f ∧ VL K H y n g) ∨ (VT K H x n f ∧ VT K H y n g)
def spWeighed (K : PySem.W.Frag) : Sp := fun vs H Q _ => ∃ (x y : V) (n : Nat) (f g : Nat → Rat), vs = [x, y] ∧ n ≤ 1000 ∧ Two K H x y n f g ∧ (∀ i, i < n → Fit (f i * g i)) ∧ (∀ k, k ≤ n → Fit (S k fun i => f i * g i)) ∧
  Ans H (fun v H' => PAt K H' v (S n fun i => f i * g i)) Q
abbrev sSumOf : Stmt := top 19
abbrev sWeighed : Stmt := top 20
section
variable {P : Program} {w : World} {K : PySem.W.Frag} {mg : Str → Option Value} {base : Heap}
theorem scSumOf : FnScope ["rows", "found", "one"] ["rows"] (defScope sSumOf) := ⟨rfl, rfl, rfl, by decide +kernel, rfl, by decide +kernel, by decide +kernel⟩
theorem scWeighed : FnScope ["row", "other", "one", "two"] ["row", "other"] (defScope sWeighed) := ⟨rfl, rfl, rfl, by decide +kernel, rfl, by decide +kernel, by decide +kernel⟩
abbrev C2 (P : Program) (w : World) (K : PySem.W.Frag) (mg : Str → Option Value) (base : Heap) (x : Str) (f : Rat → Rat → Rat) := Cal P w K mg base x 2 ["one", "other"] (sp2 K f)
theorem ok_sumOf {f : Addr} {fd : FuncData} (F : Fun K "sum_of" "sum_of" sSumOf f fd) (T : Txt K mg) (C : C2 P w K mg base "plus" (· + ·)) : FnOk P w K mg base CX0 3 f fd ["rows"] (spSumOf K) := by
  refine F.ok scSumOf (fun vs H Q E h => ?_) (fun cdv A outer s H vs Q E hr h => ?_)
  · obtain ⟨x, n, f, rfl, _⟩ := h
    rfl
  · obtain ⟨x, n, f, rfl, ⟨a, vs, rfl, hs, hlen, hit⟩, hfit, k⟩ := h
    obtain ⟨az, hz, zt⟩ := T.zero
    refine ⟨_, pss_cons (ps_set (i := 1) scSumOf.nd rfl (Or.inl rfl) (pe_glob (v := .ref az) rfl hz rfl))
      (pss_cons (ps_for PassesOwn.never rfl (pi_list (pv 0)) (pg_name (i := 2) scSumOf.nd rfl (Or.inl rfl)) (pss_one (ps_set (i := 1) scSumOf.nd rfl (Or.inl rfl) (pe_call C.ok hr rfl C.hm C.kp C.b .nil pass0 (pa_cons (pv 1) (pa_cons (pv 2) pa_nil))))))
      (pss_one (ps_ret (pv 1)))), ?_⟩
    refine ⟨_, rfl, a, rfl, ⟨_, hs⟩, for_it (walk_list (xs := vs)) (fun i σ H' => ∃ (v : V) (o : Option V), σ = [some (.ref a), some v, o] ∧ Gw H H' ∧ PAt K H' v (S i f)) ⟨.ref az, none, rfl, Gw.refl _, ⟨⟨az, rfl, zt H⟩, fit_zero⟩⟩
      (fun i σ H' _ ⟨_, _, _, g, _⟩ => g.sqL hs) ?_ ?_⟩
    · rintro i x σ H1 H' hi ⟨v, o, rfl, g, hv⟩ ⟨rfl, hx⟩
      obtain ⟨x', hx', px⟩ := hit i (by omega)
      rw [hx] at hx'
      cases hx'
      refine ⟨_, rfl, _, rfl, _, _, S i f, f i, rfl, hv, px.gw g, hfit (i + 1) (by omega), fun v' H2 g2 r => ?_⟩
      exact ⟨v', _, rfl, g.trans g2, r⟩
    · rintro σ H' ⟨v, o, rfl, g, hv⟩
      rw [hlen] at hv
      exact ⟨_, rfl, k _ _ g hv⟩
theorem ok_weighed {f : Addr} {fd : FuncData} (F : Fun K "weighed" "weighed" sWeighed f fd) (T : Txt K mg) (C : C2 P w K mg base "times" (· * ·)) (D : Cal P w K mg base "sum_of" 3 ["rows"] (spSumOf K)) :
    FnOk P w K mg base CX0 4 f fd ["row", "other"] (spWeighed K) := by
  refine F.ok scWeighed (fun vs H Q E h => ?_) (fun cdv A outer s H vs Q E hr h => ?_)
  · obtain ⟨x, y, n, f, g, rfl, _⟩ := h
    rfl
  · obtain ⟨x, y, n, f, g, rfl, hn, h2, hf, hs, k⟩ := h
    refine ⟨_, pss_one (ps_ret (pe_call D.ok hr rfl D.hm D.kp D.b .nil pass0 (pa_cons
      (pe_lc (own := [("one", 2), ("two", 3)]) (g := gTup K 2 (gCons (gName 2) (gCons (gName 3) gNil))) (tt := tYes) rfl scWeighed.nd (RZ.pi_zipA rfl T.zip (pa_cons (pv 0) (pa_cons (pv 1) pa_nil))) (blkOk_by (N := ["row", "other", "one", "two"]) (sc := defScope sWeighed) (by decide +kernel))
        (fun _ _ _ _ _ => pg_tup rfl (pgs_cons (pg_name (i := 2) scWeighed.nd rfl (Or.inl rfl)) (pgs_cons (pg_name (i := 3) scWeighed.nd rfl (Or.inl rfl)) pgs_nil))) (fun _ _ _ _ _ => pts_nil)
        (fun _ _ _ _ _ => pe_call C.ok (hr.mono (by decide)) rfl C.hm C.kp C.b .nil pass0 (pa_cons (pv 2) (pa_cons (pv 3) pa_nil)))) pa_nil))), ?_⟩
    rcases h2 with ⟨⟨a, vs, rfl, ha, hx⟩, ⟨b, ys, rfl, hb, hy⟩⟩ | ⟨⟨a, vs, rfl, ha, hx⟩, ⟨b, ys, rfl, hb, hy⟩⟩
    · refine ⟨_, rfl, _, rfl, a, b, vs, ys, rfl, .inl ⟨ha, hb, fun L hL => lc_grow (walk_zip (K := K) (a := a) (b := b) (xs := vs) (ys := ys) (n := n) (by rw [hx.1, hy.1]; omega)) hL (by omega) (fun i v H => PAt K H v (f i * g i)) (fun _ _ _ _ g r => r.gw g)
        (fun H' gw => ⟨gw.sqL ha, gw.sqL hb⟩) (fun i x H1 H' hi _ g1 ⟨zs, hL1⟩ hY C hC => ?_) (fun H' zs g1 g2 hL1 hlen hz => ?_)⟩⟩
      · obtain ⟨p, u, v, rfl, hp, rfl, e1, e2⟩ := hY
        obtain ⟨u', e1', pu⟩ := hx.2 i hi
        obtain ⟨v', e2', pv⟩ := hy.2 i hi
        have e1 : vs[i]? = some u := e1
        have e2 : ys[i]? = some v := e2
        rw [e1] at e1'; cases e1'
        rw [e2] at e2'; cases e2'
        refine ⟨p, _, rfl, SqT.of upd_same, rfl, _, _, rfl, _, _, rfl, rfl, rfl, _, rfl, _, rfl, _, _, f i, g i, rfl, (pu.gw g1).gw (Gw.new _ hp), (pv.gw g1).gw (Gw.new _ hp), hf i hi, fun z H4 g4 r => ?_⟩
        have hg : Gw H1 H4 := (Gw.new _ hp).trans g4
        exact hC z H4 hg (r.rm (hg.at hL1))
      · exact ⟨_, n, fun i => f i * g i, rfl, ⟨L, zs, rfl, SqL.of hL1, hlen, fun i hi => let ⟨y, e, r⟩ := hz i hi; ⟨y, e, r.gw Gw.rm_le⟩⟩, hs, fun v H2 g3 r => k v H2 (g1.trans g3) r⟩
    · refine ⟨_, rfl, _, rfl, a, b, vs, ys, rfl, .inr ⟨ha, hb, fun L hL => lc_grow (walk_zipT (K := K) (a := a) (b := b) (xs := vs) (ys := ys) (n := n) (by rw [hx.1, hy.1]; omega)) hL (by omega) (fun i v H => PAt K H v (f i * g i)) (fun _ _ _ _ g r => r.gw g)
        (fun H' gw => ⟨gw.sqT ha, gw.sqT hb⟩) (fun i x H1 H' hi _ g1 ⟨zs, hL1⟩ hY C hC => ?_) (fun H' zs g1 g2 hL1 hlen hz => ?_)⟩⟩
      · obtain ⟨p, u, v, rfl, hp, rfl, e1, e2⟩ := hY
        obtain ⟨u', e1', pu⟩ := hx.2 i hi
        obtain ⟨v', e2', pv⟩ := hy.2 i hi
        have e1 : vs[i]? = some u := e1
        have e2 : ys[i]? = some v := e2
        rw [e1] at e1'; cases e1'
        rw [e2] at e2'; cases e2'
        refine ⟨p, _, rfl, SqT.of upd_same, rfl, _, _, rfl, _, _, rfl, rfl, rfl, _, rfl, _, rfl, _, _, f i, g i, rfl, (pu.gw g1).gw (Gw.new _ hp), (pv.gw g1).gw (Gw.new _ hp), hf i hi, fun z H4 g4 r => ?_⟩
        have hg : Gw H1 H4 := (Gw.new _ hp).trans g4
        exact hC z H4 hg (r.rm (hg.at hL1))
      · exact ⟨_, n, fun i => f i * g i, rfl, ⟨L, zs, rfl, SqL.of hL1, hlen, fun i hi => let ⟨y, e, r⟩ := hz i hi; ⟨y, e, r.gw Gw.rm_le⟩⟩, hs, fun v H2 g3 r => k v H2 (g1.trans g3) r⟩
end
end K44


set_option Elab.async false
set_option linter.all false
set_option maxRecDepth 100000
set_option maxHeartbeats 4000000
set_option exponentiation.threshold 3000
/-! is_number, is_part, is_places, is_system. -/
namespace K44
open PySem L2
open LP (Fit lim S)
/-- a def whose code object stands at c -/
structure FunC (K : PySem.W.Frag) (x qual : Str) (st : Stmt) (c f : Addr) (fd : FuncData) : Prop where
  ex : ∃ (oc : Value) (od : Option Addr) (kV doc pm : Value) (an : Option Addr) (ct : Value) (osl : Array (Option Value)),
    fd = PySem.W.fnOf x qual (defArgs st) (defBody st) (defScope st) .none kV doc pm an (.ref c) ct ∧ K.lookup f = some ⟨oc, od, .func fd, osl⟩ ∧ PySem.W.codeIn K (.ref c) qual = true
  kp : PySem.W.keepIn K (.ref f) = true
section
variable {P : Program} {w : World} {K : PySem.W.Frag} {mg : Str → Option Value} {base : Heap}
theorem FunC.ok {x qual : Str} {st : Stmt} {c f : Addr} {fd : FuncData} {N ps : List Str} {k : Nat} {sp : Sp} (F : FunC K x qual st c f fd) (S : FnScope N ps (defScope st)) (len : ∀ vs H Q E, sp vs H Q E → vs.length = ps.length)
    (hbody : ∀ (A : Around) (outer : List Env) (s : Shared) (H : Hp) (vs : List V) (Q : VK) (E : XK), Room k (A.deeper (PyProof.Rows.envOfC qual (defScope st) s.heap.objs.size f (.ref c))) → sp vs H Q E →
      ∃ t, PSs (cxOf CX0 P w K mg base N qual (defScope st) f (.ref c) A outer s H E).nox (defBody st) t ∧ t { nx := fun _ H' => Q .non H', rt := Q } (start N vs) H) : FnOk P w K mg base CX0 (k + 1) f fd ps sp := by
  obtain ⟨oc, od, kV, doc, pm, an, ct, osl, rfl, lk, hcd⟩ := F.ex
  refine fn_of lk hcd S len fun A outer s H vs Q E hr hsp => ?_
  obtain ⟨t, h, q⟩ := hbody A outer s H vs Q E hr hsp
  exact ⟨t, h.nox, q⟩
end

/-! ### walks of generator expressions -/
/-- n turns; those before k do not stop, the k-th (if k < n) stops -/
theorem plan_it {J : It} {n : Nat} {G : Hp → Prop} {Y : Nat → Hp → V → Hp → Prop} (w : Walk J n G Y) {stopB : Bool} {g : TG} {te : TE} {vs : List Nat} {σ : L2.St} {H0 : Hp} {Qe Qs : Hp → Prop} (tr : Nat → Bool)
    (hG : ∀ H, Gw H0 H → G H)
    (step : ∀ i x H H', i < n → Gw H0 H → Y i H x H' → ∀ C : VK, (∀ H4, Gw H H4 → C (.bl (tr i)) H4) → g x (wipe σ vs) H' fun σ2 H2 => wipe σ2 vs = wipe σ vs ∧ te σ2 H2 C)
    (hs : ∀ i H, i < n → (∀ j, j < i → tr j ≠ stopB) → tr i = stopB → Gw H0 H → Qs H) (he : ∀ H, (∀ i, i < n → tr i ≠ stopB) → Gw H0 H → Qe H) :
    ∃ W : Nat → Nat → Hp → Prop, (∃ m, W 0 m H0) ∧ GA.Plan J stopB g te vs σ Qe Qs W := by
  refine ⟨fun i m H => m = n - i ∧ i ≤ n ∧ Gw H0 H ∧ ∀ j, j < i → tr j ≠ stopB, ⟨n, by simp, Nat.zero_le _, Gw.refl _, fun j hj => absurd hj (Nat.not_lt_zero _)⟩, ?_⟩
  rintro i m H ⟨rfl, hi, g1, p⟩
  have q := hG H g1
  by_cases hlt : i < n
  · refine .inr ⟨w.goes i H hlt q, fun H' => Gw H0 H' ∧ ∀ j, j < i + 1 → tr j ≠ stopB, fun H' p' => ⟨n - (i + 1), by omega, rfl, hlt, p'.1, p'.2⟩, fun x H' y => ?_⟩
    refine step i x H H' hlt g1 (w.yields i H x H' hlt q y) _ fun H4 g4 => ⟨tr i, rfl, ?_⟩
    by_cases e : tr i = stopB
    · rw [if_pos e]; exact hs i H4 hlt p e (g1.trans g4)
    · rw [if_neg e]
      exact ⟨g1.trans g4, fun j hj => by
        by_cases h : j < i
        · exact p j h
        · have : j = i := by omega
          subst this; exact e⟩
  · have e : i = n := by omega
    subst e
    exact .inl ⟨w.stops H q, he H p g1⟩
theorem walk_tupY {K : PySem.W.Frag} {a : Addr} {xs : List V} {n : Nat} (hn : xs.length = n) : Walk (Itt K a) n (fun H => SqT K H a xs) (YAt xs) := by
  subst hn; exact walk_tup

abbrev sIsNumber : Stmt := top 7
abbrev sIsPart : Stmt := top 12
abbrev sIsSystem : Stmt := top 24
abbrev sIsPlaces : Stmt := top 25
def spIsNumber : Sp := fun vs H Q _ => ∃ a l u : Int, vs = [.int a, .int l, .int u] ∧ Q (.bl (decide (l ≤ a) && decide (a ≤ u))) H
def spIsPart (K : PySem.W.Frag) : Sp := fun vs H Q _ => ∃ (x : V) (q : Rat), vs = [x] ∧ PAt K H x q ∧ Q (.bl true) H
section
variable {P : Program} {w : World} {K : PySem.W.Frag} {mg : Str → Option Value} {base : Heap}
theorem scIsNumber : FnScope ["value", "least", "most"] ["value", "least", "most"] (defScope sIsNumber) := ⟨rfl, rfl, rfl, by decide +kernel, rfl, by decide +kernel, by decide +kernel⟩
theorem scIsPart : FnScope ["value"] ["value"] (defScope sIsPart) := ⟨rfl, rfl, rfl, by decide +kernel, rfl, by decide +kernel, by decide +kernel⟩
theorem ok_isNumber {f : Addr} {fd : FuncData} (F : Fun K "is_number" "is_number" sIsNumber f fd) (T : Txt K mg) : FnOk P w K mg base CX0 1 f fd ["value", "least", "most"] spIsNumber := by
  refine F.ok scIsNumber (fun vs H Q E h => ?_) (fun cdv A outer s H vs Q E hr h => ?_)
  · obtain ⟨a, l, u, rfl, _⟩ := h
    rfl
  · obtain ⟨a, l, u, rfl, k⟩ := h
    refine ⟨_, pss_one (ps_ret (pe_and (pe_callB call_isi (by rfl) T.isi (by decide +kernel) (pa_cons (pv 0) (pa_cons (pe_bltn (v := .ty "int") (by rfl) T.int (by decide +kernel) rfl) pa_nil)))
      (pe_and (pe_not (pe_callB call_isi (by rfl) T.isi (by decide +kernel) (pa_cons (pv 0) (pa_cons (pe_bltn (v := .ty "bool") (by rfl) T.bool (by decide +kernel) rfl) pa_nil))))
      (pe_one (pe_chain op_le op_le (pv 1) (pv 0) (pv 2)))))), ?_⟩
    refine ⟨_, rfl, _, _, _, _, _, rfl, .ty _, .base (.int _), kit_ty (r := true) (by decide +kernel), _, rfl, ?_⟩
    refine iteT ?_
    refine ⟨_, rfl, _, _, _, _, _, rfl, .ty _, .base (.int _), kit_ty (r := false) (by decide +kernel), _, rfl, _, rfl, ?_⟩
    refine iteT ?_
    refine ⟨_, rfl, _, rfl, _, _, rfl, rfl, _, rfl, ?_⟩
    by_cases h : l ≤ a
    · rw [decide_eq_true h] at k ⊢
      refine iteT ⟨_, rfl, _, _, rfl, rfl, ?_⟩
      exact k
    · rw [decide_eq_false h] at k ⊢
      exact iteF k
theorem tyx_tup {H : Hp} {a : Addr} {xs : List V} (h : SqT K H a xs) : TyX K H (.ref a) (.type "tuple") := by
  rcases h with (h | ⟨o, h⟩) | ⟨o, its, n, h1, h2, _⟩
  · exact .base (.tup h)
  · exact .fTuple h
  · exact .kTuple h1 h2
theorem tyx_lst {H : Hp} {a : Addr} {xs : List V} (h : SqL K H a xs) : TyX K H (.ref a) (.type "list") := by
  rcases h with (h | ⟨o, h⟩) | ⟨o, its, n, h1, h2, _⟩
  · exact .base (.lst h)
  · exact .base (.frz h)
  · exact .kList h1 h2
theorem ok_isPart {f : Addr} {fd : FuncData} (F : Fun K "is_part" "is_part" sIsPart f fd) (T : Txt K mg) (C : Cal P w K mg base "is_number" 1 ["value", "least", "most"] spIsNumber) : FnOk P w K mg base CX0 2 f fd ["value"] (spIsPart K) := by
  refine F.ok scIsPart (fun vs H Q E h => ?_) (fun cdv A outer s H vs Q E hr h => ?_)
  · obtain ⟨x, q, rfl, _⟩ := h
    rfl
  · obtain ⟨x, q, rfl, ⟨⟨a, rfl, hs⟩, fq⟩, k⟩ := h
    obtain ⟨t, hM⟩ := T.most
    refine ⟨_, pss_cons (ps_if (PW.pt (pw_or (pt_not (pt_val (pe_callB call_isi (by rfl) T.isi (by decide +kernel) (pa_cons (pv 0) (pa_cons (pe_bltn (v := .ty "tuple") (by rfl) T.tuple (by decide +kernel) rfl) pa_nil)))))
        (pw_or1 (pt_cmpR op_ne (pe_callB call_len_seq (by rfl) T.len PySem.boot_len (pa_cons (pv 0) pa_nil)) pe_int (nomark _))))) (pss_one ps_never) pss_nil)
      (pss_cons (ps_if (PW.pt (pw_or (pt_not (pt_val (pe_call C.ok hr rfl C.hm C.kp C.b .nil pass0 (pa_cons (pe_ix ix_tup (pv 0) pe_int (fun _ _ => rfl)) (pa_cons (pe_un un_neg (pe_glob (v := .int (10 ^ 60)) rfl hM ⟨t, rfl⟩)) (pa_cons (pe_glob (v := .int (10 ^ 60)) rfl hM ⟨t, rfl⟩) pa_nil))))))
          (pw_or1 (pt_not (pt_val (pe_call C.ok hr rfl C.hm C.kp C.b .nil pass0 (pa_cons (pe_ix ix_tup (pv 0) pe_int (fun _ _ => rfl)) (pa_cons pe_int (pa_cons (pe_glob (v := .int (10 ^ 60)) rfl hM ⟨t, rfl⟩) pa_nil))))))))) (pss_one ps_never) pss_nil)
      (pss_one (ps_ret (pe_cmpR op_eq (pe_callBfun cr_gcd rfl T.gcd (pa_cons (pe_ix ix_tup (pv 0) pe_int (fun _ _ => rfl)) (pa_cons (pe_ix ix_tup (pv 0) pe_int (fun _ _ => rfl)) pa_nil))) pe_int (nomark _))))), ?_⟩
    have hn := fq.1
    have hd := fq.2
    have hp := q.den_pos
    unfold lim at hn hd
    refine ⟨_, rfl, _, _, _, _, _, rfl, .ty _, tyx_tup hs, kit_ty (r := true) (by decide +kernel), _, rfl, ?_⟩
    refine iteF ?_
    refine ⟨_, rfl, a, _, rfl, .inr hs, rfl, _, rfl, ?_⟩
    refine iteF ?_
    refine ⟨_, rfl, _, _, _, _, rfl, rfl, hs, atI_nat (j := 0) rfl, _, rfl, _, _, _, rfl, _, rfl, ?_⟩
    rw [decide_eq_true (show (-(10 ^ 60) : Int) ≤ q.num by omega), decide_eq_true (show q.num ≤ (10 ^ 60 : Int) by omega)]
    refine iteF ?_
    refine ⟨_, rfl, _, _, _, _, rfl, rfl, hs, atI_nat (j := 1) rfl, _, _, _, rfl, _, rfl, ?_⟩
    rw [decide_eq_true (show (1 : Int) ≤ q.den by omega), decide_eq_true (show (q.den : Int) ≤ (10 ^ 60 : Int) by omega)]
    refine iteF ?_
    refine ⟨_, rfl, _, _, _, _, rfl, rfl, hs, atI_nat (j := 0) rfl, _, rfl, _, _, _, _, rfl, rfl, hs, atI_nat (j := 1) rfl, _, _, rfl, rfl, ?_⟩
    have hc : Nat.gcd q.num.natAbs (q.den : Int).natAbs = 1 := q.reduced
    rw [hc]
    exact k
end
end K44


set_option Elab.async false
set_option linter.all false
set_option maxRecDepth 100000
set_option maxHeartbeats 4000000
/-! The layer's rules with the written part K named. -/
namespace K44
open PySem L2
variable {X : Cx}
theorem ixL (K : PySem.W.Frag) (h : X.K = K := by rfl) : IxR X (rIxL K) := by subst h; exact ix_list
theorem ixT (K : PySem.W.Frag) (h : X.K = K := by rfl) : IxR X (rIxT K) := by subst h; exact ix_tup
def rLenK (K : PySem.W.Frag) : List V → Hp → VK → Prop := fun xs H Q => ∃ p ys, xs = [.ref p] ∧ (SqL K H p ys ∨ SqT K H p ys) ∧ Q (.int ys.length) H
theorem lenK (K : PySem.W.Frag) (h : X.K = K := by rfl) : CallR X (.builtin "len") (rLenK K) := by subst h; exact call_len_seq
theorem fldK (K : PySem.W.Frag) {e : Expr} {f : Str} {pos : Pos} {ta : TE} (he : PE X e ta) (h : X.K = K := by rfl) (hb : attributeBase e f X.env (eval e X.env) = eval e X.env := by rfl) : PE X (.Attribute e f pos) (tFld K ta f) := by
  subst h; exact pe_fld he hb
theorem eqK (K : PySem.W.Frag) (hu : X.A.units + 64 < cLine) (h : X.K = K := by rfl) : OpR X (compareOp .Eq) (rEqD K) := by subst h; exact op_eqD hu
theorem neK (K : PySem.W.Frag) (hu : X.A.units + 64 < cLine) (h : X.K = K := by rfl) : OpR X (compareOp .NotEq) (rNeD K) := by subst h; exact op_neD hu
theorem starK (K : PySem.W.Frag) {e : Expr} {es : List Expr} {te : TE} {t : TA} {p : Pos} (he : PE X e te) (hr : PA X es t) (h : X.K = K := by rfl) (hs : starEach (.Starred e p :: es) X.env = (true, eval e X.env) :: starEach es X.env := by rfl) : PA X (.Starred e p :: es) (StX.tStar K te t) := by
  subst h; exact StX.pa_star he hr hs
theorem slL (K : PySem.W.Frag) (h : X.K = K := by rfl) : SlR X (rSlL K) := by subst h; exact sl_list
theorem isiK (K : PySem.W.Frag) (h : X.K = K := by rfl) : CallR X (.builtin "isinstance") (rIsi K) := by subst h; exact call_isi
theorem zipK (K : PySem.W.Frag) {e e2 : Expr} {ta : TA} {p pos tpos : Pos} {elts : List Expr} {kk : Nat} (hg : Gl X "zip") (hm : X.mg "zip" = none) (ha : PA X [e, e2] ta) (h : X.K = K := by rfl)
    (hs : starEach [e, e2] X.env = (false, eval e X.env) :: starEach [e2] X.env := by rfl) (hpl : (backTo pos (starEach [e2] X.env)).any (·.1) = false := by rfl) :
    PI X (.Tuple elts kk tpos) (.Call (.Name "zip" p) [e, e2] [] pos) (RZ.iZipA K ta) := by subst h; exact RZ.pi_zipA hg hm ha hs hpl
theorem listK (K : PySem.W.Frag) {tg l : Expr} {tl : TE} (hl : PE X l tl) (h : X.K = K := by rfl) : PI X tg l (iList K tl) := by subst h; exact pi_list hl
theorem tupK (K : PySem.W.Frag) {tg l : Expr} {tl : TE} (hl : PE X l tl) (h : X.K = K := by rfl) : PI X tg l (iTup K tl) := by subst h; exact pi_tup hl
theorem enumK (K : PySem.W.Frag) {e : Expr} {ta : TA} {p pos tpos : Pos} {elts : List Expr} {kk : Nat} (hg : Gl X "enumerate") (hm : X.mg "enumerate" = none) (ha : PA X [e] ta) (h : X.K = K := by rfl) (hs : starEach [e] X.env = [(false, eval e X.env)] := by rfl) :
    PI X (.Tuple elts kk tpos) (.Call (.Name "enumerate" p) [e] [] pos) (iEnum K ta) := by subst h; exact pi_enum hg hm ha hs
end K44


set_option Elab.async false
set_option linter.all false
set_option maxRecDepth 100000
set_option maxHeartbeats 4000000
set_option exponentiation.threshold 3000
/-! is_places, is_system. -/
namespace K44
open PySem L2
open LP (Fit lim S)
/-- the tables of the defs that make generator expressions -/
structure Tabs where
  places : Addr
  system : Addr
  meets : Addr
  weights : Addr
structure TabsOk (t : Tabs) (H : Hp) : Prop where
  places : GxR.TabG H t.places
  system : GxR.TabG H t.system
  meets : GxR.TabG H t.meets
  weights : GxR.TabG H t.weights
theorem TabsOk.gw {t : Tabs} {H H' : Hp} (h : TabsOk t H) (g : Gw H H') : TabsOk t H' := ⟨g.tabG h.places, g.tabG h.system, g.tabG h.meets, g.tabG h.weights⟩
def spIsPlaces (K : PySem.W.Frag) (t : Tabs) : Sp := fun vs H Q _ => ∃ (x : V) (n : Nat) (f : Nat → Rat), vs = [x, .int n] ∧ VT K H x n f ∧ TabsOk t H ∧ Ans H (fun v _ => v = .bl true) Q
section
variable {P : Program} {w : World} {K : PySem.W.Frag} {mg : Str → Option Value} {base : Heap}
theorem scIsPlaces : FnScope ["value", "many", "one"] ["value", "many"] (defScope sIsPlaces) := ⟨rfl, rfl, rfl, by decide +kernel, rfl, by decide +kernel, by decide +kernel⟩
theorem ok_isPlaces {t : Tabs} {c f : Addr} {fd : FuncData} (F : FunC K "is_places" "is_places" sIsPlaces c f fd) (T : Txt K mg) (TB : GxR.TabB base mg c t.places) (C : Cal P w K mg base "is_part" 2 ["value"] (spIsPart K)) :
    FnOk P w K mg base CX0 4 f fd ["value", "many"] (spIsPlaces K t) := by
  refine F.ok scIsPlaces (fun vs H Q E h => ?_) (fun A outer s H vs Q E hr h => ?_)
  · obtain ⟨x, n, f, rfl, _⟩ := h
    rfl
  · obtain ⟨x, n, f, rfl, ⟨a, vs, rfl, hs, hl, hit⟩, ht, k⟩ := h
    refine ⟨_, pss_one (ps_ret (pe_and (pe_callB call_isi (by rfl) T.isi (by decide +kernel) (pa_cons (pv 0) (pa_cons (pe_bltn (v := .ty "tuple") (by rfl) T.tuple (by decide +kernel) rfl) pa_nil)))
      (pe_and (pe_cmpR op_eq (pe_callB (lenK K) (by rfl) T.len PySem.boot_len (pa_cons (pv 0) pa_nil)) (pv 1) (nomark _))
      (pe_one (GA.pe_allG (own := [("one", 2)]) (g := gName 2) hr rfl scIsPlaces.nd rfl T.all TB rfl (pi_tup (pv 0)) (blkOk_by (N := ["value", "many", "one"]) (sc := defScope sIsPlaces) (by decide +kernel)) ⟨rfl, by decide +kernel, rfl⟩
        (fun _ _ _ _ _ _ => pg_name (i := 2) scIsPlaces.nd rfl (Or.inl rfl)) (fun _ _ _ _ _ _ hr' => pe_call C.ok hr' rfl C.hm C.kp C.b .nil pass0 (pa_cons (pv 2) pa_nil))))))), ?_⟩
    refine ⟨_, rfl, _, _, _, _, _, rfl, .ty _, tyx_tup hs, kit_ty (r := true) (by decide +kernel), _, rfl, ?_⟩
    refine iteT ?_
    refine ⟨_, rfl, a, _, rfl, .inr hs, _, rfl, rfl, _, rfl, ?_⟩
    rw [decide_eq_true (show V.int (vs.length : Nat) = V.int (n : Nat) by rw [hl])]
    refine iteT ?_
    refine ⟨_, rfl, a, rfl, ⟨_, hs⟩, ht.places, fun H2 tb => ?_⟩
    refine plan_it (walk_tupY hl) (H0 := H2) (fun _ => true) (fun H' g => ((Gw.tab ht.places tb).trans g).sqT hs) (fun i x H1 H' hi g y C hC => ?_) (fun _ _ _ _ z => by cases z) (fun H' _ g => k _ _ ((Gw.tab ht.places tb).trans g) rfl)
    obtain ⟨rfl, hx⟩ := y
    obtain ⟨x', e, px⟩ := hit i hi
    rw [hx] at e; cases e
    exact ⟨rfl, _, rfl, _, f i, rfl, px.gw ((Gw.tab ht.places tb).trans g), hC _ (Gw.refl _)⟩
end
/-- a tuple of tuples of parts -/
def VTT (K : PySem.W.Frag) (H : Hp) (v : V) (m n : Nat) (col : Nat → Nat → Rat) : Prop := ∃ a vs, v = .ref a ∧ SqT K H a vs ∧ vs.length = m ∧ ∀ j, j < m → ∃ x, vs[j]? = some x ∧ VT K H x n (col j)
theorem VTT.gw {K : PySem.W.Frag} {H H' : Hp} {v : V} {m n : Nat} {col : Nat → Nat → Rat} (h : VTT K H v m n col) (g : Gw H H') : VTT K H' v m n col :=
  let ⟨a, vs, e, s, l, i⟩ := h; ⟨a, vs, e, g.sqT s, l, fun j hj => let ⟨x, e, p⟩ := i j hj; ⟨x, e, p.gw g⟩⟩
def spIsSystem (K : PySem.W.Frag) (t : Tabs) : Sp := fun vs H Q _ => ∃ (R r g : V) (m n : Nat) (col : Nat → Nat → Rat) (c want : Nat → Rat), vs = [R, r, g] ∧ VTT K H R m n col ∧ VT K H r m c ∧ VT K H g n want ∧ 0 < n ∧ m ≤ 1000 ∧ n ≤ 1000 ∧ TabsOk t H ∧ Ans H (fun v _ => v = .bl true) Q
section
variable {P : Program} {w : World} {K : PySem.W.Frag} {mg : Str → Option Value} {base : Heap}
theorem scIsSystem : FnScope ["rows", "right", "goal", "one", "row"] ["rows", "right", "goal"] (defScope sIsSystem) := ⟨rfl, rfl, rfl, by decide +kernel, rfl, by decide +kernel, by decide +kernel⟩
theorem ok_isSystem {t : Tabs} {c f : Addr} {fd : FuncData} (F : FunC K "is_system" "is_system" sIsSystem c f fd) (T : Txt K mg) (TB : GxR.TabB base mg c t.system) (C : Cal P w K mg base "is_part" 2 ["value"] (spIsPart K))
    (D : Cal P w K mg base "is_places" 4 ["value", "many"] (spIsPlaces K t)) : FnOk P w K mg base CX0 6 f fd ["rows", "right", "goal"] (spIsSystem K t) := by
  refine F.ok scIsSystem (fun vs H Q E h => ?_) (fun A outer s H vs Q E hr h => ?_)
  · obtain ⟨R, r, g, m, n, col, c, want, rfl, _⟩ := h
    rfl
  · obtain ⟨R, r, g, m, n, col, c, want, rfl, ⟨aR, vR, rfl, hR, lR, iR⟩, ⟨ar, vr, rfl, hr', lr, ir⟩, ⟨ag, vg, rfl, hg, lg, ig⟩, hn, hm1, hn1, ht, k⟩ := h
    refine ⟨_, pss_cons (ps_if (PW.pt (pw_or (pt_not (pt_val (pe_callB call_isi (by rfl) T.isi (by decide +kernel) (pa_cons (pv 0) (pa_cons (pe_bltn (v := .ty "tuple") (by rfl) T.tuple (by decide +kernel) rfl) pa_nil)))))
        (pw_or (pt_not (pt_val (pe_callB call_isi (by rfl) T.isi (by decide +kernel) (pa_cons (pv 1) (pa_cons (pe_bltn (v := .ty "tuple") (by rfl) T.tuple (by decide +kernel) rfl) pa_nil)))))
        (pw_or1 (pt_not (pt_val (pe_callB call_isi (by rfl) T.isi (by decide +kernel) (pa_cons (pv 2) (pa_cons (pe_bltn (v := .ty "tuple") (by rfl) T.tuple (by decide +kernel) rfl) pa_nil)))))))) ) (pss_one ps_never) pss_nil)
      (pss_cons (ps_if (PW.pt (pw_or (pt_not (pt_val (GA.pe_allG (k := 2) (own := [("one", 3)]) (g := gName 3) (hr.mono (by decide)) rfl scIsSystem.nd rfl T.all TB rfl (pi_tup (pe_tup (starK K (pv 1) (starK K (pv 2) pa_nil))))
            (blkOk_by (N := ["rows", "right", "goal", "one", "row"]) (sc := defScope sIsSystem) (by decide +kernel)) ⟨rfl, by decide +kernel, rfl⟩
            (fun _ _ _ _ _ _ => pg_name (i := 3) scIsSystem.nd rfl (Or.inl rfl)) (fun _ _ _ _ _ _ hr' => pe_call C.ok hr' rfl C.hm C.kp C.b .nil pass0 (pa_cons (pv 3) pa_nil)))))
          (pw_or (pt_cmpR op_ne (pe_callB (lenK K) (by rfl) T.len PySem.boot_len (pa_cons (pv 0) pa_nil)) (pe_callB (lenK K) (by rfl) T.len PySem.boot_len (pa_cons (pv 1) pa_nil)) (nomark _))
          (pw_or1 (pt_cmpR op_eq (pe_callB (lenK K) (by rfl) T.len PySem.boot_len (pa_cons (pv 2) pa_nil)) pe_int (nomark _)))))) (pss_one ps_never) pss_nil)
      (pss_one (ps_ret (GA.pe_allG (k := 4) (own := [("row", 4)]) (g := gName 4) hr rfl scIsSystem.nd rfl T.all TB rfl (pi_tup (pv 0))
            (blkOk_by (N := ["rows", "right", "goal", "one", "row"]) (sc := defScope sIsSystem) (by decide +kernel)) ⟨rfl, by decide +kernel, rfl⟩
            (fun _ _ _ _ _ _ => pg_name (i := 4) scIsSystem.nd rfl (Or.inl rfl))
            (fun _ _ _ _ _ _ hr' => pe_call D.ok hr' rfl D.hm D.kp D.b .nil pass0 (pa_cons (pv 4) (pa_cons (pe_callB (lenK K) (by rfl) T.len PySem.boot_len (pa_cons (pv 2) pa_nil)) pa_nil))))))), ?_⟩
    have isT : ∀ {a : Addr} {xs : List V} {H : Hp}, SqT K H a xs → TyX K H (.ref a) (.type "tuple") := tyx_tup
    refine ⟨_, rfl, _, _, _, _, _, rfl, .ty _, isT hR, kit_ty (r := true) (by decide +kernel), _, rfl, iteF ?_⟩
    refine ⟨_, rfl, _, _, _, _, _, rfl, .ty _, isT hr', kit_ty (r := true) (by decide +kernel), _, rfl, iteF ?_⟩
    refine ⟨_, rfl, _, _, _, _, _, rfl, .ty _, isT hg, kit_ty (r := true) (by decide +kernel), _, rfl, iteF ?_⟩
    -- all the parts of right and goal
    refine ⟨_, rfl, ar, vr, rfl, .inl hr', _, rfl, ag, vg, rfl, .inl hg, ?_⟩
    refine ⟨?_, fun p hp => ?_⟩
    · show (vr ++ (vg ++ [])).length ≤ sizeLine
      rw [List.length_append, List.append_nil, lr, lg]
      exact Nat.le_trans (Nat.add_le_add hm1 hn1) (by decide)
    have g1 : Gw H (upd H p (.tup (vr ++ (vg ++ [])))) := Gw.new _ hp
    have t1 := (ht.gw g1).system
    refine ⟨p, rfl, ⟨_, SqT.of upd_same⟩, t1, fun H2 tb => ?_⟩
    have g2 : Gw H H2 := g1.trans (Gw.tab t1 tb)
    have hp2 : H2 p = some (.tup (vr ++ (vg ++ []))) := (Gw.tab t1 tb).at upd_same
    refine plan_it (walk_tupY (xs := vr ++ (vg ++ [])) (n := m + n) (by rw [List.length_append, List.append_nil, lr, lg])) (H0 := H2) (fun _ => true) (fun H' g => SqT.of (g.at hp2)) (fun i x H1 H' hi g y C hC => ?_) (fun _ _ _ _ z => by cases z) (fun H3 _ g3 => ?_)
    · obtain ⟨rfl, hx⟩ := y
      have px : ∃ q, PAt K H x q := by
        by_cases h : i < m
        · obtain ⟨x', e, px⟩ := ir i h
          rw [List.getElem?_append_left (by omega), e] at hx
          cases hx
          exact ⟨_, px⟩
        · obtain ⟨x', e, px⟩ := ig (i - m) (by omega)
          rw [List.getElem?_append_right (by omega), List.append_nil, lr, e] at hx
          cases hx
          exact ⟨_, px⟩
      obtain ⟨q, px⟩ := px
      exact ⟨rfl, _, rfl, _, q, rfl, px.gw (g2.trans g), hC _ (Gw.refl _)⟩
    have g4 := g2.trans g3
    refine ⟨_, rfl, iteF ?_⟩
    refine ⟨_, rfl, aR, _, rfl, .inr (g4.sqT hR), _, rfl, ar, _, rfl, .inr (g4.sqT hr'), rfl, _, rfl, ?_⟩
    rw [decide_eq_true (show V.int (vR.length : Nat) = V.int (vr.length : Nat) by rw [lR, lr])]
    refine iteF ?_
    refine ⟨_, rfl, ag, _, rfl, .inr (g4.sqT hg), rfl, _, rfl, ?_⟩
    rw [decide_eq_false (show ¬ V.int (vg.length : Nat) = V.int 0 from fun z => by
      have := V.int.inj z
      omega)]
    refine iteF ?_
    have t3 := (ht.gw g4).system
    refine ⟨_, rfl, aR, rfl, ⟨_, g4.sqT hR⟩, t3, fun H5 tb5 => ?_⟩
    have g5 : Gw H H5 := g4.trans (Gw.tab t3 tb5)
    refine plan_it (walk_tupY lR) (H0 := H5) (fun _ => true) (fun H' g => (g5.trans g).sqT hR) (fun i x H1 H' hi g y C hC => ?_) (fun _ _ _ _ z => by cases z) (fun H' _ g => k _ _ (g5.trans g) rfl)
    obtain ⟨rfl, hx⟩ := y
    obtain ⟨x', e, px⟩ := iR i hi
    rw [hx] at e; cases e
    refine ⟨rfl, _, rfl, _, rfl, ag, _, rfl, .inr ((g5.trans g).sqT hg), ?_⟩
    exact ⟨_, n, col i, by rw [lg]; rfl, px.gw (g5.trans g), ht.gw (g5.trans g), fun v H4 g4 e => by rw [e]; exact hC _ g4⟩
end
end K44


set_option Elab.async false
set_option linter.all false
set_option maxRecDepth 100000
set_option maxHeartbeats 4000000
set_option exponentiation.threshold 3000
/-! Equality of parts and rows of parts; meets, are_weights, mixed. -/
namespace K44
open PySem L2
open LP (Fit lim S)
/-! ### equality -/
def rowD (f : Nat → Rat) : Nat → Nat → List PyData
  | _, 0 => []
  | i, n + 1 => partD (f i) :: rowD f (i + 1) n
theorem rowD_lay (f : Nat → Rat) : ∀ n i, PyData.canLayAll0 (rowD f i n) = true
  | 0, _ => rfl
  | n + 1, i => by
    show (PyData.canLay0 (partD (f i)) && PyData.canLayAll0 (rowD f (i + 1) n)) = true
    rw [rowD_lay f n (i + 1)]; rfl
theorem rowD_depth (f : Nat → Rat) : ∀ n i, PyData.depthAll (rowD f i n) ≤ 1
  | 0, _ => Nat.zero_le _
  | n + 1, i => by
    show max (PyData.depth (partD (f i))) (PyData.depthAll (rowD f (i + 1) n)) ≤ 1
    have := rowD_depth f n (i + 1)
    have : PyData.depth (partD (f i)) = 1 := rfl
    omega
theorem row_shaped (f : Nat → Rat) (n : Nat) : SeqAt.shaped (.tuple (rowD f 0 n)) = true := by
  unfold SeqAt.shaped
  rw [show PyData.canLay0 (.tuple (rowD f 0 n)) = true from rowD_lay f n 0, Bool.true_and]
  refine decide_eq_true ?_
  show PyData.depthAll (rowD f 0 n) + 1 ≤ 64
  have := rowD_depth f n 0
  omega
theorem part_shaped (q : Rat) : SeqAt.shaped (partD q) = true := rfl
theorem part_eqv (a b : Rat) : PyData.eqv (partD a) (partD b) = decide (a = b) := by
  show ((a.num == b.num) && (((a.den : Int) == (b.den : Int)) && true)) = decide (a = b)
  by_cases h : a = b
  · subst h; simp
  · rw [decide_eq_false h]
    rw [Bool.and_true, Bool.and_eq_false_iff]
    by_cases h1 : a.num = b.num
    · right
      refine beq_eq_false_iff_ne.mpr fun z => h (Rat.ext h1 (by omega))
    · left
      exact beq_eq_false_iff_ne.mpr h1
theorem row_eqv {f g : Nat → Rat} : ∀ n i, (∀ j, i ≤ j → j < i + n → f j = g j) → PyData.eqvAll (rowD f i n) (rowD g i n) = true
  | 0, _, _ => rfl
  | n + 1, i, h => by
    show (PyData.eqv (partD (f i)) (partD (g i)) && PyData.eqvAll (rowD f (i + 1) n) (rowD g (i + 1) n)) = true
    rw [part_eqv, decide_eq_true (h i (Nat.le_refl _) (by omega)), row_eqv n (i + 1) fun j h1 h2 => h j (by omega) (by omega)]
    rfl
theorem items_dp {K : PySem.W.Frag} {H : Hp} {f : Nat → Rat} : ∀ (n i : Nat) (vs : List V), vs.length = n → (∀ j, j < n → ∃ x, vs[j]? = some x ∧ PAt K H x (f (i + j))) → DpAll K H vs (rowD f i n)
  | 0, _, [], _, _ => .nil
  | 0, _, _ :: _, h, _ => by simp at h
  | n + 1, _, [], h, _ => by simp at h
  | n + 1, i, v :: vs, h, hit => by
    obtain ⟨x, e, p⟩ := hit 0 (by omega)
    cases e
    refine .cons p.dp (items_dp n (i + 1) vs (by simpa using h) fun j hj => ?_)
    obtain ⟨x, e, p⟩ := hit (j + 1) (by omega)
    exact ⟨x, by simpa using e, by rw [show i + 1 + j = i + (j + 1) by omega]; exact p⟩
theorem VT.dp {K : PySem.W.Frag} {H : Hp} {v : V} {n : Nat} {f : Nat → Rat} (h : VT K H v n f) : Dp K H v (.tuple (rowD f 0 n)) := by
  obtain ⟨a, vs, rfl, s, l, i⟩ := h
  exact .tup s (items_dp n 0 vs l fun j hj => by rw [Nat.zero_add]; exact i j hj)

/-! ### meets -/
/-- products and their sums are parts -/
def FitsW (n : Nat) (f g : Nat → Rat) : Prop := (∀ i, i < n → Fit (f i * g i)) ∧ ∀ k, k ≤ n → Fit (S k fun i => f i * g i)
abbrev sMeets : Stmt := top 30
abbrev sMixed : Stmt := top 31
abbrev sAreWeights : Stmt := top 32
def spMeets (K : PySem.W.Frag) (t : Tabs) : Sp := fun vs H Q _ => ∃ (R r p : V) (m n : Nat) (col : Nat → Nat → Rat) (c y : Nat → Rat), vs = [R, r, p] ∧ VTT K H R m n col ∧ VT K H r m c ∧ VT K H p n y ∧ m ≤ 1000 ∧ n ≤ 1000 ∧ TabsOk t H ∧
  (∀ j, j < m → FitsW n (col j) y) ∧ Ans H (fun v _ => ∃ b, v = .bl b ∧ (b = true ↔ ∀ j, j < m → c j ≤ S n fun k => col j k * y k)) Q
def spAreWeights (K : PySem.W.Frag) (t : Tabs) : Sp := fun vs H Q _ => ∃ (x : V) (n : Nat) (f : Nat → Rat), vs = [x, .int n] ∧ VT K H x n f ∧ TabsOk t H ∧ Ans H (fun v _ => ∃ b, v = .bl b ∧ (b = true ↔ ∀ i, i < n → 0 ≤ f i)) Q
def spMixed (K : PySem.W.Frag) : Sp := fun vs H Q _ => ∃ (R x : V) (m n : Nat) (col : Nat → Nat → Rat) (wt : Nat → Rat), vs = [R, x, .int n] ∧ VTT K H R m n col ∧ VT K H x m wt ∧ m ≤ 1000 ∧ n ≤ 1000 ∧
  (∀ k, k < n → FitsW m wt (fun j => col j k)) ∧ Ans H (fun v H' => VT K H' v n fun k => S m fun j => wt j * col j k) Q
abbrev CLess (P : Program) (w : World) (K : PySem.W.Frag) (mg : Str → Option Value) (base : Heap) := Cal P w K mg base "is_less" 1 ["one", "other"] (spLess K)
abbrev CWeighed (P : Program) (w : World) (K : PySem.W.Frag) (mg : Str → Option Value) (base : Heap) := Cal P w K mg base "weighed" 4 ["row", "other"] (spWeighed K)
abbrev CSumOf (P : Program) (w : World) (K : PySem.W.Frag) (mg : Str → Option Value) (base : Heap) := Cal P w K mg base "sum_of" 3 ["rows"] (spSumOf K)
section
variable {P : Program} {w : World} {K : PySem.W.Frag} {mg : Str → Option Value} {base : Heap}
theorem scMeets : FnScope ["rows", "right", "places", "row", "one"] ["rows", "right", "places"] (defScope sMeets) := ⟨rfl, rfl, rfl, by decide +kernel, rfl, by decide +kernel, by decide +kernel⟩
theorem scAreWeights : FnScope ["value", "many", "one"] ["value", "many"] (defScope sAreWeights) := ⟨rfl, rfl, rfl, by decide +kernel, rfl, by decide +kernel, by decide +kernel⟩
theorem ok_meets {t : Tabs} {c f : Addr} {fd : FuncData} (F : FunC K "meets" "meets" sMeets c f fd) (T : Txt K mg) (TB : GxR.TabB base mg c t.meets) (C : CLess P w K mg base) (D : CWeighed P w K mg base) :
    FnOk P w K mg base CX0 6 f fd ["rows", "right", "places"] (spMeets K t) := by
  refine F.ok scMeets (fun vs H Q E h => ?_) (fun A outer s H vs Q E hr h => ?_)
  · obtain ⟨R, r, p, m, n, col, c, y, rfl, _⟩ := h
    rfl
  · obtain ⟨R, r, p, m, n, col, c, y, rfl, ⟨aR, vR, rfl, hR, lR, iR⟩, ⟨ar, vr, rfl, hr', lr, ir⟩, hy, hm, hn, ht, hf, k⟩ := h
    refine ⟨_, pss_one (ps_ret (pe_not (GA.pe_anyG (k := 4) (own := [("row", 3), ("one", 4)]) (g := gTup K 2 (gCons (gName 3) (gCons (gName 4) gNil))) hr rfl scMeets.nd rfl T.any TB rfl (zipK K rfl T.zip (pa_cons (pv 0) (pa_cons (pv 1) pa_nil)))
      (blkOk_by (N := ["rows", "right", "places", "row", "one"]) (sc := defScope sMeets) (by decide +kernel)) ⟨rfl, by decide +kernel, rfl⟩
      (fun _ _ _ _ _ _ => pg_tup rfl (pgs_cons (pg_name (i := 3) scMeets.nd rfl (Or.inl rfl)) (pgs_cons (pg_name (i := 4) scMeets.nd rfl (Or.inl rfl)) pgs_nil)))
      (fun _ _ _ _ _ _ hr' => pe_call C.ok (hr'.mono (by decide)) rfl C.hm C.kp C.b .nil pass0 (pa_cons (pe_call D.ok hr' rfl D.hm D.kp D.b .nil pass0 (pa_cons (pv 3) (pa_cons (pv 2) pa_nil))) (pa_cons (pv 4) pa_nil)))))), ?_⟩
    refine ⟨_, rfl, _, rfl, aR, ar, vR, vr, rfl, .inr ⟨hR, hr', ht.meets, fun H2 tb => ?_⟩⟩
    have g2 : Gw H H2 := Gw.tab ht.meets tb
    refine plan_it (walk_zipT (K := K) (a := aR) (b := ar) (xs := vR) (ys := vr) (n := m) (by rw [lR, lr]; omega)) (H0 := H2) (fun j => decide ((S n fun k => col j k * y k) < c j)) (fun H' g => ⟨(g2.trans g).sqT hR, (g2.trans g).sqT hr'⟩)
      (fun i x H1 H' hi g y' C' hC => ?_) (fun i H3 hi _ e g => ⟨_, rfl, k _ _ (g2.trans g) ⟨_, rfl, ?_⟩⟩) (fun H3 e g => ⟨_, rfl, k _ _ (g2.trans g) ⟨_, rfl, ?_⟩⟩)
    · obtain ⟨q, u, v, rfl, hq, rfl, e1, e2⟩ := y'
      obtain ⟨u', e1', pu⟩ := iR i hi
      obtain ⟨v', e2', pv'⟩ := ir i hi
      have e1 : vR[i]? = some u := e1
      have e2 : vr[i]? = some v := e2
      rw [e1] at e1'; cases e1'
      rw [e2] at e2'; cases e2'
      have g3 : Gw H (upd H1 q (.tup [u, v])) := (g2.trans g).trans (Gw.new _ hq)
      refine ⟨q, _, rfl, SqT.of upd_same, rfl, _, _, rfl, _, _, rfl, rfl, rfl, ?_⟩
      refine ⟨_, rfl, _, rfl, _, _, n, col i, y, rfl, hn, .inr ⟨pu.gw g3, hy.gw g3⟩, (hf i hi).1, (hf i hi).2, fun z H4 g4 r4 => ?_⟩
      refine ⟨_, rfl, _, _, _, _, rfl, r4, pv'.gw (g3.trans g4), hC H4 ((Gw.new _ hq).trans g4)⟩
    · have e := of_decide_eq_true e
      exact ⟨fun z => absurd z (by decide), fun z => absurd (Std.lt_of_le_of_lt (z i hi) e) Rat.lt_irrefl⟩
    · refine ⟨fun _ j hj => ?_, fun _ => rfl⟩
      have := e j hj
      simp only [ne_eq, decide_eq_true_eq] at this
      exact Rat.not_lt.mp this
theorem ok_areWeights {t : Tabs} {c f : Addr} {fd : FuncData} (F : FunC K "are_weights" "are_weights" sAreWeights c f fd) (T : Txt K mg) (TB : GxR.TabB base mg c t.weights) (C : CLess P w K mg base)
    (D : Cal P w K mg base "is_places" 4 ["value", "many"] (spIsPlaces K t)) : FnOk P w K mg base CX0 5 f fd ["value", "many"] (spAreWeights K t) := by
  refine F.ok scAreWeights (fun vs H Q E h => ?_) (fun A outer s H vs Q E hr h => ?_)
  · obtain ⟨x, n, f, rfl, _⟩ := h
    rfl
  · obtain ⟨x, n, f, rfl, hx, ht, k⟩ := h
    obtain ⟨az, hz, zt⟩ := T.zero
    refine ⟨_, pss_one (ps_ret (pe_and (pe_call D.ok hr rfl D.hm D.kp D.b .nil pass0 (pa_cons (pv 0) (pa_cons (pv 1) pa_nil)))
      (pe_one (pe_not (GA.pe_anyG (k := 1) (own := [("one", 2)]) (g := gName 2) (hr.mono (by decide)) rfl scAreWeights.nd rfl T.any TB rfl (tupK K (pv 0))
        (blkOk_by (N := ["value", "many", "one"]) (sc := defScope sAreWeights) (by decide +kernel)) ⟨rfl, by decide +kernel, rfl⟩
        (fun _ _ _ _ _ _ => pg_name (i := 2) scAreWeights.nd rfl (Or.inl rfl)) (fun _ _ _ _ _ _ hr' => pe_call C.ok hr' rfl C.hm C.kp C.b .nil pass0 (pa_cons (pv 2) (pa_cons (pe_glob (v := .ref az) rfl hz rfl) pa_nil)))))))), ?_⟩
    refine ⟨_, rfl, _, rfl, x, n, f, rfl, hx, ht, fun v H1 g1 e => ?_⟩
    subst e
    obtain ⟨a, vs, rfl, hs, hl, hit⟩ := hx
    have t1 := (ht.gw g1).weights
    refine ⟨_, rfl, iteT ?_⟩
    refine ⟨_, rfl, a, rfl, ⟨_, g1.sqT hs⟩, t1, fun H2 tb => ?_⟩
    have g2 : Gw H H2 := g1.trans (Gw.tab t1 tb)
    refine plan_it (walk_tupY hl) (H0 := H2) (fun i => decide (f i < 0)) (fun H' g => (g2.trans g).sqT hs) (fun i x H1 H' hi g y C hC => ?_)
      (fun i H3 hi _ e g => ⟨_, rfl, k _ _ (g2.trans g) ⟨_, rfl, ?_⟩⟩) (fun H3 e g => ⟨_, rfl, k _ _ (g2.trans g) ⟨_, rfl, ?_⟩⟩)
    · obtain ⟨rfl, hx⟩ := y
      obtain ⟨x', e, px⟩ := hit i hi
      rw [hx] at e; cases e
      exact ⟨rfl, _, rfl, _, _, f i, 0, rfl, px.gw (g2.trans g), ⟨⟨az, rfl, zt _⟩, fit_zero⟩, hC _ (Gw.refl _)⟩
    · have e := of_decide_eq_true e
      exact ⟨fun z => absurd z (by decide), fun z => absurd (Std.lt_of_le_of_lt (z i hi) e) Rat.lt_irrefl⟩
    · refine ⟨fun _ j hj => ?_, fun _ => rfl⟩
      have := e j hj
      simp only [ne_eq, decide_eq_true_eq] at this
      exact Rat.not_lt.mp this
end
end K44


set_option Elab.async false
set_option linter.all false
set_option maxRecDepth 100000
set_option maxHeartbeats 4000000
set_option exponentiation.threshold 3000
/-! mixed. -/
namespace K44
open PySem L2
open LP (Fit lim S)
section
variable {P : Program} {w : World} {K : PySem.W.Frag} {mg : Str → Option Value} {base : Heap}
theorem scMixed : FnScope ["rows", "weights", "many", "place", "weight", "row"] ["rows", "weights", "many"] (defScope sMixed) := ⟨rfl, rfl, rfl, by decide +kernel, rfl, by decide +kernel, by decide +kernel⟩
theorem ok_mixed {f : Addr} {fd : FuncData} (F : Fun K "mixed" "mixed" sMixed f fd) (T : Txt K mg) (C : C2 P w K mg base "times" (· * ·)) (D : CSumOf P w K mg base) :
    FnOk P w K mg base CX0 4 f fd ["rows", "weights", "many"] (spMixed K) := by
  refine F.ok scMixed (fun vs H Q E h => ?_) (fun cdv A outer s H vs Q E hr h => ?_)
  · obtain ⟨R, x, m, n, col, wt, rfl, _⟩ := h
    rfl
  · obtain ⟨R, x, m, n, col, wt, rfl, ⟨aR, vR, rfl, hR, lR, iR⟩, ⟨aw, vw, rfl, hw, lw, iw⟩, hm, hn, hf, k⟩ := h
    refine ⟨_, pss_one (ps_ret (pe_callTy call_tuple_of (by rfl) T.tuple (by decide +kernel) (pa_cons
      (pe_lc (own := [("place", 3)]) (g := gName 3) (tt := tYes) rfl scMixed.nd (pi_range1 rfl T.range (pa_cons (pv 2) pa_nil)) (blkOk_by (N := ["rows", "weights", "many", "place", "weight", "row"]) (by kernel_rfl))
        (fun _ _ _ _ _ => pg_name (i := 3) scMixed.nd rfl (Or.inr rfl)) (fun _ _ _ _ _ => pts_nil)
        (fun _ _ _ _ _ => pe_call D.ok hr rfl D.hm D.kp D.b .nil pass0 (pa_cons
          (pe_lc (own := [("weight", 4), ("row", 5)]) (g := gTup K 2 (gCons (gName 4) (gCons (gName 5) gNil))) (tt := tYes) rfl scMixed.nd (zipK K rfl T.zip (pa_cons (pv 1) (pa_cons (pv 0) pa_nil)))
            (blkOk_by (N := ["rows", "weights", "many", "place", "weight", "row"]) (by kernel_rfl))
            (fun _ _ _ _ _ => pg_tup rfl (pgs_cons (pg_name (i := 4) scMixed.nd rfl (Or.inl rfl)) (pgs_cons (pg_name (i := 5) scMixed.nd rfl (Or.inl rfl)) pgs_nil))) (fun _ _ _ _ _ => pts_nil)
            (fun _ _ _ _ _ => pe_call C.ok (hr.mono (by decide)) rfl C.hm C.kp C.b .nil pass0 (pa_cons (pv 4) (pa_cons (pe_ix (ixT K) (pv 5) (pv 3) (fun _ _ => rfl)) pa_nil)))) pa_nil))) pa_nil))), ?_⟩
    refine ⟨_, rfl, (n : Int), rfl, by omega, by omega, fun D1 hD1 => lc_grow (walk_range (lo := 0) (n := (n : Int).toNat)) hD1 (by omega) (fun k v H => PAt K H v (S m fun j => wt j * col j k)) (fun _ _ _ _ g r => r.gw g)
      (fun _ _ => True.intro) (fun k x H1 H' hk _ g1 ⟨zs, hz⟩ hY C1 hC1 => ?_) (fun H' zs g1 g2 hz hlen hit => ?_)⟩
    · obtain ⟨rfl, rfl⟩ := hY
      have hk' : k < n := by omega
      refine ⟨rfl, _, rfl, _, rfl, aw, aR, vw, vR, rfl, .inr ⟨g1.sqT hw, g1.sqT hR, fun D2 hD2 => lc_grow (walk_zipT (K := K) (a := aw) (b := aR) (xs := vw) (ys := vR) (n := m) (by rw [lR, lw]; omega)) hD2 (by omega)
        (fun j v H => PAt K H v (wt j * col j k)) (fun _ _ _ _ g r => r.gw g) (fun H3 g3 => ⟨(g1.trans g3).sqT hw, (g1.trans g3).sqT hR⟩) (fun j x H3 H4 hj _ g3 ⟨ys, hy⟩ hY C2 hC2 => ?_) (fun H3 ys g3 g4 hy hlen hit => ?_)⟩⟩
      · obtain ⟨q, u, v, rfl, hq, rfl, e1, e2⟩ := hY
        obtain ⟨u', e1', pu⟩ := iw j hj
        obtain ⟨v', e2', ⟨av, vv, rfl, hv, lv, iv⟩⟩ := iR j hj
        have e1 : vw[j]? = some u := e1
        have e2 : vR[j]? = some v := e2
        rw [e1] at e1'; cases e1'
        rw [e2] at e2'; cases e2'
        obtain ⟨x, ex, px⟩ := iv k hk'
        have g5 : Gw H (upd H3 q (.tup [u, .ref av])) := (g1.trans g3).trans (Gw.new _ hq)
        refine ⟨q, _, rfl, SqT.of upd_same, rfl, _, _, rfl, _, _, rfl, rfl, rfl, _, rfl, _, rfl, _, rfl, _, _, _, _, rfl, rfl, g5.sqT hv, at_of (j := k) (by omega) ex, ?_⟩
        refine ⟨_, _, wt j, col j k, rfl, pu.gw g5, px.gw g5, (hf k hk').1 j hj, fun z H6 g6 r => ?_⟩
        have hg : Gw H3 H6 := (Gw.new _ hq).trans g6
        exact hC2 z H6 hg (r.rm (hg.at hy))
      · refine ⟨_, m, fun j => wt j * col j k, rfl, ⟨D2, ys, rfl, SqL.of hy, hlen, fun j hj => let ⟨y, e, r⟩ := hit j hj; ⟨y, e, r.gw Gw.rm_le⟩⟩, (hf k hk').2, fun v H5 g5 r => ?_⟩
        have hg := g3.trans g5
        exact hC1 v H5 hg (r.rm (hg.at hz))
    · refine ⟨D1, zs, rfl, .inl ⟨SqL.of hz, fun l hl => k _ _ (g1.trans (Gw.new _ hl)) ⟨l, zs, rfl, SqT.of upd_same, by rw [hlen]; omega, fun i hi => ?_⟩⟩⟩
      obtain ⟨y, e, r⟩ := hit i (by omega)
      exact ⟨y, e, (r.gw Gw.rm_le).gw (Gw.new _ hl)⟩
end
end K44


set_option Elab.async false
set_option linter.all false
set_option maxRecDepth 100000
set_option maxHeartbeats 4000000
/-! a tuple once: itself. -/
namespace K44
open PySem PySem.Spec PyProof.Rows L2
theorem tuple_mul1 (l : Addr) (items : Array Value) (n : Nat) (dd : Option Addr) (sl : Array (Option Value)) (u : Tok) (c1 : (items.isEmpty || (1 : Int) == 1) = true) :
    Meets (Builtin.«tuple.__mul__» ⟨[.ref l, .int 1 u], []⟩) (fun _ R s => s.heap.get? l = some { cls := .type "tuple", dict := dd, data := .seq items n, slots := sl } ∧
      R (.ok (.ret (Value.ref l))) s) :=
  .of_wp fun prog w A R s h => by
    obtain ⟨hp, g, d, tk, os⟩ := s
    obtain ⟨hl, h⟩ := h
    have f1 := AutoSeq1.idx_int
    have c0 : (decide ((1 : Int) < -(2 ^ 63)) || decide ((1 : Int) ≥ 2 ^ 63)) = false := by decide
    wp_walk using wpAny_loadPart' hl
    exact ⟨_, rfl, h⟩
def rRep1 (K : PySem.W.Frag) : R2 := fun x y H Q => ∃ l k xs, x = .ref l ∧ y = .int k ∧ SqT K H l xs ∧ xs ≠ [] ∧ 1 ≤ k ∧ k ≤ 1000 ∧ xs.length ≤ 1000 ∧ (k = 1 → Q (.ref l) H) ∧ ∀ p, H p = none → Q (.ref p) (upd H p (.tup (List.replicate k.toNat xs).flatten))
theorem op_rep1 {X : Cx} (K : PySem.W.Frag) (hK : X.K = K := by rfl) : OpR X (binaryOp .Mult) (rRep1 K) := by
  subst hK
  intro pins s σ H x y v u Q I rx ry h
  obtain ⟨l, k, xs, rfl, rfl, hT, hne, h1, h2, hz, q1, q2⟩ := h
  by_cases hk : 2 ≤ k
  · exact op_repT pins s σ H _ _ v u Q I rx ry ⟨l, k, xs, rfl, rfl, hT, hne, hk, h2, hz, q2⟩
  · have e : k = 1 := by omega
    subst e
    cases rx
    obtain ⟨t, rfl⟩ := ry
    obtain ⟨its, r, ⟨⟨cls, dd, data, sl⟩, ho, hc, n, hd⟩, hs⟩ := I.tuple hT
    simp only at hc hd
    subst hc hd
    refine wpAny_binaryOp_repeat_ref (T := "tuple") (U := "int") (by decide) ⟨_, ho, rfl⟩ (fun s' => typeIs_int s' 1 t) noFill_tuple_mul F.fills_int_mul F.slot_int_rmul repeat_tuple F.slot_int_index.lookup
      (call_meets F.slot_int_rmul (typeIs_int s 1 t) F.entry_int_rmul (F.args_int_rmul_2 _ _) (int_rmul_tuple 1 t l its.toArray n dd sl)
        ⟨ho, rfl, ⟨_, ho, rfl⟩, call_meets F.slot_tuple_mul ⟨_, ho, rfl⟩ F.entry_tuple_mul (F.args_tuple_mul_2 _ _) (tuple_mul1 l its.toArray n dd sl t (by simp)) ⟨ho, ?_⟩⟩)
    exact ⟨.ref l, H, I, rfl, q1 rfl⟩
end K44


set_option Elab.async false
set_option linter.all false
set_option maxRecDepth 100000
set_option maxHeartbeats 4000000
set_option exponentiation.threshold 3000
/-! The papers' judges. -/
namespace K44
open PySem L2
open LP (Fit lim S)
/-- a system: rows, right sides, goal -/
structure SysAt (K : PySem.W.Frag) (H : Hp) (R r g : V) (m n : Nat) (col : Nat → Nat → Rat) (c want : Nat → Rat) : Prop where
  rows : VTT K H R m n col
  right : VT K H r m c
  goal : VT K H g n want
  pos : 0 < n
  m1 : m ≤ 1000
  n1 : n ≤ 1000
theorem SysAt.gw {K : PySem.W.Frag} {H H' : Hp} {R r g : V} {m n : Nat} {col : Nat → Nat → Rat} {c want : Nat → Rat} (h : SysAt K H R r g m n col c want) (gw : Gw H H') : SysAt K H' R r g m n col c want :=
  ⟨h.rows.gw gw, h.right.gw gw, h.goal.gw gw, h.pos, h.m1, h.n1⟩
abbrev sProvesLeast : Stmt := top 33
abbrev sProvesNone : Stmt := top 34
abbrev sProvesEndless : Stmt := top 35
def spProvesLeast (K : PySem.W.Frag) (t : Tabs) : Sp := fun vs H Q _ => ∃ (R r g w0 p x : V) (m n : Nat) (col : Nat → Nat → Rat) (c want y wt : Nat → Rat) (v0 : Rat), vs = [R, r, g, w0, p, x] ∧ SysAt K H R r g m n col c want ∧ PAt K H w0 v0 ∧ VT K H p n y ∧ VT K H x m wt ∧ TabsOk t H ∧
  (∀ j, j < m → 0 ≤ wt j) ∧ (∀ j, j < m → c j ≤ S n fun k => col j k * y k) ∧ (∀ k, k < n → (S m fun j => wt j * col j k) = want k) ∧
  (∀ j, j < m → FitsW n (col j) y) ∧ (∀ k, k < n → FitsW m wt fun j => col j k) ∧ FitsW n want y ∧ FitsW m c wt ∧
  Ans H (fun v _ => v = .bl (decide ((S n fun k => want k * y k) = v0) && decide (v0 = S m fun j => c j * wt j))) Q
def spProvesNone (K : PySem.W.Frag) (t : Tabs) : Sp := fun vs H Q _ => ∃ (R r g x : V) (m n : Nat) (col : Nat → Nat → Rat) (c want wt : Nat → Rat), vs = [R, r, g, x] ∧ SysAt K H R r g m n col c want ∧ VT K H x m wt ∧ TabsOk t H ∧
  (∀ j, j < m → 0 ≤ wt j) ∧ (∀ k, k < n → (S m fun j => wt j * col j k) = 0) ∧ (0 < S m fun j => c j * wt j) ∧ (∀ k, k < n → FitsW m wt fun j => col j k) ∧ FitsW m c wt ∧ Ans H (fun v _ => v = .bl true) Q
def spProvesEndless (K : PySem.W.Frag) (t : Tabs) : Sp := fun vs H Q _ => ∃ (R r g p d : V) (m n : Nat) (col : Nat → Nat → Rat) (c want y z : Nat → Rat), vs = [R, r, g, p, d] ∧ SysAt K H R r g m n col c want ∧ VT K H p n y ∧ VT K H d n z ∧ TabsOk t H ∧
  (∀ j, j < m → c j ≤ S n fun k => col j k * y k) ∧ (∀ j, j < m → 0 ≤ S n fun k => col j k * z k) ∧ (S n fun k => want k * z k) < 0 ∧ (∀ j, j < m → FitsW n (col j) y) ∧ (∀ j, j < m → FitsW n (col j) z) ∧ FitsW n want z ∧ 0 < m ∧
  Ans H (fun v _ => v = .bl true) Q
section
variable {P : Program} {w : World} {K : PySem.W.Frag} {mg : Str → Option Value} {base : Heap}
abbrev CIsSystem (P : Program) (w : World) (K : PySem.W.Frag) (mg : Str → Option Value) (base : Heap) (t : Tabs) := Cal P w K mg base "is_system" 6 ["rows", "right", "goal"] (spIsSystem K t)
abbrev CIsPlaces (P : Program) (w : World) (K : PySem.W.Frag) (mg : Str → Option Value) (base : Heap) (t : Tabs) := Cal P w K mg base "is_places" 4 ["value", "many"] (spIsPlaces K t)
abbrev CAreWeights (P : Program) (w : World) (K : PySem.W.Frag) (mg : Str → Option Value) (base : Heap) (t : Tabs) := Cal P w K mg base "are_weights" 5 ["value", "many"] (spAreWeights K t)
abbrev CMeets (P : Program) (w : World) (K : PySem.W.Frag) (mg : Str → Option Value) (base : Heap) (t : Tabs) := Cal P w K mg base "meets" 6 ["rows", "right", "places"] (spMeets K t)
abbrev CMixed (P : Program) (w : World) (K : PySem.W.Frag) (mg : Str → Option Value) (base : Heap) := Cal P w K mg base "mixed" 4 ["rows", "weights", "many"] (spMixed K)
theorem scProvesLeast : FnScope ["rows", "right", "goal", "worth", "places", "weights"] ["rows", "right", "goal", "worth", "places", "weights"] (defScope sProvesLeast) := ⟨rfl, rfl, rfl, by decide +kernel, rfl, by decide +kernel, by decide +kernel⟩
theorem scProvesNone : FnScope ["rows", "right", "goal", "weights"] ["rows", "right", "goal", "weights"] (defScope sProvesNone) := ⟨rfl, rfl, rfl, by decide +kernel, rfl, by decide +kernel, by decide +kernel⟩
theorem scProvesEndless : FnScope ["rows", "right", "goal", "places", "way"] ["rows", "right", "goal", "places", "way"] (defScope sProvesEndless) := ⟨rfl, rfl, rfl, by decide +kernel, rfl, by decide +kernel, by decide +kernel⟩
theorem ok_provesLeast {t : Tabs} {f : Addr} {fd : FuncData} (F : Fun K "proves_least" "proves_least" sProvesLeast f fd) (T : Txt K mg) (C1 : CIsSystem P w K mg base t) (C2 : CIsPlaces P w K mg base t) (C3 : CAreWeights P w K mg base t)
    (C4 : CMeets P w K mg base t) (C5 : CMixed P w K mg base) (C6 : CWeighed P w K mg base) : FnOk P w K mg base CX0 7 f fd ["rows", "right", "goal", "worth", "places", "weights"] (spProvesLeast K t) := by
  refine F.ok scProvesLeast (fun vs H Q E h => ?_) (fun cdv A outer s H vs Q E hr h => ?_)
  · obtain ⟨R, r, g, w0, p, x, m, n, col, c, want, y, wt, v0, rfl, _⟩ := h
    rfl
  · obtain ⟨R, r, g, w0, p, x, m, n, col, c, want, y, wt, v0, rfl, sys, hw0, hp, hx, ht, h1, h2, h3, f1, f2, f3, f4, k⟩ := h
    refine ⟨_, pss_cons (ps_if (PW.pt (pw_or (pt_not (pt_val (pe_call C1.ok hr rfl C1.hm C1.kp C1.b .nil pass0 (pa_cons (pv 0) (pa_cons (pv 1) (pa_cons (pv 2) pa_nil))))))
        (pw_or (pt_not (pt_val (pe_call C2.ok (hr.mono (by decide)) rfl C2.hm C2.kp C2.b .nil pass0 (pa_cons (pv 4) (pa_cons (pe_callB (lenK K) (by rfl) T.len PySem.boot_len (pa_cons (pv 2) pa_nil)) pa_nil)))))
        (pw_or1 (pt_not (pt_val (pe_call C3.ok (hr.mono (by decide)) rfl C3.hm C3.kp C3.b .nil pass0 (pa_cons (pv 5) (pa_cons (pe_callB (lenK K) (by rfl) T.len PySem.boot_len (pa_cons (pv 0) pa_nil)) pa_nil))))))))) (pss_one ps_never) pss_nil)
      (pss_cons (ps_if (PW.pt (pw_or (pt_not (pt_val (pe_call C4.ok hr rfl C4.hm C4.kp C4.b .nil pass0 (pa_cons (pv 0) (pa_cons (pv 1) (pa_cons (pv 4) pa_nil))))))
        (pw_or1 (pt_cmpR (neK K hr.units) (pe_call C5.ok (hr.mono (by decide)) rfl C5.hm C5.kp C5.b .nil pass0 (pa_cons (pv 0) (pa_cons (pv 5) (pa_cons (pe_callB (lenK K) (by rfl) T.len PySem.boot_len (pa_cons (pv 2) pa_nil)) pa_nil)))) (pv 2) (nomark _))))) (pss_one ps_never) pss_nil)
      (pss_one (ps_ret (pe_and (pe_call C2.ok (hr.mono (by decide)) rfl C2.hm C2.kp C2.b .nil pass0 (pa_cons (pe_tup (pa_cons (pv 3) pa_nil)) (pa_cons pe_int pa_nil)))
        (pe_one (pe_chain (eqK K hr.units) (eqK K hr.units) (pe_call C6.ok (hr.mono (by decide)) rfl C6.hm C6.kp C6.b .nil pass0 (pa_cons (pv 2) (pa_cons (pv 4) pa_nil))) (pv 3)
          (pe_call C6.ok (hr.mono (by decide)) rfl C6.hm C6.kp C6.b .nil pass0 (pa_cons (pv 1) (pa_cons (pv 5) pa_nil)))))))))
      , ?_⟩
    obtain ⟨ag, vg, rfl, hg, lg, ig⟩ := id sys.goal
    obtain ⟨aR, vR, rfl, hR, lR, iR⟩ := id sys.rows
    refine ⟨_, rfl, _, rfl, _, rfl, _, r, _, m, n, col, c, want, rfl, sys.rows, sys.right, sys.goal, sys.pos, sys.m1, sys.n1, ht, fun v H1 g1 e => ?_⟩
    subst e
    refine ⟨_, rfl, iteF ?_⟩
    refine ⟨_, rfl, _, rfl, ag, vg, rfl, .inr (g1.sqT hg), p, n, y, by rw [lg]; rfl, hp.gw g1, ht.gw g1, fun v H2 g2 e => ?_⟩
    subst e
    refine ⟨_, rfl, iteF ?_⟩
    have g2 := g1.trans g2
    refine ⟨_, rfl, _, rfl, aR, vR, rfl, .inr (g2.sqT hR), x, m, wt, by rw [lR]; rfl, hx.gw g2, ht.gw g2, fun v H3 g3 e => ?_⟩
    obtain ⟨b, rfl, hb⟩ := e
    have := hb.mpr h1
    subst this
    refine ⟨_, rfl, iteF ?_⟩
    have g3 := g2.trans g3
    refine ⟨_, rfl, _, rfl, _, rfl, _, r, p, m, n, col, c, y, rfl, (sys.gw g3).rows, (sys.gw g3).right, hp.gw g3, sys.m1, sys.n1, ht.gw g3, f1, fun v H4 g4 e => ?_⟩
    obtain ⟨b, rfl, hb⟩ := e
    have := hb.mpr h2
    subst this
    refine ⟨_, rfl, iteF ?_⟩
    have g4 := g3.trans g4
    refine ⟨_, rfl, _, rfl, _, rfl, ag, vg, rfl, .inr (g4.sqT hg), .ref aR, x, m, n, col, wt, by rw [lg]; rfl, (sys.gw g4).rows, hx.gw g4, sys.m1, sys.n1, f2, fun v H5 g5 hv => ?_⟩
    have g5 := g4.trans g5
    refine ⟨_, rfl, _, _, hv.dp, (sys.gw g5).goal.dp, row_shaped _ _, row_shaped _ _, _, rfl, ?_⟩
    rw [show PyData.eqv (.tuple (rowD (fun k => S m fun j => wt j * col j k) 0 n)) (.tuple (rowD want 0 n)) = true from row_eqv n 0 fun j _ hj => h3 j (by omega)]
    refine iteF ?_
    refine ⟨_, rfl, (show 1 ≤ sizeLine by decide), fun q hq => ?_⟩
    have g6 := g5.trans (Gw.new (.tup [w0]) hq)
    refine ⟨.ref q, 1, fun _ => v0, rfl, ⟨q, [w0], rfl, SqT.of upd_same, rfl, fun i hi => ⟨w0, by rw [show i = 0 by omega]; rfl, hw0.gw g6⟩⟩, ht.gw g6, fun v H7 g7 e => ?_⟩
    subst e
    have g7 := g6.trans g7
    refine ⟨_, rfl, iteT ?_⟩
    refine ⟨_, rfl, _, rfl, _, p, n, want, y, rfl, sys.n1, .inr ⟨(sys.gw g7).goal, hp.gw g7⟩, f3.1, f3.2, fun v H8 g8 hv => ?_⟩
    have g8 := g7.trans g8
    refine ⟨_, rfl, _, _, hv.dp, (hw0.gw g8).dp, part_shaped _, part_shaped _, _, rfl, ?_⟩
    rw [part_eqv]
    by_cases e : (S n fun k => want k * y k) = v0
    · rw [decide_eq_true e] at k ⊢
      refine iteT ⟨_, rfl, _, rfl, r, x, m, c, wt, rfl, sys.m1, .inr ⟨(sys.gw g8).right, hx.gw g8⟩, f4.1, f4.2, fun v H9 g9 hv' => ?_⟩
      have g9 := g8.trans g9
      refine ⟨_, _, (hw0.gw g9).dp, hv'.dp, part_shaped _, part_shaped _, ?_⟩
      rw [part_eqv]
      exact k _ _ g9 rfl
    · rw [decide_eq_false e] at k ⊢
      exact iteF (k _ _ g8 rfl)
theorem flat1 {α : Type} (a : α) : ∀ n : Nat, (List.replicate n [a]).flatten = List.replicate n a
  | 0 => rfl
  | n + 1 => by rw [List.replicate_succ, List.flatten_cons, flat1 a n]; rfl
theorem zeros_vt {H : Hp} {az l : Addr} {n : Nat} (zt : SqT K H az [.int 0, .int 1]) (hl : H l = some (.tup (List.replicate n (V.ref az)))) : VT K H (.ref l) n fun _ => 0 :=
  ⟨l, _, rfl, SqT.of hl, List.length_replicate .., fun i hi => ⟨.ref az, by rw [List.getElem?_replicate, if_pos hi], ⟨⟨az, rfl, zt⟩, fit_zero⟩⟩⟩
theorem ok_provesNone {t : Tabs} {f : Addr} {fd : FuncData} (F : Fun K "proves_none" "proves_none" sProvesNone f fd) (T : Txt K mg) (C1 : CIsSystem P w K mg base t) (C3 : CAreWeights P w K mg base t)
    (C5 : CMixed P w K mg base) (C6 : CWeighed P w K mg base) (C7 : CLess P w K mg base) : FnOk P w K mg base CX0 7 f fd ["rows", "right", "goal", "weights"] (spProvesNone K t) := by
  refine F.ok scProvesNone (fun vs H Q E h => ?_) (fun cdv A outer s H vs Q E hr h => ?_)
  · obtain ⟨R, r, g, x, m, n, col, c, want, wt, rfl, _⟩ := h
    rfl
  · obtain ⟨R, r, g, x, m, n, col, c, want, wt, rfl, sys, hx, ht, h1, h2, h3, f1, f2, k⟩ := h
    obtain ⟨az, hz, zt⟩ := T.zero
    refine ⟨_, pss_cons (ps_if (PW.pt (pw_or (pt_not (pt_val (pe_call C1.ok hr rfl C1.hm C1.kp C1.b .nil pass0 (pa_cons (pv 0) (pa_cons (pv 1) (pa_cons (pv 2) pa_nil))))))
        (pw_or1 (pt_not (pt_val (pe_call C3.ok (hr.mono (by decide)) rfl C3.hm C3.kp C3.b .nil pass0 (pa_cons (pv 3) (pa_cons (pe_callB (lenK K) (by rfl) T.len PySem.boot_len (pa_cons (pv 0) pa_nil)) pa_nil)))))))) (pss_one ps_never) pss_nil)
      (pss_one (ps_ret (pe_and (pe_cmpR (eqK K hr.units) (pe_call C5.ok (hr.mono (by decide)) rfl C5.hm C5.kp C5.b .nil pass0 (pa_cons (pv 0) (pa_cons (pv 3) (pa_cons (pe_callB (lenK K) (by rfl) T.len PySem.boot_len (pa_cons (pv 2) pa_nil)) pa_nil))))
          (pe_op (op_rep1 K) (pe_tup (pa_cons (pe_glob (v := .ref az) rfl hz rfl) pa_nil)) (pe_callB (lenK K) (by rfl) T.len PySem.boot_len (pa_cons (pv 2) pa_nil))) (nomark _))
        (pe_one (pe_call C7.ok (hr.mono (by decide)) rfl C7.hm C7.kp C7.b .nil pass0 (pa_cons (pe_glob (v := .ref az) rfl hz rfl) (pa_cons (pe_call C6.ok (hr.mono (by decide)) rfl C6.hm C6.kp C6.b .nil pass0 (pa_cons (pv 1) (pa_cons (pv 3) pa_nil))) pa_nil))))))), ?_⟩
    obtain ⟨ag, vg, rfl, hg, lg, ig⟩ := id sys.goal
    obtain ⟨aR, vR, rfl, hR, lR, iR⟩ := id sys.rows
    refine ⟨_, rfl, _, rfl, _, rfl, _, r, _, m, n, col, c, want, rfl, sys.rows, sys.right, sys.goal, sys.pos, sys.m1, sys.n1, ht, fun v H1 g1 e => ?_⟩
    subst e
    refine ⟨_, rfl, iteF ?_⟩
    refine ⟨_, rfl, _, rfl, aR, vR, rfl, .inr (g1.sqT hR), x, m, wt, by rw [lR]; rfl, hx.gw g1, ht.gw g1, fun v H3 g3 e => ?_⟩
    obtain ⟨b, rfl, hb⟩ := e
    have := hb.mpr h1
    subst this
    refine ⟨_, rfl, iteF ?_⟩
    have g3 := g1.trans g3
    refine ⟨_, rfl, _, rfl, _, rfl, ag, vg, rfl, .inr (g3.sqT hg), .ref aR, x, m, n, col, wt, by rw [lg]; rfl, (sys.gw g3).rows, hx.gw g3, sys.m1, sys.n1, f1, fun v H5 g5 hv => ?_⟩
    have g5 := g3.trans g5
    refine ⟨(show 1 ≤ sizeLine by decide), fun q hq => ?_⟩
    have g6 := g5.trans (Gw.new (.tup [.ref az]) hq)
    have n1 := sys.n1
    have np := sys.pos
    refine ⟨_, rfl, ag, vg, rfl, .inr (g6.sqT hg), q, _, [.ref az], rfl, rfl, SqT.of upd_same, List.cons_ne_nil _ _, by omega, by omega, (show 1 ≤ 1000 by decide), fun e => ?c1, fun l hl => ?c2⟩
    case' c1 =>
      have hz0 : VT K (upd H5 q (.tup [.ref az])) (.ref q) n fun _ => 0 := zeros_vt (zt _) (by rw [show n = 1 by omega]; exact upd_same)
      have g7 := g6
      have g8 := Gw.new (.tup [V.ref az]) hq
    case' c2 =>
      have hz0 : VT K (upd (upd H5 q (.tup [.ref az])) l (.tup (List.replicate ((vg.length : Nat) : Int).toNat [V.ref az]).flatten)) (.ref l) n fun _ => 0 := zeros_vt (zt _) (by
        rw [show ((vg.length : Nat) : Int).toNat = n by omega, flat1]; exact upd_same)
      have g7 := g6.trans (Gw.new (.tup (List.replicate ((vg.length : Nat) : Int).toNat [V.ref az]).flatten) hl)
      have g8 := (Gw.new (.tup [V.ref az]) hq).trans (Gw.new (.tup (List.replicate ((vg.length : Nat) : Int).toNat [V.ref az]).flatten) hl)
    all_goals
      refine ⟨_, _, (hv.gw g8).dp, hz0.dp, row_shaped _ _, row_shaped _ _, _, rfl, ?_⟩
      rw [show PyData.eqv (.tuple (rowD (fun k => S m fun j => wt j * col j k) 0 n)) (.tuple (rowD (fun _ => 0) 0 n)) = true from row_eqv n 0 fun j _ hj => h2 j (by omega)]
      refine iteT ?_
      refine ⟨_, rfl, _, rfl, r, x, m, c, wt, rfl, sys.m1, .inr ⟨(sys.gw g7).right, hx.gw g7⟩, f2.1, f2.2, fun v H8 g9 hv' => ?_⟩
      refine ⟨.ref az, v, 0, _, rfl, ⟨⟨az, rfl, zt _⟩, fit_zero⟩, hv', ?_⟩
      rw [decide_eq_true h3]
      exact k _ _ (g7.trans g9) rfl
theorem ok_provesEndless {t : Tabs} {f : Addr} {fd : FuncData} (F : Fun K "proves_endless" "proves_endless" sProvesEndless f fd) (T : Txt K mg) (C1 : CIsSystem P w K mg base t) (C2 : CIsPlaces P w K mg base t)
    (C4 : CMeets P w K mg base t) (C6 : CWeighed P w K mg base) (C7 : CLess P w K mg base) : FnOk P w K mg base CX0 7 f fd ["rows", "right", "goal", "places", "way"] (spProvesEndless K t) := by
  refine F.ok scProvesEndless (fun vs H Q E h => ?_) (fun cdv A outer s H vs Q E hr h => ?_)
  · obtain ⟨R, r, g, p, d, m, n, col, c, want, y, z, rfl, _⟩ := h
    rfl
  · obtain ⟨R, r, g, p, d, m, n, col, c, want, y, z, rfl, sys, hp, hd, ht, h1, h2, h3, f1, f2, f3, hm0, k⟩ := h
    obtain ⟨az, hz, zt⟩ := T.zero
    refine ⟨_, pss_cons (ps_if (PW.pt (pw_or (pt_not (pt_val (pe_call C1.ok hr rfl C1.hm C1.kp C1.b .nil pass0 (pa_cons (pv 0) (pa_cons (pv 1) (pa_cons (pv 2) pa_nil))))))
        (pw_or (pt_not (pt_val (pe_call C2.ok (hr.mono (by decide)) rfl C2.hm C2.kp C2.b .nil pass0 (pa_cons (pv 3) (pa_cons (pe_callB (lenK K) (by rfl) T.len PySem.boot_len (pa_cons (pv 2) pa_nil)) pa_nil)))))
        (pw_or1 (pt_not (pt_val (pe_call C2.ok (hr.mono (by decide)) rfl C2.hm C2.kp C2.b .nil pass0 (pa_cons (pv 4) (pa_cons (pe_callB (lenK K) (by rfl) T.len PySem.boot_len (pa_cons (pv 2) pa_nil)) pa_nil))))))))) (pss_one ps_never) pss_nil)
      (pss_cons (ps_if (PW.pt (pw_or (pt_not (pt_val (pe_call C4.ok hr rfl C4.hm C4.kp C4.b .nil pass0 (pa_cons (pv 0) (pa_cons (pv 1) (pa_cons (pv 3) pa_nil))))))
        (pw_or1 (pt_not (pt_val (pe_call C4.ok hr rfl C4.hm C4.kp C4.b .nil pass0 (pa_cons (pv 0) (pa_cons (pe_op (op_rep1 K) (pe_tup (pa_cons (pe_glob (v := .ref az) rfl hz rfl) pa_nil)) (pe_callB (lenK K) (by rfl) T.len PySem.boot_len (pa_cons (pv 0) pa_nil))) (pa_cons (pv 4) pa_nil))))))))) (pss_one ps_never) pss_nil)
      (pss_one (ps_ret (pe_call C7.ok (hr.mono (by decide)) rfl C7.hm C7.kp C7.b .nil pass0 (pa_cons (pe_call C6.ok (hr.mono (by decide)) rfl C6.hm C6.kp C6.b .nil pass0 (pa_cons (pv 2) (pa_cons (pv 4) pa_nil))) (pa_cons (pe_glob (v := .ref az) rfl hz rfl) pa_nil)))))), ?_⟩
    obtain ⟨ag, vg, rfl, hg, lg, ig⟩ := id sys.goal
    obtain ⟨aR, vR, rfl, hR, lR, iR⟩ := id sys.rows
    refine ⟨_, rfl, _, rfl, _, rfl, _, r, _, m, n, col, c, want, rfl, sys.rows, sys.right, sys.goal, sys.pos, sys.m1, sys.n1, ht, fun v H1 g1 e => ?_⟩
    subst e
    refine ⟨_, rfl, iteF ?_⟩
    refine ⟨_, rfl, _, rfl, ag, vg, rfl, .inr (g1.sqT hg), p, n, y, by rw [lg]; rfl, hp.gw g1, ht.gw g1, fun v H2 g2 e => ?_⟩
    subst e
    refine ⟨_, rfl, iteF ?_⟩
    have g2 := g1.trans g2
    refine ⟨_, rfl, _, rfl, ag, vg, rfl, .inr (g2.sqT hg), d, n, z, by rw [lg]; rfl, hd.gw g2, ht.gw g2, fun v H3 g3 e => ?_⟩
    subst e
    refine ⟨_, rfl, iteF ?_⟩
    have g3 := g2.trans g3
    refine ⟨_, rfl, _, rfl, _, rfl, _, r, p, m, n, col, c, y, rfl, (sys.gw g3).rows, (sys.gw g3).right, hp.gw g3, sys.m1, sys.n1, ht.gw g3, f1, fun v H4 g4 e => ?_⟩
    obtain ⟨b, rfl, hb⟩ := e
    have := hb.mpr h1
    subst this
    refine ⟨_, rfl, iteF ?_⟩
    have g4 := g3.trans g4
    refine ⟨_, rfl, (show 1 ≤ sizeLine by decide), fun q hq => ?_⟩
    have g6 := g4.trans (Gw.new (.tup [.ref az]) hq)
    have m1 := sys.m1
    refine ⟨_, rfl, aR, vR, rfl, .inr (g6.sqT hR), q, _, [.ref az], rfl, rfl, SqT.of upd_same, List.cons_ne_nil _ _, by omega, by omega, (show 1 ≤ 1000 by decide), fun e => ?c1, fun l hl => ?c2⟩
    case' c1 =>
      have hz0 : VT K (upd H4 q (.tup [.ref az])) (.ref q) m fun _ => 0 := zeros_vt (zt _) (by rw [show m = 1 by omega]; exact upd_same)
      have g7 := g6
      have lz : Addr := q
    case' c2 =>
      have hz0 : VT K (upd (upd H4 q (.tup [.ref az])) l (.tup (List.replicate ((vR.length : Nat) : Int).toNat [V.ref az]).flatten)) (.ref l) m fun _ => 0 := zeros_vt (zt _) (by
        rw [show ((vR.length : Nat) : Int).toNat = m by omega, flat1]; exact upd_same)
      have g7 := g6.trans (Gw.new (.tup (List.replicate ((vR.length : Nat) : Int).toNat [V.ref az]).flatten) hl)
    all_goals
      refine ⟨_, rfl, _, _, d, m, n, col, fun _ => 0, z, rfl, (sys.gw g7).rows, hz0, hd.gw g7, sys.m1, sys.n1, ht.gw g7, f2, fun v H5 g5 e => ?_⟩
      obtain ⟨b, rfl, hb⟩ := e
      have := hb.mpr h2
      subst this
      refine ⟨_, rfl, iteF ?_⟩
      have g5 := g7.trans g5
      refine ⟨_, rfl, _, rfl, _, d, n, want, z, rfl, sys.n1, .inr ⟨(sys.gw g5).goal, hd.gw g5⟩, f3.1, f3.2, fun v H8 g9 hv' => ?_⟩
      refine ⟨v, .ref az, _, 0, rfl, hv', ⟨⟨az, rfl, zt _⟩, fit_zero⟩, ?_⟩
      rw [decide_eq_true h3]
      exact k _ _ (g5.trans g9) rfl
end
end K44


set_option Elab.async false
set_option linter.all false
set_option maxRecDepth 100000
set_option maxHeartbeats 4000000
/-! enumerate of a tuple. -/
namespace K44
open PySem PySem.Spec PyProof.Rows L2
theorem enumT_new (l : Addr) (items : Array Value) :
    Meets (Builtin.«enumerate.__new__» ⟨[.type "enumerate", .ref l], []⟩) (fun _ R s => s.heap.IsTuple l items ∧
      R (.ok (.ret (.ref (s.heap.push { cls := .type "tuple_iterator", data := .fields #[.ref l, .int 0 0] }).objs.size)))
        { s with heap := (s.heap.push { cls := .type "tuple_iterator", data := .fields #[.ref l, .int 0 0] }).push { cls := .type "enumerate", data := .fields #[.none, .bool false, .ref s.heap.objs.size, rawInt 0, .none, .none] } }) :=
  .of_wp fun prog w A R s h => by
    obtain ⟨hp, g, d, tk, os⟩ := s; obtain ⟨hl, h⟩ := h
    have hsub := sub_enumerate
    have hL : Heap.IsTuple (Shared.heap ⟨hp, g, d, tk, os⟩) l items := hl
    wp_walk using wpAny_pyIter_tuple hL
    refine wpAny_stack_any fun st => wpAny_pure ?_
    split
    · rename_i c _ _ _ _ _
      cases (c == Value.type "enumerate")
      · wp_walk using wpAny_pyIter_tuple hL
        exact ⟨_, rfl, h⟩
      · wp_walk using wpAny_pyIter_tuple hL
        exact ⟨_, rfl, h⟩
    · wp_walk using wpAny_pyIter_tuple hL
      exact ⟨_, rfl, h⟩
theorem call_enumT {prog : Program} {w : World} {A : Around} {E : Value → Shared → Prop} {s : Shared} {l : Addr} {items : Array Value} {Q : Value → Shared → Prop} (hL : s.heap.IsTuple l items)
    (h : ∀ h', IsEnum h' (s.heap.objs.size + 1) s.heap.objs.size 0 .none → h'.IsTupleIter s.heap.objs.size l 0 → h'.objs.size = s.heap.objs.size + 2 →
      (∀ b o, s.heap.get? b = some o → h'.get? b = some o) → Q (.ref (s.heap.objs.size + 1)) { s with heap := h' }) :
    wpAny (model prog w) A (call (.type "enumerate") [.ref l]) Q E s := by
  refine callType_new F.called_enumerate (by decide) (F.typeCall_enumerate_1 _) (F.newCall_enumerate_1 _) (fun obj => F.args_object_init_2 obj _) F.entry_enumerate_new
    (enumT_new l items) ⟨hL, ?_⟩
  have hz : (s.heap.push { cls := .type "tuple_iterator", data := .fields #[.ref l, .int 0 0] }).objs.size = s.heap.objs.size + 1 := Heap.size_push ..
  show _ ∧ _
  rw [hz]
  have he : IsEnum ((s.heap.push { cls := .type "tuple_iterator", data := .fields #[.ref l, .int 0 0] }).push
      { cls := .type "enumerate", data := .fields #[.none, .bool false, .ref s.heap.objs.size, rawInt 0, .none, .none] }) (s.heap.objs.size + 1) s.heap.objs.size 0 .none := by
    have := Heap.get?_push_size (s.heap.push { cls := .type "tuple_iterator", data := .fields #[.ref l, .int 0 0] })
      (o := { cls := .type "enumerate", data := .fields #[.none, .bool false, .ref s.heap.objs.size, rawInt 0, .none, .none] }) rfl
    rw [hz] at this; exact this
  refine ⟨⟨_, he, rfl⟩, h _ he ⟨_, Heap.get?_push_of_some _ (Heap.get?_push_size _ rfl), rfl, rfl⟩ (by rw [Heap.size_push, hz]) fun b o x => Heap.get?_push_of_some _ (Heap.get?_push_of_some _ x)⟩
/-- the tuple at a as it stands at each turn, each item in a new pair -/
def IteT (K : PySem.W.Frag) (a : Addr) : It :=
  ⟨fun i H => ∃ (xs : List V) (x : V), SqT K H a xs ∧ xs[i]? = some x, fun i H v H' => ∃ T x, v = .ref T ∧ H T = none ∧ H' = upd H T (.tup [.int (i : Nat), x]) ∧ ∀ xs, SqT K H a xs → xs[i]? = some x, fun i H => ∃ xs : List V, SqT K H a xs ∧ xs.length ≤ i⟩
theorem turn_enumT {P : Program} {w : World} {K : PySem.W.Frag} {elts : List Expr} {kk : Nat} {tpos : Pos} (a e it : Addr) (hne : e ≠ it) (hea : e ≠ a) (hia : a ≠ it) :
    Turn P w K (.Tuple elts kk tpos) (IteT K a) [e, it] e (fun i h => (∃ old, IsEnum h e it ((i : Nat) : Int) old) ∧ h.IsTupleIter it a i) where
  mem := by simp
  obj := fun i h st b hb => by
    obtain ⟨⟨old, he⟩, ⟨o, ho, hc, hd⟩⟩ := st
    have e' : b = e ∨ b = it := by simpa using hb
    rcases e' with z | z
    · rw [z]; exact ⟨_, he, fun v q => nomatch q⟩
    · rw [z]; exact ⟨o, ho, fun v q => by rw [hd] at q; cases q⟩
  keep := fun i h h' st k => let ⟨⟨old, he⟩, hi⟩ := st; ⟨⟨old, k e (by simp) _ he⟩, hi.at fun o q => k it (by simp) o q⟩
  item := by
    intro X hP hw hK hc i pins s σ H E I hf st hg
    subst hP hw hK
    obtain ⟨⟨old, he⟩, hit⟩ := st
    obtain ⟨xs, x, hq, hx⟩ := hg
    obtain ⟨its, rv, p, hz⟩ := I.tuple hq
    obtain ⟨u, hu, ru⟩ := rv.get hx
    have hel : e < s.heap.objs.size := Heap.lt_size he
    have hil : it < s.heap.objs.size := by obtain ⟨_, q, _⟩ := hit; exact Heap.lt_size q
    have D : Draws X.prog X.w X.A.in1 it [it, a] its.toArray.size (fun i v => its.toArray[i]? = some v) (fun i h => h.IsTupleIter it a i ∧ h.IsTuple a its.toArray) := Draws.tuple (show X.A.in1.handled = none from I.ok.hd hc) it a hia its.toArray
    have hlt : i < its.toArray.size := by
      have := (List.getElem?_eq_some_iff.mp hu).1
      simpa using this
    refine wpAny_pyNext_enum_itemD D he ⟨hit, p⟩ hlt hne (by simp [hne, hea]) fun x' h' tk hP ho hs' hT hsz hk => ?_
    have ex : x' = u := by
      have : its[i]? = some x' := by simpa using hP
      rw [hu] at this; exact (Option.some.inj this).symm
    subst ex
    refine ⟨_, rfl, wpAny_letOwnedTupleGo_enum (s := { s with heap := h', toks := tk + 1 }) ho fun h'' he' sb => ?_⟩
    have hT2 : h''.get? s.heap.objs.size = some { cls := .type "tuple", data := .seq #[.int i tk, x'] } := (sb.2 _ (Nat.ne_of_gt hel)).trans hT
    have new : ObjOk X.prog X.w (upd H s.heap.objs.size (.tup [.int (i : Nat), x])) h'' s.heap.objs.size (.tup [.int (i : Nat), x]) :=
      ⟨by show 2 ≤ sizeLine; decide, [.int i tk, x'], .cons ⟨_, rfl⟩ (.cons ru .nil), ⟨_, hT2, rfl, _, rfl⟩⟩
    have I1 : Inv X pins σ (upd H s.heap.objs.size (.tup [.int (i : Nat), x])) { s with heap := h'', toks := tk + 1 } :=
      I.turnedNew (ch := [e, it]) (fun b ob hb q => (sb.2 b (fun z => hb (by simp [z]))).trans (hk b ob (fun z => hb (by simp [z])) (fun z => hb (by simp [z])) q)) hf (Nat.le_refl _) new
    refine ⟨.ref s.heap.objs.size, _, I1, rfl, ⟨_, x, rfl, I.hok.fresh (Nat.le_refl _), rfl, fun ys hy => by rw [I.tuple_inj hy hq]; exact hx⟩, ⟨⟨x', ?_⟩, hs'.1.at fun o q => (sb.2 it (Ne.symm hne)).trans q⟩, fun b hb => ?_⟩
    · have e1 : ((i + 1 : Nat) : Int) = (i : Int) + 1 := by omega
      rw [e1]; exact he'
    · have hb' : b < s.heap.objs.size := by
        have e' : b = e ∨ b = it := by simpa using hb
        rcases e' with z | z
        · rw [z]; exact hel
        · rw [z]; exact hil
      rw [upd_ne (Nat.ne_of_lt hb')]
      exact (hf b hb).1
  done := by
    intro X hP hw hK hc i pins s σ H E I hf st hg
    subst hP hw hK
    obtain ⟨⟨old, he⟩, hit⟩ := st
    obtain ⟨xs, hq, hx⟩ := hg
    obtain ⟨its, rv, p, hz⟩ := I.tuple hq
    have hl := rv.length
    have hT : s.TypeIs (.ref e) "enumerate" := ⟨_, he, rfl⟩
    unfold pyNext
    refine wpAny_bind (wpAny_attempt (wpAny_callSpecial?_slot (name := Str.ofString "__next__") hT F.slot_enumerate_next
      (wpAny_call_entry F.slot_enumerate_next hT F.entry_enumerate_next ?_ (F.args_enumerate_next_1 _))))
    show wpAny _ _ (field (.ref e) 2 >>= _) _ _ _
    refine wpAny_bind (wpAny_field he rfl (x := .ref it) rfl ?_)
    refine wpAny_bind (RZ.nextOf_tuple_end (I.ok.hd hc) hit (show s.heap.IsTuple a its.toArray from p) (by simp; omega) fun h' x he' hx' => ?_)
    obtain ⟨o, ho, hc'⟩ := hx'
    refine wpAny_bind (wpAny_isInstance (T := "StopIteration") (b := true) ⟨o, ho, hc'⟩ isSubtype_stop ?_)
    exact wpAny_pure ⟨rfl, I.turnedL (t' := s.toks) (ch := [e, it]) (fun b o hb q => he' b o (fun q' => hb (by simp [q'])) q) hf⟩
  self := fun A i s Q E st h => let ⟨⟨_, he⟩, _⟩ := st; wpAny_pyIter_enum he h
def iEnumT (K : PySem.W.Frag) (ta : TA) : TI := fun σ H R => ta σ H fun vs H1 => ∃ a xs, vs = [.ref a] ∧ SqT K H1 a xs ∧ R (IteT K a) H1
theorem pi_enumT {X : Cx} {e : Expr} {ta : TA} {p pos tpos : Pos} {elts : List Expr} {kk : Nat} (hg : Gl X "enumerate") (hm : X.mg "enumerate" = none) (ha : PA X [e] ta) (hs : starEach [e] X.env = [(false, eval e X.env)] := by rfl) :
    PI X (.Tuple elts kk tpos) (.Call (.Name "enumerate" p) [e] [] pos) (iEnumT X.K ta) := by
  refine ⟨fun pins s σ H R I h => ?_⟩
  refine Call_ (ld_blt I hg hm boot_enumerate (PyProof.Rows.callWith_type1 (thn (ha.run pos pins s σ H _ I h) fun us s1 ⟨vs, H1, I1, r1, q1⟩ => ?_) hs rfl))
  obtain ⟨a, xs, ex, hq, q⟩ := q1
  subst ex
  cases r1 with
  | cons r rr =>
    cases rr
    cases r
    obtain ⟨its, rv, p', hz⟩ := I1.tuple hq
    refine call_enumT (show s1.heap.IsTuple a its.toArray from p') fun h' he hit hsz hk => wpAny_pyIter_enum he ?_
    have I2 : Inv X pins σ H1 { s1 with heap := h' } := I1.kept (t' := s1.toks) hk
    have hla : a < s1.heap.objs.size := by obtain ⟨o, ho, _⟩ := id p'; exact Heap.lt_size ho
    refine ⟨s1.heap.objs.size + 1, [s1.heap.objs.size + 1, s1.heap.objs.size], _, _, H1, rfl, I2, turn_enumT a (s1.heap.objs.size + 1) s1.heap.objs.size (Nat.succ_ne_self _) (Nat.ne_of_gt (Nat.lt_succ_of_lt hla)) (Nat.ne_of_lt hla), ⟨⟨.none, he⟩, hit⟩, fun b hb => ?_, q⟩
    have e' : b = s1.heap.objs.size + 1 ∨ b = s1.heap.objs.size := by simpa using hb
    have hle : s1.heap.objs.size ≤ b := by
      rcases e' with z | z
      · rw [z]; exact Nat.le_add_right _ _
      · rw [z]; exact Nat.le_refl _
    exact I1.fpOk hle (I1.hok.fresh hle)
theorem enumTK (K : PySem.W.Frag) {X : Cx} {e : Expr} {ta : TA} {p pos tpos : Pos} {elts : List Expr} {kk : Nat} (hg : Gl X "enumerate") (hm : X.mg "enumerate" = none) (ha : PA X [e] ta) (h : X.K = K := by rfl) (hs : starEach [e] X.env = [(false, eval e X.env)] := by rfl) :
    PI X (.Tuple elts kk tpos) (.Call (.Name "enumerate" p) [e] [] pos) (iEnumT K ta) := by subst h; exact pi_enumT hg hm ha hs
/-- pairs of the turn's number and an item -/
def YEnum (xs : List V) : Nat → Hp → V → Hp → Prop := fun i H v H' => ∃ T x, v = .ref T ∧ H T = none ∧ H' = upd H T (.tup [.int (i : Nat), x]) ∧ xs[i]? = some x
theorem walk_enumT {K : PySem.W.Frag} {a : Addr} {xs : List V} {n : Nat} (hn : xs.length = n) : Walk (IteT K a) n (fun H => SqT K H a xs) (YEnum xs) := by
  subst hn
  refine ⟨fun i _ hi q => ?_, fun _ q => ⟨xs, q, Nat.le_refl _⟩, fun i H v H' _ q y => ?_⟩
  · exact ⟨xs, xs[i], q, by simp [hi]⟩
  · obtain ⟨T, x, h1, h2, h3, h4⟩ := y
    exact ⟨T, x, h1, h2, h3, h4 xs q⟩
theorem walk_enumL {K : PySem.W.Frag} {a : Addr} {xs : List V} {n : Nat} (hn : xs.length = n) : Walk (Ite K a) n (fun H => SqL K H a xs) (YEnum xs) := by
  subst hn
  refine ⟨fun i _ hi q => ?_, fun _ q => ⟨xs, q, Nat.le_refl _⟩, fun i H v H' _ q y => ?_⟩
  · exact ⟨xs, xs[i], q, by simp [hi]⟩
  · obtain ⟨T, x, h1, h2, h3, h4⟩ := y
    exact ⟨T, x, h1, h2, h3, h4 xs q⟩
end K44


set_option Elab.async false
set_option linter.all false
set_option maxRecDepth 100000
set_option maxHeartbeats 4000000
set_option exponentiation.threshold 3000
/-! The table as an object. -/
namespace K44
open PySem L2
open LP (Fit lim S Tab)
/-- the heap without the two lists that change -/
abbrev R2 (H : Hp) (aR aB : Addr) : Hp := rm (rm H aR) aB
theorem Gw.r2 {H H' : Hp} (g : Gw H H') (aR aB : Addr) : Gw (R2 H aR aB) (R2 H' aR aB) := (g.rm).rm
theorem Gw.r2_le {H : Hp} {aR aB : Addr} : Gw (R2 H aR aB) H := Gw.rm_le.trans Gw.rm_le
theorem VL.rm {K : PySem.W.Frag} {H : Hp} {D a : Addr} {n : Nat} {f : Nat → Rat} {ys : List V} (h : VL K H (.ref a) n f) (ne : a ≠ D) (hD : H D = some (.lst ys)) : VL K (K44.rm H D) (.ref a) n f := by
  obtain ⟨b, vs, e, s, l, i⟩ := h
  cases e
  refine ⟨a, vs, rfl, ?_, l, fun j hj => let ⟨x, e, p⟩ := i j hj; ⟨x, e, p.rm hD⟩⟩
  rcases s with (h | ⟨o, h⟩) | h
  · exact .inl (.inl (by rw [rm_ne ne]; exact h))
  · exact .inl (.inr ⟨o, by rw [rm_ne ne]; exact h⟩)
  · exact .inr h

/-! ### the fields -/
def flds (cv : V) (aS aR aB : Addr) : List (Str × V) := putF "basis" (.ref aB) (putF "rows" (.ref aR) (putF "signs" (.ref aS) (putF "columns" cv [])))
section
variable {cv : V} {aS aR aB : Addr}
theorem flds_b : (flds cv aS aR aB).lookup ("basis" : Str) = some (.ref aB) := by
  unfold flds; rw [lookup_putF, if_pos rfl]
theorem flds_r : (flds cv aS aR aB).lookup ("rows" : Str) = some (.ref aR) := by
  unfold flds; rw [lookup_putF, if_neg (by decide +kernel), lookup_putF, if_pos rfl]
theorem flds_s : (flds cv aS aR aB).lookup ("signs" : Str) = some (.ref aS) := by
  unfold flds; rw [lookup_putF, if_neg (by decide +kernel), lookup_putF, if_neg (by decide +kernel), lookup_putF, if_pos rfl]
theorem flds_c : (flds cv aS aR aB).lookup ("columns" : Str) = some cv := by
  unfold flds; rw [lookup_putF, if_neg (by decide +kernel), lookup_putF, if_neg (by decide +kernel), lookup_putF, if_neg (by decide +kernel), lookup_putF, if_pos rfl]
theorem flds_no {m : Str} (h1 : ¬ m = "basis") (h2 : ¬ m = "rows") (h3 : ¬ m = "signs") (h4 : ¬ m = "columns") : (flds cv aS aR aB).lookup m = none := by
  unfold flds
  rw [lookup_putF, if_neg h1, lookup_putF, if_neg h2, lookup_putF, if_neg h3, lookup_putF, if_neg h4]
  rfl
end
/-- what is asked of the class -/
structure CTxt (K : PySem.W.Frag) (mg : Str → Option Value) (C : Addr) : Prop where
  cl : Cls K C
  nC : NoAttr K C "columns"
  nS : NoAttr K C "signs"
  nR : NoAttr K C "rows"
  nB : NoAttr K C "basis"
  mgC : mg "Table" = some (.ref C)
/-- a method that keeps a promise -/
structure MCal (P : Program) (w : World) (K : PySem.W.Frag) (mg : Str → Option Value) (base : Heap) (C : Addr) (x : Str) (k : Nat) (ps : List Str) (sp : Sp) where
  f : Addr
  fd : FuncData
  ok : FnOk P w K mg base CX0 k f fd ps sp
  hm : Meth K C x f
  b : Binds K fd ps []
def sgz (want : Nat → Rat) (k : Nat) : Int := if want k < 0 then -1 else 1
/-- a table of the system stands at p -/
structure TabAt (K : PySem.W.Frag) (C : Addr) (H : Hp) (p aR aB : Addr) (n m : Nat) (col : Nat → Nat → Rat) (want : Nat → Rat) (s : Tab) : Prop where
  ob : ∃ cv aS dx sgs, R2 H aR aB p = some (.ins C dx (flds cv aS aR aB)) ∧ VTT K (R2 H aR aB) cv m n col ∧ SqL K (R2 H aR aB) aS sgs ∧ sgs.length = n ∧ ∀ k, k < n → sgs[k]? = some (.int (sgz want k))
  rows : ∃ rws, H aR = some (.lst rws) ∧ rws.length = n ∧ ∀ i, i < n → ∃ x, rws[i]? = some x ∧ VL K (R2 H aR aB) x (m + n + 1) (s.T i)
  bas : ∃ bs, H aB = some (.lst bs) ∧ bs.length = n ∧ ∀ i, i < n → bs[i]? = some (.int (s.b i : Nat))
  ne : aR ≠ aB
section
variable {K : PySem.W.Frag} {C : Addr} {H H' : Hp} {p aR aB : Addr} {n m : Nat} {col : Nat → Nat → Rat} {want : Nat → Rat} {s : Tab}
theorem TabAt.gw (h : TabAt K C H p aR aB n m col want s) (g : Gw H H') : TabAt K C H' p aR aB n m col want s where
  ob := let ⟨cv, aS, dx, sgs, h1, h2, h3, h4, h5⟩ := h.ob; ⟨cv, aS, dx, sgs, (g.r2 aR aB).at h1, h2.gw (g.r2 aR aB), (g.r2 aR aB).sqL h3, h4, h5⟩
  rows := let ⟨rws, h1, h2, h3⟩ := h.rows; ⟨rws, g.at h1, h2, fun i hi => let ⟨x, e, v⟩ := h3 i hi; ⟨x, e, v.gw (g.r2 aR aB)⟩⟩
  bas := let ⟨bs, h1, h2, h3⟩ := h.bas; ⟨bs, g.at h1, h2, h3⟩
  ne := h.ne
theorem TabAt.congr {s' : Tab} (h : TabAt K C H p aR aB n m col want s) (e1 : ∀ i j, i < n → j ≤ m + n → s.T i j = s'.T i j) (e2 : ∀ i, i < n → s.b i = s'.b i) : TabAt K C H p aR aB n m col want s' where
  ob := h.ob
  rows := let ⟨rws, h1, h2, h3⟩ := h.rows; ⟨rws, h1, h2, fun i hi => let ⟨x, e, v⟩ := h3 i hi; ⟨x, e, v.congr fun j hj => e1 i j hi (by omega)⟩⟩
  bas := let ⟨bs, h1, h2, h3⟩ := h.bas; ⟨bs, h1, h2, fun i hi => by rw [← e2 i hi]; exact h3 i hi⟩
  ne := h.ne
end

/-! ### a for that makes a list -/
theorem for_grow {J : It} {n : Nat} {G : Hp → Prop} {Y : Nat → Hp → V → Hp → Prop} (w : Walk J n G Y) {g : TG} {tb : TS} {D : Ends} {σ : L2.St} {H0 H1 : Hp} {L : Addr} (hn : n ≤ 100000) (Sl : L2.St → Prop)
    (R : Nat → V → Hp → Prop) (monoR : ∀ i v H H', Gw H H' → R i v H → R i v H') (hG : ∀ H, Gw H0 H → G H) (s0 : Sl σ) (hL : H1 L = some (.lst [])) (g0 : Gw H0 (rm H1 L))
    (step : ∀ i x σ H H', i < n → Sl σ → Gw H0 (rm H L) → Gw H0 H → (∃ xs, H L = some (.lst xs)) → Y i H x H' → ∀ N : L2.St → Hp → Prop,
      (∀ σ2 H2 y, Sl σ2 → Gw H H2 → R i y (rm H2 L) → ∃ xs, H2 L = some (.lst xs) ∧ xs.length < sizeLine ∧ N σ2 (upd H2 L (.lst (xs ++ [y])))) → g x σ H' fun σ2 H2 => tb { D with nx := N, ct := N, bk := D.nx } σ2 H2)
    (hd : ∀ σ H xs, Sl σ → Gw H0 H → Gw H0 (rm H L) → H L = some (.lst xs) → xs.length = n → (∀ i, i < n → ∃ y, xs[i]? = some y ∧ R i y (rm H L)) → D.nx σ H) :
    ∃ W : Nat → Nat → L2.St → Hp → Prop, (∃ m, W 0 m σ H1) ∧ ∀ i m σ H, W i m σ H →
      (J.stop i H ∧ D.nx σ H) ∨ (J.go i H ∧ ∃ N : L2.St → Hp → Prop, (∀ σ' H', N σ' H' → ∃ m', m' < m ∧ W (i + 1) m' σ' H') ∧ ∀ x H', J.yld i H x H' → g x σ H' fun σ2 H2 => tb { D with nx := N, ct := N, bk := D.nx } σ2 H2) := by
  refine for_it w (fun i σ H => Sl σ ∧ ∃ xs, H L = some (.lst xs) ∧ xs.length = i ∧ Gw H0 (rm H L) ∧ ∀ j, j < i → ∃ y, xs[j]? = some y ∧ R j y (rm H L))
    ⟨s0, [], hL, rfl, g0, fun j hj => absurd hj (Nat.not_lt_zero _)⟩ (fun i σ H _ ⟨_, xs, _, _, g1, _⟩ => hG H (g1.trans Gw.rm_le)) ?_ (fun σ H ⟨h0, xs, h1, h2, h3, h4⟩ => hd σ H xs h0 (h3.trans Gw.rm_le) h3 h1 h2 h4)
  rintro i x σ H H' hi ⟨hs, xs, h1, h2, h3, h4⟩ y
  refine step i x σ H H' hi hs h3 (h3.trans Gw.rm_le) ⟨xs, h1⟩ y _ fun σ2 H2 z hs2 g2 r2 => ⟨xs, g2.at h1, by rw [h2]; exact Nat.lt_of_lt_of_le hi (Nat.le_trans hn (by decide)), hs2, xs ++ [z], upd_same, by simp [h2], ?_, fun j hj => ?_⟩
  · rw [rm_upd]; exact h3.trans g2.rm
  · rw [rm_upd]
    by_cases e : j < i
    · obtain ⟨u, e1, r⟩ := h4 j e
      exact ⟨u, by rw [List.getElem?_append_left (by omega)]; exact e1, monoR _ _ _ _ g2.rm r⟩
    · have : j = i := by omega
      subst this
      exact ⟨z, by rw [List.getElem?_append_right (by omega), h2, Nat.sub_self]; rfl, r2⟩
theorem walk_rangeN {n N : Nat} (h : n = N) : Walk (Itr 0 n) N (fun _ => True) (YFn fun i => .int (i : Nat)) := by
  subst h
  refine ⟨fun _ _ hi _ => hi, fun _ _ => Nat.le_refl _, fun i H x H' _ _ y => ⟨y.1, y.2.trans ?_⟩⟩
  show V.int (0 + (i : Nat)) = V.int (i : Nat)
  rw [Int.zero_add]
theorem at_last {xs : List V} {N : Nat} {v : V} (hl : xs.length = N + 1) (h : xs[N]? = some v) : atI xs (-1) = some v := by
  unfold atI ixN
  rw [if_neg (by decide), if_pos (by omega), hl]
  show xs[(-1 + ((N + 1 : Nat) : Int)).toNat]? = some v
  rw [show (-1 + ((N + 1 : Nat) : Int)).toNat = N by omega]
  exact h
theorem walk_listY {K : PySem.W.Frag} {a : Addr} {xs : List V} {n : Nat} (hn : xs.length = n) : Walk (Itl K a) n (fun H => SqL K H a xs) (YAt xs) := by
  subst hn; exact walk_list

abbrev sT (i : Nat) : Stmt := inClass (top 26) i
/-! ### reduced -/
/-- what reduced gives: the reduced worths, then the whole worth -/
def redv (n m : Nat) (c : Nat → Rat) (s : Tab) (j : Nat) : Rat := if j < m + n then LP.red n c s j else LP.used n c s j
def FitR (n m : Nat) (c : Nat → Rat) (s : Tab) : Prop := (∀ j, j ≤ m + n → FitsW n (fun i => c (s.b i)) (fun i => s.T i j)) ∧ ∀ j, j < m + n → Fit (LP.red n c s j)
def spReduced (K : PySem.W.Frag) (C : Addr) : Sp := fun vs H Q _ => ∃ (p aR aB : Addr) (wv : V) (n m : Nat) (col : Nat → Nat → Rat) (want c : Nat → Rat) (s : Tab), vs = [.ref p, wv] ∧ TabAt K C H p aR aB n m col want s ∧ VL K H wv (m + n) c ∧ n ≤ 1000 ∧ m ≤ 1000 ∧
  (∀ i, i < n → s.b i < m + n) ∧ FitR n m c s ∧ Ans H (fun v H' => VL K H' v (m + n + 1) (redv n m c s)) Q
section
variable {P : Program} {w : World} {K : PySem.W.Frag} {mg : Str → Option Value} {base : Heap}
theorem scReduced : FnScope ["self", "worths", "found", "place", "used", "total", "one", "row"] ["self", "worths"] (defScope (sT 1)) := ⟨rfl, rfl, rfl, by decide +kernel, rfl, by decide +kernel, by decide +kernel⟩
theorem ok_reduced {C : Addr} {f : Addr} {fd : FuncData} (F : Fun K "reduced" "Table.reduced" (sT 1) f fd) (T : Txt K mg) (U : CTxt K mg C) (D : CWeighed P w K mg base) (E2 : C2 P w K mg base "minus" (· - ·)) :
    FnOk P w K mg base CX0 5 f fd ["self", "worths"] (spReduced K C) := by
  refine F.ok scReduced (fun vs H Q E h => ?_) (fun cdv A outer s H vs Q E hr h => ?_)
  · obtain ⟨p, aR, aB, wv, n, m, col, want, c, s, rfl, _⟩ := h
    rfl
  · obtain ⟨p, aR, aB, wv, n, m, col, want, c, s, rfl, tab, hw, hn, hm, hb, ft, k⟩ := h
    refine ⟨_, pss_cons (ps_set (i := 2) scReduced.nd rfl (Or.inl rfl) (pe_lst pa_nil))
      (pss_cons (ps_for PassesOwn.never rfl (pi_range1 rfl T.range (pa_cons (pe_callB (lenK K) (by rfl) T.len PySem.boot_len (pa_cons (pv 1) pa_nil)) pa_nil)) (pg_name (i := 3) scReduced.nd rfl (Or.inr rfl))
        (pss_cons (ps_set (i := 4) scReduced.nd rfl (Or.inl rfl) (pe_call D.ok (hr.mono (by decide)) rfl D.hm D.kp D.b .nil pass0 (pa_cons
            (pe_lc (own := [("one", 6)]) (g := gName 6) (tt := tYes) rfl scReduced.nd (listK K (fldK K (pv 0))) (blkOk_by (N := ["self", "worths", "found", "place", "used", "total", "one", "row"]) (by kernel_rfl))
              (fun _ _ _ _ _ => pg_name (i := 6) scReduced.nd rfl (Or.inl rfl)) (fun _ _ _ _ _ => pts_nil) (fun _ _ _ _ _ => pe_ix (ixL K) (pv 1) (pv 6) (fun _ _ => rfl))) (pa_cons
            (pe_lc (own := [("row", 7)]) (g := gName 7) (tt := tYes) rfl scReduced.nd (listK K (fldK K (pv 0))) (blkOk_by (N := ["self", "worths", "found", "place", "used", "total", "one", "row"]) (by kernel_rfl))
              (fun _ _ _ _ _ => pg_name (i := 7) scReduced.nd rfl (Or.inl rfl)) (fun _ _ _ _ _ => pts_nil) (fun _ _ _ _ _ => pe_ix (ixL K) (pv 7) (pv 3) (fun _ _ => rfl))) pa_nil))))
        (pss_one (ps_expr (pe_bm PySem.F.plainAttrs_list PySem.F.slot_list_append PySem.F.type_list_append mt_append (pv 2) (pa_cons (pe_call E2.ok (hr.mono (by decide)) rfl E2.hm E2.kp E2.b .nil pass0 (pa_cons (pe_ix (ixL K) (pv 1) (pv 3) (fun _ _ => rfl)) (pa_cons (pv 4) pa_nil))) pa_nil))))))
      (pss_cons (ps_set (i := 5) scReduced.nd rfl (Or.inl rfl) (pe_call D.ok (hr.mono (by decide)) rfl D.hm D.kp D.b .nil pass0 (pa_cons
            (pe_lc (own := [("one", 6)]) (g := gName 6) (tt := tYes) rfl scReduced.nd (listK K (fldK K (pv 0))) (blkOk_by (N := ["self", "worths", "found", "place", "used", "total", "one", "row"]) (by kernel_rfl))
              (fun _ _ _ _ _ => pg_name (i := 6) scReduced.nd rfl (Or.inl rfl)) (fun _ _ _ _ _ => pts_nil) (fun _ _ _ _ _ => pe_ix (ixL K) (pv 1) (pv 6) (fun _ _ => rfl))) (pa_cons
            (pe_lc (own := [("row", 7)]) (g := gName 7) (tt := tYes) rfl scReduced.nd (listK K (fldK K (pv 0))) (blkOk_by (N := ["self", "worths", "found", "place", "used", "total", "one", "row"]) (by kernel_rfl))
              (fun _ _ _ _ _ => pg_name (i := 7) scReduced.nd rfl (Or.inl rfl)) (fun _ _ _ _ _ => pts_nil) (fun _ _ _ _ _ => pe_ix (ixL K) (pv 7) (pe_un un_neg pe_int) (fun _ _ => rfl))) pa_nil))))
      (pss_one (ps_ret (pe_lst (starK K (pv 2) (pa_cons (pv 5) pa_nil))))))), ?_⟩
    obtain ⟨aw, vw, rfl, hsw, lw, iw⟩ := id hw
    obtain ⟨cv, aS, dx, sgs, hp, _⟩ := id tab.ob
    obtain ⟨rws, hR, lR, iR⟩ := id tab.rows
    obtain ⟨bs, hB, lB, iB⟩ := id tab.bas
    have hp : H p = some (.ins C dx (flds cv aS aR aB)) := Gw.r2_le.at hp
    have hn' : n ≤ 100000 := by omega
    -- [worths[one] for one in self.basis]
    have two : ∀ (H2 : Hp) (L : Addr) (u3 u4 u5 : Option V), Gw H H2 → ∀ Q1 : VK, (∀ v H3, Gw H2 H3 → VL K H3 v n (fun i => c (s.b i)) → Q1 v H3) →
        tLc (iList K (tFld K (tVar 0) "basis")) (gName 6) tYes (tOp (rIxL K) (tVar 1) (tVar 6)) [6] [some (.ref p), some (.ref aw), some (.ref L), u3, u4, u5, none, none] H2 Q1 := fun H2 L u3 u4 u5 g2 Q1 k1 => by
      refine ⟨_, rfl, p, C, dx, _, _, rfl, g2.at hp, U.cl, U.nB, flds_b, aB, rfl, ⟨bs, SqL.of (g2.at hB)⟩, fun D1 hD1 => lc_grow (walk_listY lB) hD1 hn' (fun i v H => PAt K H v (c (s.b i))) (fun _ _ _ _ g r => r.gw g)
        (fun H3 g3 => SqL.of ((g2.trans g3).at hB)) (fun i x H1 H' hi _ g1 ⟨zs, hz⟩ hY C1 hC1 => ?_) (fun H3 ys g3 g4 hy hlen hit => k1 _ _ g3 ⟨D1, ys, rfl, SqL.of hy, hlen, fun j hj => let ⟨y, e, r⟩ := hit j hj; ⟨y, e, r.gw Gw.rm_le⟩⟩)⟩
      obtain ⟨rfl, hx⟩ := hY
      rw [iB i hi] at hx; cases hx
      obtain ⟨y, ey, py⟩ := iw (s.b i) (hb i hi)
      exact ⟨rfl, _, rfl, _, rfl, _, _, _, _, rfl, rfl, (g2.trans g1).sqL hsw, at_of (by have := hb i hi; omega) ey, hC1 _ _ (Gw.refl _) ((py.gw (g2.trans g1)).rm hz)⟩
    -- [row[place] for row in self.rows]
    have three : ∀ (j : Nat) (H2 : Hp) (L : Addr) (u4 u5 : Option V), j < m + n → Gw H H2 → ∀ Q1 : VK, (∀ v H3, Gw H2 H3 → VL K H3 v n (fun i => s.T i j) → Q1 v H3) →
        tLc (iList K (tFld K (tVar 0) "rows")) (gName 7) tYes (tOp (rIxL K) (tVar 7) (tVar 3)) [7] [some (.ref p), some (.ref aw), some (.ref L), some (.int (j : Nat)), u4, u5, none, none] H2 Q1 := fun j H2 L u4 u5 hj g2 Q1 k1 => by
      refine ⟨_, rfl, p, C, dx, _, _, rfl, g2.at hp, U.cl, U.nR, flds_r, aR, rfl, ⟨rws, SqL.of (g2.at hR)⟩, fun D1 hD1 => lc_grow (walk_listY lR) hD1 hn' (fun i v H => PAt K H v (s.T i j)) (fun _ _ _ _ g r => r.gw g)
        (fun H3 g3 => SqL.of ((g2.trans g3).at hR)) (fun i x H1 H' hi _ g1 ⟨zs, hz⟩ hY C1 hC1 => ?_) (fun H3 ys g3 g4 hy hlen hit => k1 _ _ g3 ⟨D1, ys, rfl, SqL.of hy, hlen, fun j hj => let ⟨y, e, r⟩ := hit j hj; ⟨y, e, r.gw Gw.rm_le⟩⟩)⟩
      obtain ⟨rfl, hx⟩ := hY
      obtain ⟨x', e, ⟨ar, vr, rfl, hsr, lr, ir⟩⟩ := iR i hi
      rw [hx] at e; cases e
      obtain ⟨y, ey, py⟩ := ir j (by omega)
      exact ⟨rfl, _, rfl, _, rfl, _, _, _, _, rfl, rfl, (Gw.r2_le.trans (g2.trans g1)).sqL hsr, at_of (by omega) ey, hC1 _ _ (Gw.refl _) ((py.gw (Gw.r2_le.trans (g2.trans g1))).rm hz)⟩
    have four : ∀ (H2 : Hp) (L : Addr) (u3 u4 u5 : Option V), Gw H H2 → ∀ Q1 : VK, (∀ v H3, Gw H2 H3 → VL K H3 v n (fun i => s.T i (m + n)) → Q1 v H3) →
        tLc (iList K (tFld K (tVar 0) "rows")) (gName 7) tYes (tOp (rIxL K) (tVar 7) (tUn (rU fun i => V.int (-i)) (tC (V.int 1)))) [7] [some (.ref p), some (.ref aw), some (.ref L), u3, u4, u5, none, none] H2 Q1 := fun H2 L u3 u4 u5 g2 Q1 k1 => by
      refine ⟨_, rfl, p, C, dx, _, _, rfl, g2.at hp, U.cl, U.nR, flds_r, aR, rfl, ⟨rws, SqL.of (g2.at hR)⟩, fun D1 hD1 => lc_grow (walk_listY lR) hD1 hn' (fun i v H => PAt K H v (s.T i (m + n))) (fun _ _ _ _ g r => r.gw g)
        (fun H3 g3 => SqL.of ((g2.trans g3).at hR)) (fun i x H1 H' hi _ g1 ⟨zs, hz⟩ hY C1 hC1 => ?_) (fun H3 ys g3 g4 hy hlen hit => k1 _ _ g3 ⟨D1, ys, rfl, SqL.of hy, hlen, fun j hj => let ⟨y, e, r⟩ := hit j hj; ⟨y, e, r.gw Gw.rm_le⟩⟩)⟩
      obtain ⟨rfl, hx⟩ := hY
      obtain ⟨x', e, ⟨ar, vr, rfl, hsr, lr, ir⟩⟩ := iR i hi
      rw [hx] at e; cases e
      obtain ⟨y, ey, py⟩ := ir (m + n) (by omega)
      exact ⟨rfl, _, rfl, 1, rfl, _, _, _, _, rfl, rfl, (Gw.r2_le.trans (g2.trans g1)).sqL hsr, at_last lr ey, hC1 _ _ (Gw.refl _) ((py.gw (Gw.r2_le.trans (g2.trans g1))).rm hz)⟩
    refine ⟨(show 0 ≤ sizeLine by decide), fun L hL => ?_⟩
    have g0 : Gw H (upd H L (.lst [])) := Gw.new _ hL
    refine ⟨_, rfl, aw, vw, rfl, .inl (g0.sqL hsw), _, rfl, by omega, by omega, ?_⟩
    refine for_grow (walk_rangeN (N := m + n) (by omega)) (L := L) (H0 := H) (by omega) (fun σ => ∃ u3 u4, σ = [some (.ref p), some (.ref aw), some (.ref L), u3, u4, none, none, none]) (fun j v H => PAt K H v (LP.red n c s j)) (fun _ _ _ _ g r => r.gw g) (fun _ _ => True.intro)
      ⟨none, none, rfl⟩ upd_same (by rw [rm_upd, rm_none hL]; exact Gw.refl _) ?_ ?_
    · rintro j x σ H1 H' hj ⟨u3, u4, rfl⟩ _ g1 ⟨zs, hz⟩ ⟨rfl, rfl⟩ N hN
      dsimp only [gName, tSeq, tAsg, tCall, tCons]
      refine two _ L _ _ _ g1 _ fun v2 H2 g2 r2 => ?_
      refine three j _ L _ _ hj (g1.trans g2) _ fun v3 H3 g3 r3 => ?_
      refine ⟨_, _, n, _, _, rfl, hn, .inl ⟨r2.gw g3, r3⟩, (ft.1 j (by omega)).1, (ft.1 j (by omega)).2, fun v4 H4 g4 r4 => ?_⟩
      have g5 := ((g1.trans g2).trans g3).trans g4
      have g6 := (g2.trans g3).trans g4
      obtain ⟨y, ey, py⟩ := iw j hj
      refine ⟨_, rfl, ?_, _, rfl, _, rfl, _, _, _, _, rfl, rfl, (g1.trans g6).sqL hsw, at_of rfl ey, _, rfl, _, _, c j, _, rfl, py.gw (g1.trans g6), r4, ft.2 j hj, fun v5 H5 g7 r5 => ?_⟩
      · exact .inl ⟨rfl, _, SqL.of (g6.at hz)⟩
      · have g8 := g6.trans g7
        obtain ⟨xs, h1, h2, h3⟩ := hN _ H5 v5 ⟨_, _, rfl⟩ g8 (r5.rm (g8.at hz))
        exact ⟨L, xs, v5, rfl, rfl, h1, h2, h3⟩
    · rintro σ H1 xs ⟨u3, u4, rfl⟩ g1 gr hx hlen hit
      dsimp only [gName, tSeq, tAsg, tCall, tCons]
      refine two _ L _ _ _ g1 _ fun v2 H2 g2 r2 => ?_
      refine four _ L _ _ _ (g1.trans g2) _ fun v3 H3 g3 r3 => ?_
      refine ⟨_, _, n, _, _, rfl, hn, .inl ⟨r2.gw g3, r3⟩, (ft.1 (m + n) (by omega)).1, (ft.1 (m + n) (by omega)).2, fun v4 H4 g4 r4 => ?_⟩
      have g5 := (g2.trans g3).trans g4
      refine ⟨_, rfl, L, xs, rfl, .inr (SqL.of (g5.at hx)), _, rfl, ?_, fun r hr => ?_⟩
      · rw [List.length_append, hlen]
        exact Nat.le_trans (Nat.add_le_add (Nat.add_le_add hm hn) (Nat.le_refl 1)) (by decide)
      · have g6 := g5.trans (Gw.new (.lst (xs ++ [v4])) hr)
        refine k _ _ (g1.trans g6) ⟨r, _, rfl, SqL.of upd_same, by rw [List.length_append, hlen]; rfl, fun i hi => ?_⟩
        unfold redv
        by_cases h : i < m + n
        · obtain ⟨y, e, r⟩ := hit i h
          rw [if_pos h]
          exact ⟨y, by rw [List.getElem?_append_left (by omega)]; exact e, (r.gw Gw.rm_le).gw g6⟩
        · have : i = m + n := by omega
          subst this
          rw [if_neg h]
          exact ⟨v4, by rw [List.getElem?_append_right (by omega), hlen, Nat.sub_self]; rfl, r4.gw (Gw.new _ hr)⟩
end
end K44


set_option Elab.async false
set_option linter.all false
set_option maxRecDepth 100000
set_option maxHeartbeats 4000000
set_option exponentiation.threshold 3000
/-! entering, leaving. -/
namespace K44
open PySem L2
open LP (Fit lim S Tab)
def spEntering (K : PySem.W.Frag) : Sp := fun vs H Q _ => ∃ (x av : V) (N m : Nat) (f : Nat → Rat), vs = [x, av, .int (m : Nat)] ∧ VL K H av N f ∧ m ≤ N ∧ m ≤ 1000 ∧
  (∀ e, e < m → 0 < f e → (∀ j, j < e → f j ≤ 0) → Q (.int (e : Nat)) H) ∧ ((∀ j, j < m → f j ≤ 0) → Q .non H)
def spLeaving (K : PySem.W.Frag) (C : Addr) : Sp := fun vs H Q _ => ∃ (p aR aB : Addr) (e n m : Nat) (col : Nat → Nat → Rat) (want : Nat → Rat) (s : Tab), vs = [.ref p, .int (e : Nat)] ∧ TabAt K C H p aR aB n m col want s ∧ n ≤ 1000 ∧ m ≤ 1000 ∧ e < m + n ∧
  (∀ i, i < n → 0 < s.T i e → Fit (s.T i (m + n) / s.T i e)) ∧ Ans H (fun v _ => (∃ r : Nat, v = .int (r : Nat) ∧ LP.Leave n m s e r) ∨ (v = .non ∧ ∀ i, i < n → s.T i e ≤ 0)) Q
section
variable {P : Program} {w : World} {K : PySem.W.Frag} {mg : Str → Option Value} {base : Heap}
theorem scEntering : FnScope ["self", "added", "many", "place"] ["self", "added", "many"] (defScope (sT 2)) := ⟨rfl, rfl, rfl, by decide +kernel, rfl, by decide +kernel, by decide +kernel⟩
theorem ok_entering {f : Addr} {fd : FuncData} (F : Fun K "entering" "Table.entering" (sT 2) f fd) (T : Txt K mg) (C1 : CLess P w K mg base) :
    FnOk P w K mg base CX0 2 f fd ["self", "added", "many"] (spEntering K) := by
  refine F.ok scEntering (fun vs H Q E h => ?_) (fun cdv A outer s H vs Q E hr h => ?_)
  · obtain ⟨x, av, N, m, f, rfl, _⟩ := h
    rfl
  · obtain ⟨x, av, N, m, f, rfl, ⟨aa, va, rfl, hs, hl, hi⟩, hmN, hm, k1, k2⟩ := h
    obtain ⟨az, hz, zt⟩ := T.zero
    refine ⟨_, pss_cons (ps_for PassesOwn.never rfl (pi_range1 rfl T.range (pa_cons (pv 2) pa_nil)) (pg_name (i := 3) scEntering.nd rfl (Or.inl rfl))
        (pss_one (ps_if (pt_val (pe_call C1.ok hr rfl C1.hm C1.kp C1.b .nil pass0 (pa_cons (pe_glob (v := .ref az) rfl hz rfl) (pa_cons (pe_ix (ixL K) (pv 1) (pv 3) (fun _ _ => rfl)) pa_nil)))) (pss_one (ps_ret (pv 3))) pss_nil)))
      (pss_one (ps_ret pe_non)), ?_⟩
    refine ⟨_, rfl, (m : Int), rfl, by omega, by omega, ?_⟩
    refine for_it (walk_rangeN (N := m) (by omega)) (fun i σ H' => H' = H ∧ (∃ u, σ = [some x, some (.ref aa), some (.int (m : Nat)), u]) ∧ ∀ j, j < i → f j ≤ 0) ⟨rfl, ⟨none, rfl⟩, fun j hj => absurd hj (Nat.not_lt_zero _)⟩ (fun _ _ _ _ _ => True.intro) ?_ ?_
    · rintro i y σ H1 H' hi' ⟨rfl, ⟨u, rfl⟩, hj⟩ ⟨rfl, rfl⟩
      obtain ⟨y, ey, py⟩ := hi i (by omega)
      refine ⟨_, rfl, _, rfl, _, _, _, _, rfl, rfl, hs, at_of rfl ey, _, _, 0, f i, rfl, ⟨⟨az, rfl, zt _⟩, fit_zero⟩, py, ?_⟩
      by_cases h : 0 < f i
      · rw [decide_eq_true h]
        refine ⟨_, rfl, iteT ⟨_, rfl, k1 i hi' h hj⟩⟩
      · rw [decide_eq_false h]
        refine ⟨_, rfl, iteF ⟨rfl, ⟨_, rfl⟩, fun j hj' => ?_⟩⟩
        by_cases q : j < i
        · exact hj j q
        · have : j = i := by omega
          subst this; exact Rat.not_lt.mp h
    · rintro σ H1 ⟨rfl, _, hj⟩
      exact k2 hj
theorem scLeaving : FnScope ["self", "place", "best", "found", "number", "row", "here"] ["self", "place"] (defScope (sT 3)) := ⟨rfl, rfl, rfl, by decide +kernel, rfl, by decide +kernel, by decide +kernel⟩
theorem ok_leaving {C : Addr} {f : Addr} {fd : FuncData} (F : Fun K "leaving" "Table.leaving" (sT 3) f fd) (T : Txt K mg) (U : CTxt K mg C) (C1 : CLess P w K mg base) (C3 : Cal P w K mg base "over" 2 ["one", "other"] (sp2o K)) :
    FnOk P w K mg base CX0 3 f fd ["self", "place"] (spLeaving K C) := by
  refine F.ok scLeaving (fun vs H Q E h => ?_) (fun cdv A outer s H vs Q E hr h => ?_)
  · obtain ⟨p, aR, aB, e, n, m, col, want, s, rfl, _⟩ := h
    rfl
  · obtain ⟨p, aR, aB, e, n, m, col, want, s, rfl, tab, hn, hm, he, ft, k⟩ := h
    obtain ⟨az, hz, zt⟩ := T.zero
    refine ⟨_, pss_cons (ps_asg (pe_tup (pa_cons pe_non (pa_cons pe_non pa_nil))) (pg_tup rfl (pgs_cons (pg_name (i := 2) scLeaving.nd rfl (Or.inl rfl)) (pgs_cons (pg_name (i := 3) scLeaving.nd rfl (Or.inl rfl)) pgs_nil))))
      (pss_cons (ps_for PassesOwn.never rfl (enumK K rfl T.enum (pa_cons (fldK K (pv 0)) pa_nil)) (pg_tup rfl (pgs_cons (pg_name (i := 4) scLeaving.nd rfl (Or.inl rfl)) (pgs_cons (pg_name (i := 5) scLeaving.nd rfl (Or.inl rfl)) pgs_nil)))
        (pss_one (ps_if (pt_val (pe_call C1.ok (hr.mono (by decide)) rfl C1.hm C1.kp C1.b .nil pass0 (pa_cons (pe_glob (v := .ref az) rfl hz rfl) (pa_cons (pe_ix (ixL K) (pv 5) (pv 1) (fun _ _ => rfl)) pa_nil))))
          (pss_cons (ps_set (i := 6) scLeaving.nd rfl (Or.inl rfl) (pe_call C3.ok hr rfl C3.hm C3.kp C3.b .nil pass0 (pa_cons (pe_ix (ixL K) (pv 5) (pe_un un_neg pe_int) (fun _ _ => rfl)) (pa_cons (pe_ix (ixL K) (pv 5) (pv 1) (fun _ _ => rfl)) pa_nil))))
          (pss_one (ps_if (PW.pt (pw_or (pt_cmp (pc_isN (pv 2))) (pw_or (pt_val (pe_call C1.ok (hr.mono (by decide)) rfl C1.hm C1.kp C1.b .nil pass0 (pa_cons (pv 6) (pa_cons (pv 2) pa_nil))))
              (pw_or1 (PW.pt (pw_and (pt_cmpR (eqK K hr.units) (pv 6) (pv 2) (nomark _)) (pw_and1 (pt_cmpR op_lt (pe_ix (ixL K) (fldK K (pv 0)) (pv 4) (fun _ _ => rfl)) (pe_ix (ixL K) (fldK K (pv 0)) (pv 3) (fun _ _ => rfl)) (nomark _)))))))))
            (pss_one (ps_par (i := 2) (j := 3) rfl scLeaving.nd rfl rfl (by decide) rfl rfl (pa_cons (pv 6) (pa_cons (pv 4) pa_nil)) rfl)) pss_nil))) pss_nil)))
      (pss_one (ps_ret (pv 3)))), ?_⟩
    obtain ⟨cv, aS, dx, sgs, hp, _⟩ := id tab.ob
    obtain ⟨rws, hR, lR, iR⟩ := id tab.rows
    obtain ⟨bs, hB, lB, iB⟩ := id tab.bas
    have hp : H p = some (.ins C dx (flds cv aS aR aB)) := Gw.r2_le.at hp
    refine ⟨(show 2 ≤ sizeLine by decide), fun q0 hq0 => ?_⟩
    have g0 : Gw H (upd H q0 (.tup [.non, .non])) := Gw.new _ hq0
    refine ⟨q0, _, rfl, SqT.of upd_same, rfl, _, _, rfl, _, _, rfl, rfl, ?_⟩
    refine ⟨_, rfl, p, C, dx, _, _, rfl, g0.at hp, U.cl, U.nR, flds_r, aR, rws, rfl, SqL.of (g0.at hR), ?_⟩
    let qn : Nat → Rat := fun i => s.T i (m + n) / s.T i e
    refine for_it (walk_enumL (K := K) (a := aR) lR) (fun i σ H' => Gw H H' ∧ ∃ b fo u4 u5 u6, σ = [some (.ref p), some (.int (e : Nat)), some b, some fo, u4, u5, u6] ∧
        ((b = .non ∧ fo = .non ∧ ∀ k, k < i → s.T k e ≤ 0) ∨ ∃ r : Nat, r < i ∧ fo = .int (r : Nat) ∧ PAt K H' b (qn r) ∧ 0 < s.T r e ∧ ∀ k, k < i → 0 < s.T k e → qn r < qn k ∨ (qn r = qn k ∧ s.b r ≤ s.b k)))
      ⟨g0, .non, .non, none, none, none, rfl, .inl ⟨rfl, rfl, fun k hk => absurd hk (Nat.not_lt_zero _)⟩⟩ (fun i σ H' _ h => SqL.of (h.1.at hR)) ?_ ?_
    · rintro i y σ H1 H' hi ⟨g1, b, fo, u4, u5, u6, rfl, inv⟩ ⟨q, x, rfl, hq, rfl, hx⟩
      have gq : Gw H1 (upd H1 q (.tup [.int (i : Nat), x])) := Gw.new _ hq
      have g2 := g1.trans gq
      obtain ⟨x', ex, ⟨ar, vr, rfl, hsr, lr, ir⟩⟩ := iR i hi
      rw [hx] at ex; cases ex
      obtain ⟨ye, eye, pye⟩ := ir e (by omega)
      obtain ⟨yl, eyl, pyl⟩ := ir (m + n) (by omega)
      have hsr := Gw.r2_le.sqL hsr
      have pye := pye.gw Gw.r2_le
      have pyl := pyl.gw Gw.r2_le
      refine ⟨q, _, rfl, SqT.of upd_same, rfl, _, _, rfl, _, _, rfl, rfl, ?_⟩
      refine ⟨_, rfl, _, rfl, _, _, _, _, rfl, rfl, g2.sqL hsr, at_of rfl eye, _, _, 0, s.T i e, rfl, ⟨⟨az, rfl, zt _⟩, fit_zero⟩, pye.gw g2, ?_⟩
      by_cases hpos : 0 < s.T i e
      · rw [decide_eq_true hpos]
        refine ⟨_, rfl, iteT ?_⟩
        refine ⟨_, rfl, 1, rfl, _, _, _, _, rfl, rfl, g2.sqL hsr, at_last lr eyl, ?_⟩
        refine ⟨_, rfl, _, rfl, _, _, _, _, rfl, rfl, g2.sqL hsr, at_of rfl eye, ?_⟩
        refine ⟨_, _, _, _, rfl, pyl.gw g2, pye.gw g2, by grind, ft i hi hpos, fun v5 H5 g5 r5 => ?_⟩
        have g6 := g2.trans g5
        have g7 := gq.trans g5
        refine ⟨_, rfl, ?_⟩
        rcases inv with ⟨rfl, rfl, hall⟩ | ⟨r, hr', rfl, pb, hrp, hall⟩
        · refine ⟨_, rfl, iteT (iteT ?_)⟩
          refine ⟨_, rfl, _, rfl, _, _, rfl, ?_⟩
          refine ⟨g6, v5, _, _, _, _, rfl, .inr ⟨i, by omega, rfl, r5, hpos, fun k hk hkp => ?_⟩⟩
          by_cases h : k < i
          · exact absurd (hall k h) (Rat.not_le.mpr hkp)
          · have : k = i := by omega
            subst this; exact .inr ⟨rfl, Nat.le_refl _⟩
        · obtain ⟨ab, eb, hsb⟩ := pb.1
          have pb5 := pb.gw g7
          have keep : ∀ v, PAt K H5 v (qn r) → ¬ (qn i < qn r) → ¬ (qn i = qn r ∧ s.b i < s.b r) → (∃ b fo u4 u5 u6, [some (V.ref p), some (.int (e : Nat)), some v, some (.int (r : Nat)), some (.int (i : Nat)), some (.ref ar), some v5] = [some (.ref p), some (.int (e : Nat)), some b, some fo, u4, u5, u6] ∧
              ((b = .non ∧ fo = .non ∧ ∀ k, k < i + 1 → s.T k e ≤ 0) ∨ ∃ r : Nat, r < i + 1 ∧ fo = .int (r : Nat) ∧ PAt K H5 b (qn r) ∧ 0 < s.T r e ∧ ∀ k, k < i + 1 → 0 < s.T k e → qn r < qn k ∨ (qn r = qn k ∧ s.b r ≤ s.b k))) := fun v pv' h1 h2 =>
            ⟨v, _, _, _, _, rfl, .inr ⟨r, by omega, rfl, pv', hrp, fun k hk hkp => by
              by_cases h : k < i
              · exact hall k h hkp
              · have : k = i := by omega
                subst this
                by_cases z : qn r < qn k
                · exact .inl z
                · have z : qn r = qn k := by grind
                  exact .inr ⟨z, Nat.le_of_not_lt fun y => h2 ⟨z.symm, y⟩⟩⟩⟩
          have turn : (qn i < qn r ∨ (qn i = qn r ∧ s.b i < s.b r)) → (∃ b fo u4 u5 u6, [some (V.ref p), some (.int (e : Nat)), some v5, some (.int (i : Nat)), some (.int (i : Nat)), some (.ref ar), some v5] = [some (.ref p), some (.int (e : Nat)), some b, some fo, u4, u5, u6] ∧
              ((b = .non ∧ fo = .non ∧ ∀ k, k < i + 1 → s.T k e ≤ 0) ∨ ∃ r : Nat, r < i + 1 ∧ fo = .int (r : Nat) ∧ PAt K H5 b (qn r) ∧ 0 < s.T r e ∧ ∀ k, k < i + 1 → 0 < s.T k e → qn r < qn k ∨ (qn r = qn k ∧ s.b r ≤ s.b k))) := fun h =>
            ⟨v5, _, _, _, _, rfl, .inr ⟨i, by omega, rfl, r5, hpos, fun k hk hkp => by
              by_cases hk' : k < i
              · rcases hall k hk' hkp with z | z
                · rcases h with y | y
                  · exact .inl (Std.lt_trans y z)
                  · exact .inl (by rw [y.1]; exact z)
                · rcases h with y | y
                  · exact .inl (by rw [← z.1]; exact y)
                  · exact .inr ⟨by rw [← z.1]; exact y.1, by omega⟩
              · have : k = i := by omega
                subst this; exact .inr ⟨rfl, Nat.le_refl _⟩⟩⟩
          subst eb
          refine ⟨_, rfl, iteF ?_⟩
          refine ⟨_, rfl, _, rfl, _, _, qn i, qn r, rfl, r5, pb5, ?_⟩
          by_cases h1 : qn i < qn r
          · rw [decide_eq_true h1]
            refine ⟨_, rfl, iteT (iteT ?_)⟩
            exact ⟨_, rfl, _, rfl, _, _, rfl, g6, turn (.inl h1)⟩
          · rw [decide_eq_false h1]
            refine ⟨_, rfl, iteF ?_⟩
            refine ⟨_, rfl, _, rfl, _, _, r5.dp, pb5.dp, part_shaped _, part_shaped _, _, rfl, ?_⟩
            rw [part_eqv]
            by_cases h2 : qn i = qn r
            · rw [decide_eq_true h2]
              refine iteT ?_
              refine ⟨_, rfl, p, C, dx, _, _, rfl, g6.at hp, U.cl, U.nB, flds_b, _, rfl, _, _, _, _, rfl, rfl, SqL.of (g6.at hB), at_of rfl (iB i hi), ?_⟩
              refine ⟨_, rfl, p, C, dx, _, _, rfl, g6.at hp, U.cl, U.nB, flds_b, _, rfl, _, _, _, _, rfl, rfl, SqL.of (g6.at hB), at_of rfl (iB r (by omega)), _, _, rfl, rfl, _, rfl, ?_⟩
              by_cases h3 : s.b i < s.b r
              · rw [decide_eq_true (show ((s.b i : Nat) : Int) < ((s.b r : Nat) : Int) by omega)]
                refine iteT ?_
                exact ⟨_, rfl, _, rfl, _, _, rfl, g6, turn (.inr ⟨h2, h3⟩)⟩
              · rw [decide_eq_false (show ¬ ((s.b i : Nat) : Int) < ((s.b r : Nat) : Int) by omega)]
                refine iteF ?_
                exact ⟨g6, keep _ pb5 h1 fun z => h3 z.2⟩
            · rw [decide_eq_false h2]
              refine iteF (iteF ?_)
              exact ⟨g6, keep _ pb5 h1 fun z => h2 z.1⟩
      · rw [decide_eq_false hpos]
        refine ⟨_, rfl, iteF ⟨g2, b, fo, _, _, _, rfl, ?_⟩⟩
        rcases inv with ⟨rfl, rfl, hall⟩ | ⟨r, hr', rfl, pb, hrp, hall⟩
        · refine .inl ⟨rfl, rfl, fun k hk => ?_⟩
          by_cases h : k < i
          · exact hall k h
          · have : k = i := by omega
            subst this; exact Rat.not_lt.mp hpos
        · refine .inr ⟨r, by omega, rfl, pb.gw gq, hrp, fun k hk hkp => ?_⟩
          by_cases h : k < i
          · exact hall k h hkp
          · have : k = i := by omega
            subst this; exact absurd hkp hpos
    · rintro σ H1 ⟨g1, b, fo, u4, u5, u6, rfl, inv⟩
      refine ⟨_, rfl, k _ _ g1 ?_⟩
      rcases inv with ⟨rfl, rfl, hall⟩ | ⟨r, hr', rfl, pb, hrp, hall⟩
      · exact .inr ⟨rfl, hall⟩
      · exact .inl ⟨r, rfl, hr', hrp, hall⟩
end
end K44


set_option Elab.async false
set_option linter.all false
set_option maxRecDepth 100000
set_option maxHeartbeats 4000000
set_option exponentiation.threshold 3000
/-! turn. -/
namespace K44
open PySem L2
open LP (Fit lim S Tab)
theorem ixNat {n j : Nat} (hj : j < n) : ixN n (j : Int) = some j := by
  unfold ixN
  rw [if_pos (by omega), if_pos (by omega)]
  simp
theorem r2_updR {H : Hp} {aR aB : Addr} {o : HO} : R2 (upd H aR o) aR aB = R2 H aR aB := by
  show rm (rm (upd H aR o) aR) aB = rm (rm H aR) aB
  rw [rm_upd]
theorem r2_updB {H : Hp} {aR aB : Addr} {o : HO} (ne : aR ≠ aB) : R2 (upd H aB o) aR aB = R2 H aR aB := by
  funext b
  show (if b = aB then none else if b = aR then none else if b = aB then some o else H b) = (if b = aB then none else if b = aR then none else H b)
  by_cases h : b = aB
  · rw [if_pos h, if_pos h]
  · rw [if_neg h, if_neg h, if_neg h]
theorem VL.r2 {K : PySem.W.Frag} {H : Hp} {D aR aB : Addr} {n : Nat} {f : Nat → Rat} {xs ys : List V} (h : VL K H (.ref D) n f) (n1 : D ≠ aR) (n2 : D ≠ aB) (hR : H aR = some (.lst xs)) (hB : H aB = some (.lst ys)) (ne : aR ≠ aB) : VL K (R2 H aR aB) (.ref D) n f :=
  (h.rm n1 hR).rm n2 (by rw [rm_ne ne.symm]; exact hB)
section
variable {K : PySem.W.Frag} {C : Addr} {H H' : Hp} {p aR aB : Addr} {n m : Nat} {col : Nat → Nat → Rat} {want : Nat → Rat} {s : Tab}
/-- a row is put in -/
theorem TabAt.setRow (h : TabAt K C H p aR aB n m col want s) {rws : List V} (hR : H aR = some (.lst rws)) {i : Nat} {v : V} {f : Nat → Rat} (hv : VL K (R2 H aR aB) v (m + n + 1) f) :
    TabAt K C (upd H aR (.lst (rws.set i v))) p aR aB n m col want { T := fun k j => if k = i then f j else s.T k j, b := s.b } where
  ob := by rw [r2_updR]; exact h.ob
  rows := by
    obtain ⟨rws', h1, h2, h3⟩ := h.rows
    rw [hR] at h1; cases h1
    refine ⟨_, upd_same, by rw [List.length_set]; exact h2, fun k hk => ?_⟩
    rw [r2_updR]
    by_cases e : k = i
    · subst e
      refine ⟨v, by rw [List.getElem?_set_self (by omega)], ?_⟩
      exact hv.congr fun j _ => (if_pos rfl).symm
    · obtain ⟨x, e1, e2⟩ := h3 k hk
      refine ⟨x, by rw [List.getElem?_set_ne (Ne.symm e)]; exact e1, ?_⟩
      exact e2.congr fun j _ => (if_neg e).symm
  bas := by
    obtain ⟨bs, h1, h2⟩ := h.bas
    exact ⟨bs, by rw [upd_ne h.ne.symm]; exact h1, h2⟩
  ne := h.ne
theorem TabAt.setBas (h : TabAt K C H p aR aB n m col want s) {bs : List V} (hB : H aB = some (.lst bs)) {i e : Nat} :
    TabAt K C (upd H aB (.lst (bs.set i (.int (e : Nat))))) p aR aB n m col want { T := s.T, b := fun k => if k = i then e else s.b k } where
  ob := by rw [r2_updB h.ne]; exact h.ob
  rows := by
    obtain ⟨rws, h1, h2, h3⟩ := h.rows
    refine ⟨rws, by rw [upd_ne h.ne]; exact h1, h2, fun k hk => ?_⟩
    rw [r2_updB h.ne]
    exact h3 k hk
  bas := by
    obtain ⟨bs', h1, h2, h3⟩ := h.bas
    rw [hB] at h1; cases h1
    refine ⟨_, upd_same, by rw [List.length_set]; exact h2, fun k hk => ?_⟩
    by_cases q : k = i
    · subst q
      rw [List.getElem?_set_self (by omega)]
      show some (V.int ((e : Nat) : Int)) = some (V.int ((if k = k then e else s.b k : Nat) : Int))
      rw [if_pos rfl]
    · rw [List.getElem?_set_ne (Ne.symm q)]
      show _ = some (V.int ((if k = i then e else s.b k : Nat) : Int))
      rw [if_neg q]
      exact h3 k hk
  ne := h.ne
end
def FitP (n m : Nat) (s : Tab) (r e : Nat) : Prop := (∀ j, j ≤ m + n → Fit (s.T r j / s.T r e)) ∧ ∀ i j, i < n → j ≤ m + n → Fit (s.T i e * (s.T r j / s.T r e)) ∧ Fit (s.T i j - s.T i e * (s.T r j / s.T r e))
/-- an answer, the table changed -/
abbrev Ans2 (H : Hp) (aR aB : Addr) (R : V → Hp → Prop) (Q : VK) : Prop := ∀ v H', Gw (R2 H aR aB) (R2 H' aR aB) → R v H' → Q v H'
def spTurn (K : PySem.W.Frag) (C : Addr) : Sp := fun vs H Q _ => ∃ (p aR aB : Addr) (r e n m : Nat) (col : Nat → Nat → Rat) (want : Nat → Rat) (s : Tab), vs = [.ref p, .int (r : Nat), .int (e : Nat)] ∧ TabAt K C H p aR aB n m col want s ∧ n ≤ 1000 ∧ m ≤ 1000 ∧ r < n ∧ e < m + n ∧ s.T r e ≠ 0 ∧
  FitP n m s r e ∧ Ans2 H aR aB (fun v H' => v = .non ∧ TabAt K C H' p aR aB n m col want (LP.piv s r e)) Q
/-- the table on the way -/
def mid (s : Tab) (r e i : Nat) : Tab := { T := fun k j => if k = r then s.T r j / s.T r e else if k < i then s.T k j - s.T k e * (s.T r j / s.T r e) else s.T k j, b := s.b }
section
variable {P : Program} {w : World} {K : PySem.W.Frag} {mg : Str → Option Value} {base : Heap}
theorem scTurn : FnScope ["self", "number", "place", "head", "other", "row", "factor", "one", "two"] ["self", "number", "place"] (defScope (sT 4)) := ⟨rfl, rfl, rfl, by decide +kernel, rfl, by decide +kernel, by decide +kernel⟩
theorem ok_turn {C : Addr} {f : Addr} {fd : FuncData} (F : Fun K "turn" "Table.turn" (sT 4) f fd) (T : Txt K mg) (U : CTxt K mg C) (C1 : C2 P w K mg base "minus" (· - ·)) (C2' : C2 P w K mg base "times" (· * ·)) (C3 : Cal P w K mg base "over" 2 ["one", "other"] (sp2o K)) :
    FnOk P w K mg base CX0 3 f fd ["self", "number", "place"] (spTurn K C) := by
  refine F.ok scTurn (fun vs H Q E h => ?_) (fun cdv A outer s H vs Q E hr h => ?_)
  · obtain ⟨p, aR, aB, r, e, n, m, col, want, s, rfl, _⟩ := h
    rfl
  · obtain ⟨p, aR, aB, r, e, n, m, col, want, s, rfl, tab, hn, hm, hrn, he, hne0, ft, k⟩ := h
    obtain ⟨az, hz, zt⟩ := T.zero
    refine ⟨_, pss_cons (ps_set (i := 3) scTurn.nd rfl (Or.inr rfl) (pe_ix (ixL K) (pe_ix (ixL K) (fldK K (pv 0)) (pv 1) (fun _ _ => rfl)) (pv 2) (fun _ _ => rfl)))
      (pss_cons (ps_asg (pe_lc (own := [("one", 7)]) (g := gName 7) (tt := tYes) rfl scTurn.nd (listK K (pe_ix (ixL K) (fldK K (pv 0)) (pv 1) (fun _ _ => rfl))) (blkOk_by (N := ["self", "number", "place", "head", "other", "row", "factor", "one", "two"]) (by kernel_rfl))
          (fun _ _ _ _ _ => pg_name (i := 7) scTurn.nd rfl (Or.inl rfl)) (fun _ _ _ _ _ => pts_nil)
          (fun _ _ _ _ _ => pe_call C3.ok hr rfl C3.hm C3.kp C3.b .nil pass0 (pa_cons (pv 7) (pa_cons (pv 3) pa_nil)))) (pg_sub (fldK K (pv 0)) (pv 1) set_list))
      (pss_cons (ps_for PassesOwn.never rfl (pi_range1 rfl T.range (pa_cons (pe_callB (lenK K) (by rfl) T.len PySem.boot_len (pa_cons (fldK K (pv 0)) pa_nil)) pa_nil)) (pg_name (i := 4) scTurn.nd rfl (Or.inl rfl))
        (pss_cons (ps_set (i := 5) scTurn.nd rfl (Or.inl rfl) (pe_ix (ixL K) (fldK K (pv 0)) (pv 4) (fun _ _ => rfl)))
        (pss_one (ps_if (PW.pt (pw_and (pt_cmpR op_ne (pv 4) (pv 1) (nomark _)) (pw_and1 (pt_cmpR (neK K hr.units) (pe_ix (ixL K) (pv 5) (pv 2) (fun _ _ => rfl)) (pe_glob (v := .ref az) rfl hz rfl) (nomark _)))))
          (pss_cons (ps_set (i := 6) scTurn.nd rfl (Or.inr rfl) (pe_ix (ixL K) (pv 5) (pv 2) (fun _ _ => rfl)))
          (pss_one (ps_asg (pe_lc (own := [("one", 7), ("two", 8)]) (g := gTup K 2 (gCons (gName 7) (gCons (gName 8) gNil))) (tt := tYes) rfl scTurn.nd (zipK K rfl T.zip (pa_cons (pv 5) (pa_cons (pe_ix (ixL K) (fldK K (pv 0)) (pv 1) (fun _ _ => rfl)) pa_nil)))
            (blkOk_by (N := ["self", "number", "place", "head", "other", "row", "factor", "one", "two"]) (by kernel_rfl))
            (fun _ _ _ _ _ => pg_tup rfl (pgs_cons (pg_name (i := 7) scTurn.nd rfl (Or.inl rfl)) (pgs_cons (pg_name (i := 8) scTurn.nd rfl (Or.inl rfl)) pgs_nil))) (fun _ _ _ _ _ => pts_nil)
            (fun _ _ _ _ _ => pe_call C1.ok hr rfl C1.hm C1.kp C1.b .nil pass0 (pa_cons (pv 7) (pa_cons (pe_call C2'.ok hr rfl C2'.hm C2'.kp C2'.b .nil pass0 (pa_cons (pv 6) (pa_cons (pv 8) pa_nil))) pa_nil)))) (pg_sub (fldK K (pv 0)) (pv 4) set_list)))) pss_nil))))
      (pss_one (ps_asg (pv 2) (pg_sub (fldK K (pv 0)) (pv 1) set_list))))), ?_⟩
    obtain ⟨cv, aS, dx, sgs, hp', _⟩ := id tab.ob
    obtain ⟨rws, hR, lR, iR⟩ := id tab.rows
    obtain ⟨bs, hB, lB, iB⟩ := id tab.bas
    have hp : H p = some (.ins C dx (flds cv aS aR aB)) := Gw.r2_le.at hp'
    obtain ⟨xr, exr, ⟨ar, vr, rfl, hsr, lr, ir⟩⟩ := iR r hrn
    have hsrR := hsr
    have hsr := Gw.r2_le.sqL hsr
    obtain ⟨yh, eyh, pyh⟩ := ir e (by omega)
    have pyhR := pyh
    have pyh := pyh.gw Gw.r2_le
    refine ⟨_, rfl, p, C, dx, _, _, rfl, hp, U.cl, U.nR, flds_r, _, rfl, _, _, _, _, rfl, rfl, SqL.of hR, at_of rfl exr, _, rfl, _, _, _, _, rfl, rfl, hsr, at_of rfl eyh, ?_⟩
    refine ⟨_, rfl, p, C, dx, _, _, rfl, hp, U.cl, U.nR, flds_r, _, rfl, _, _, _, _, rfl, rfl, SqL.of hR, at_of rfl exr, ar, rfl, ⟨vr, hsr⟩, fun D1 hD1 => lc_grow (walk_listY lr) hD1 (by omega) (fun j v H => PAt K H v (s.T r j / s.T r e)) (fun _ _ _ _ g r => r.gw g)
      (fun H3 g3 => g3.sqL hsr) (fun j x H1 H' hj _ g1 ⟨zs, hz⟩ hY C1 hC1 => ?_) (fun H1 zs g1 g2 hz hlen hit => ?_)⟩
    · obtain ⟨rfl, hx⟩ := hY
      obtain ⟨y, ey, py⟩ := ir j hj
      rw [hx] at ey; cases ey
      exact ⟨rfl, _, rfl, _, rfl, _, _, s.T r j, s.T r e, rfl, (py.gw Gw.r2_le).gw g1, pyh.gw g1, hne0, ft.1 j (by omega), fun v H4 g4 r4 => hC1 v H4 g4 (r4.rm (g4.at hz))⟩
    have nDR : D1 ≠ aR := fun z => by rw [z, hR] at hD1; cases hD1
    have nDB : D1 ≠ aB := fun z => by rw [z, hB] at hD1; cases hD1
    have hv1 : VL K (R2 H1 aR aB) (.ref D1) (m + n + 1) (fun j => s.T r j / s.T r e) := VL.r2 ⟨D1, zs, rfl, SqL.of hz, hlen, fun j hj => let ⟨y, e, r⟩ := hit j hj; ⟨y, e, r.gw Gw.rm_le⟩⟩ nDR nDB (g1.at hR) (g1.at hB) tab.ne
    have tab1 := (tab.gw g1).setRow (g1.at hR) (i := r) hv1
    have gg1 : Gw (R2 H aR aB) (R2 (upd H1 aR (.lst (rws.set r (.ref D1)))) aR aB) := by rw [r2_updR]; exact g1.r2 aR aB
    refine ⟨_, rfl, p, C, dx, _, _, rfl, g1.at hp, U.cl, U.nR, flds_r, _, rfl, aR, rws, _, r, rfl, rfl, g1.at hR, ?_, ?_⟩
    · unfold ixN
      rw [if_pos (by omega), if_pos (by omega)]; simp
    generalize upd H1 aR (.lst (rws.set r (.ref D1))) = H2 at tab1 gg1 ⊢
    have tab2 : TabAt K C H2 p aR aB n m col want (mid s r e 0) := tab1.congr (fun i j _ _ => by
      show (if i = r then _ else _) = (if i = r then _ else if i < 0 then _ else _)
      rw [if_neg (Nat.not_lt_zero i)]) (fun _ _ => rfl)
    obtain ⟨rws2, hR2, lR2, iR2⟩ := id tab2.rows
    have obj : ∀ {H' : Hp}, Gw (R2 H aR aB) (R2 H' aR aB) → H' p = some (.ins C dx (flds cv aS aR aB)) := fun g => Gw.r2_le.at (g.at hp')
    refine ⟨_, rfl, p, C, dx, _, _, rfl, obj gg1, U.cl, U.nR, flds_r, aR, rws2, rfl, .inl (SqL.of hR2), _, rfl, by omega, by omega, ?_⟩
    refine for_it (walk_rangeN (N := n) (by omega)) (fun i σ H' => Gw (R2 H aR aB) (R2 H' aR aB) ∧ TabAt K C H' p aR aB n m col want (mid s r e i) ∧ ∃ u4 u5 u6, σ = [some (.ref p), some (.int (r : Nat)), some (.int (e : Nat)), some yh, u4, u5, u6, none, none])
      ⟨gg1, tab2, none, none, none, rfl⟩ (fun _ _ _ _ _ => True.intro) ?_ ?_
    · rintro i y σ H1 H' hi ⟨gg, tb, u4, u5, u6, rfl⟩ ⟨rfl, rfl⟩
      obtain ⟨rws, hR, lR, iR⟩ := id tb.rows
      obtain ⟨bs, hB, lB, iB⟩ := id tb.bas
      have hp := obj gg
      obtain ⟨xi, exi, ⟨ai, vi, rfl, hsi, li, ii⟩⟩ := iR i hi
      have hsi := Gw.r2_le.sqL hsi
      refine ⟨_, rfl, p, C, dx, _, _, rfl, hp, U.cl, U.nR, flds_r, _, rfl, _, _, _, _, rfl, rfl, SqL.of hR, at_of rfl exi, ?_⟩
      refine ⟨_, rfl, _, rfl, rfl, _, rfl, ?_⟩
      by_cases hir : i = r
      · subst hir
        rw [decide_eq_true rfl]
        refine iteF (iteF ⟨gg, tb.congr (fun k j hk hj => ?_) (fun _ _ => rfl), _, _, _, rfl⟩)
        show (if k = i then _ else if k < i then _ else _) = (if k = i then _ else if k < i + 1 then _ else _)
        by_cases h : k = i
        · rw [if_pos h, if_pos h]
        · rw [if_neg h, if_neg h]
          by_cases h2 : k < i
          · rw [if_pos h2, if_pos (by omega)]
          · rw [if_neg h2, if_neg (by omega)]
      · rw [decide_eq_false (show ¬ V.int ((i : Nat) : Int) = V.int ((r : Nat) : Int) from fun z => by have := V.int.inj z; omega)]
        refine iteT ?_
        obtain ⟨ye, eye, pye⟩ := ii e (by omega)
        have pye := pye.gw Gw.r2_le
        have eT : ∀ j, (mid s r e i).T i j = s.T i j := fun j => by
          show (if i = r then _ else if i < i then _ else _) = _
          rw [if_neg hir, if_neg (Nat.lt_irrefl i)]
        rw [eT] at pye
        refine ⟨_, rfl, _, rfl, _, _, _, _, rfl, rfl, hsi, at_of rfl eye, _, _, pye.dp, (show PAt K H' (.ref az) 0 from ⟨⟨az, rfl, zt _⟩, fit_zero⟩).dp, part_shaped _, part_shaped _, _, rfl, ?_⟩
        rw [part_eqv]
        by_cases hze : s.T i e = 0
        · rw [decide_eq_true hze]
          refine iteF ⟨gg, tb.congr (fun k j hk hj => ?_) (fun _ _ => rfl), _, _, _, rfl⟩
          show (if k = r then _ else if k < i then _ else _) = (if k = r then _ else if k < i + 1 then _ else _)
          by_cases h : k = r
          · rw [if_pos h, if_pos h]
          · rw [if_neg h, if_neg h]
            by_cases h2 : k < i
            · rw [if_pos h2, if_pos (by omega)]
            · rw [if_neg h2]
              by_cases h3 : k = i
              · subst h3
                rw [if_pos (by omega), hze]; grind
              · rw [if_neg (by omega)]
        · rw [decide_eq_false hze]
          refine iteT ?_
          obtain ⟨xr, exr, ⟨ar2, vr2, rfl, hsr2, lr2, ir2⟩⟩ := iR r hrn
          have hsr2 := Gw.r2_le.sqL hsr2
          have eR : ∀ j, (mid s r e i).T r j = s.T r j / s.T r e := fun j => if_pos rfl
          refine ⟨_, rfl, _, rfl, _, _, _, _, rfl, rfl, hsi, at_of rfl eye, ?_⟩
          refine ⟨_, rfl, _, rfl, p, C, dx, _, _, rfl, hp, U.cl, U.nR, flds_r, _, rfl, _, _, _, _, rfl, rfl, SqL.of hR, at_of rfl exr, ai, ar2, vi, vr2, rfl, .inl ⟨hsi, hsr2, fun D2 hD2 =>
            lc_grow (walk_zip (K := K) (a := ai) (b := ar2) (xs := vi) (ys := vr2) (n := m + n + 1) (by omega)) hD2 (by omega) (fun j v H => PAt K H v (s.T i j - s.T i e * (s.T r j / s.T r e))) (fun _ _ _ _ g r => r.gw g)
            (fun H3 g3 => ⟨g3.sqL hsi, g3.sqL hsr2⟩) (fun j x H3 H4 hj _ g3 ⟨zs, hz⟩ hY C4 hC4 => ?_) (fun H3 zs g3 g4 hz hlen hit => ?_)⟩⟩
          · obtain ⟨q, a1, a2, rfl, hq, rfl, e1, e2⟩ := hY
            obtain ⟨a1', e1', p1⟩ := ii j hj
            obtain ⟨a2', e2', p2⟩ := ir2 j hj
            have e1 : vi[j]? = some a1 := e1
            have e2 : vr2[j]? = some a2 := e2
            rw [e1] at e1'; cases e1'
            rw [e2] at e2'; cases e2'
            rw [eT] at p1
            rw [eR] at p2
            have g5 : Gw H' (upd H3 q (.tup [a1, a2])) := g3.trans (Gw.new _ hq)
            refine ⟨q, _, rfl, SqT.of upd_same, rfl, _, _, rfl, _, _, rfl, rfl, rfl, _, rfl, _, rfl, _, rfl, ?_⟩
            refine ⟨_, _, s.T i e, s.T r j / s.T r e, rfl, pye.gw g5, (p2.gw Gw.r2_le).gw g5, (ft.2 i j hi (by omega)).1, fun v6 H6 g6 r6 => ?_⟩
            refine ⟨_, _, s.T i j, s.T i e * (s.T r j / s.T r e), rfl, ((p1.gw Gw.r2_le).gw g5).gw g6, r6, (ft.2 i j hi (by omega)).2, fun v7 H7 g7 r7 => ?_⟩
            have g8 := ((Gw.new _ hq).trans g6).trans g7
            exact hC4 v7 H7 g8 (r7.rm (g8.at hz))
          · have nDR : D2 ≠ aR := fun z => by rw [z, hR] at hD2; cases hD2
            have nDB : D2 ≠ aB := fun z => by rw [z, hB] at hD2; cases hD2
            have hv1 : VL K (R2 H3 aR aB) (.ref D2) (m + n + 1) (fun j => s.T i j - s.T i e * (s.T r j / s.T r e)) := VL.r2 ⟨D2, zs, rfl, SqL.of hz, hlen, fun j hj => let ⟨y, e, r⟩ := hit j hj; ⟨y, e, r.gw Gw.rm_le⟩⟩ nDR nDB (g3.at hR) (g3.at hB) tab.ne
            have tab1 := (tb.gw g3).setRow (g3.at hR) (i := i) hv1
            have gg1 : Gw (R2 H aR aB) (R2 (upd H3 aR (.lst (rws.set i (.ref D2)))) aR aB) := by rw [r2_updR]; exact gg.trans (g3.r2 aR aB)
            refine ⟨_, rfl, p, C, dx, _, _, rfl, g3.at hp, U.cl, U.nR, flds_r, _, rfl, aR, rws, _, i, rfl, rfl, g3.at hR, ?_, ?_⟩
            · rw [lR]; exact ixNat hi
            refine ⟨gg1, tab1.congr (fun k j hk hj => ?_) (fun _ _ => rfl), _, _, _, rfl⟩
            show (if k = i then _ else if k = r then _ else if k < i then _ else _) = (if k = r then _ else if k < i + 1 then _ else _)
            by_cases h3 : k = i
            · subst h3
              rw [if_pos rfl, if_neg hir, if_pos (by omega)]
            · rw [if_neg h3]
              by_cases h : k = r
              · rw [if_pos h, if_pos h]
              · rw [if_neg h, if_neg h]
                by_cases h2 : k < i
                · rw [if_pos h2, if_pos (by omega)]
                · rw [if_neg h2, if_neg (by omega)]
    · rintro σ H1 ⟨gg, tb, u4, u5, u6, rfl⟩
      obtain ⟨bs, hB, lB, iB⟩ := id tb.bas
      refine ⟨_, rfl, _, rfl, p, C, dx, _, _, rfl, obj gg, U.cl, U.nB, flds_b, _, rfl, aB, bs, _, r, rfl, rfl, hB, ?_, ?_⟩
      · rw [lB]; exact ixNat hrn
      refine k _ _ (by rw [r2_updB tab.ne]; exact gg) ⟨rfl, (tb.setBas hB).congr (fun k j hk hj => ?_) (fun k hk => rfl)⟩
      show (if k = r then _ else if k < n then _ else _) = (if k = r then _ else _)
      rw [if_pos hk]
end
end K44


set_option Elab.async false
set_option linter.all false
set_option maxRecDepth 100000
set_option maxHeartbeats 4000000
set_option exponentiation.threshold 3000
/-! weights, way, sides. -/
namespace K44
open PySem L2
open LP (Fit lim S Tab)
theorem flat_one {v : V} : ∀ n : Nat, (List.replicate n [v]).flatten = List.replicate n v
  | 0 => rfl
  | n + 1 => by
    show [v] ++ (List.replicate n [v]).flatten = v :: List.replicate n v
    rw [flat_one n]; rfl
theorem S_none {n : Nat} {b : Nat → Nat} {f : Nat → Rat} {j : Nat} (h : ∀ k, k < n → b k ≠ j) : S n (fun k => if b k = j then f k else 0) = 0 := LP.S_zero fun k hk => if_neg (h k hk)
/-- a place of the list that is made is written -/
theorem set_items {K : PySem.W.Frag} {H : Hp} {xs : List V} {m : Nat} {f g : Nat → Rat} {i : Nat} {y : V} (hl : xs.length = m) (hx : ∀ j, j < m → ∃ y, xs[j]? = some y ∧ PAt K H y (f j)) (hi : i < m) (hy : PAt K H y (g i)) (e : ∀ j, j < m → j ≠ i → f j = g j) :
    (xs.set i y).length = m ∧ ∀ j, j < m → ∃ z, (xs.set i y)[j]? = some z ∧ PAt K H z (g j) := by
  refine ⟨by rw [List.length_set]; exact hl, fun j hj => ?_⟩
  by_cases h : j = i
  · subst h
    exact ⟨y, by rw [List.getElem?_set_self (by omega)], hy⟩
  · obtain ⟨z, e1, e2⟩ := hx j hj
    exact ⟨z, by rw [List.getElem?_set_ne (Ne.symm h)]; exact e1, by rw [← e j hj h]; exact e2⟩
def spWeights (K : PySem.W.Frag) (C : Addr) : Sp := fun vs H Q _ => ∃ (p aR aB : Addr) (n m : Nat) (col : Nat → Nat → Rat) (want : Nat → Rat) (s : Tab), vs = [.ref p, .int (m : Nat)] ∧ TabAt K C H p aR aB n m col want s ∧ n ≤ 1000 ∧ m ≤ 1000 ∧ (∀ i k, i < n → k < n → s.b i = s.b k → i = k) ∧
  Ans H (fun v H' => VT K H' v m (LP.wt n m s)) Q
def spWay (K : PySem.W.Frag) (C : Addr) : Sp := fun vs H Q _ => ∃ (p aR aB : Addr) (e n m : Nat) (col : Nat → Nat → Rat) (want : Nat → Rat) (s : Tab), vs = [.ref p, .int (e : Nat), .int (m : Nat)] ∧ TabAt K C H p aR aB n m col want s ∧ n ≤ 1000 ∧ m ≤ 1000 ∧ (∀ i k, i < n → k < n → s.b i = s.b k → i = k) ∧
  e < m ∧ (∀ i, i < n → s.b i ≠ e) ∧ (∀ i, i < n → Fit (0 - s.T i e)) ∧ Ans H (fun v H' => VT K H' v m (LP.dir n s e)) Q
def FitS (n m : Nat) (want c : Nat → Rat) (s : Tab) : Prop := ∀ k, k < n → Fit (c (m + k) - LP.red n c s (m + k)) ∧ Fit (LP.side n m want c s k)
def spSides (K : PySem.W.Frag) (C : Addr) : Sp := fun vs H Q _ => ∃ (p aR aB : Addr) (wv : V) (n m : Nat) (col : Nat → Nat → Rat) (want c : Nat → Rat) (s : Tab), vs = [.ref p, wv] ∧ TabAt K C H p aR aB n m col want s ∧ VL K H wv (m + n) c ∧ n ≤ 1000 ∧ m ≤ 1000 ∧
  (∀ i, i < n → s.b i < m + n) ∧ FitR n m c s ∧ FitS n m want c s ∧ Ans H (fun v H' => VT K H' v n (LP.side n m want c s)) Q
section
variable {P : Program} {w : World} {K : PySem.W.Frag} {mg : Str → Option Value} {base : Heap}
theorem scWeights : FnScope ["self", "many", "found", "number", "place"] ["self", "many"] (defScope (sT 6)) := ⟨rfl, rfl, rfl, by decide +kernel, rfl, by decide +kernel, by decide +kernel⟩
theorem ok_weights {C : Addr} {f : Addr} {fd : FuncData} (F : Fun K "weights" "Table.weights" (sT 6) f fd) (T : Txt K mg) (U : CTxt K mg C) :
    FnOk P w K mg base CX0 1 f fd ["self", "many"] (spWeights K C) := by
  refine F.ok scWeights (fun vs H Q E h => ?_) (fun cdv A outer s H vs Q E hr h => ?_)
  · obtain ⟨p, aR, aB, n, m, col, want, s, rfl, _⟩ := h
    rfl
  · obtain ⟨p, aR, aB, n, m, col, want, s, rfl, tab, hn, hm, inj, k⟩ := h
    obtain ⟨az, hz, zt⟩ := T.zero
    refine ⟨_, pss_cons (ps_set (i := 2) scWeights.nd rfl (Or.inl rfl) (pe_op op_rep (pe_lst (pa_cons (pe_glob (v := .ref az) rfl hz rfl) pa_nil)) (pv 1)))
      (pss_cons (ps_for PassesOwn.never rfl (enumK K rfl T.enum (pa_cons (fldK K (pv 0)) pa_nil)) (pg_tup rfl (pgs_cons (pg_name (i := 3) scWeights.nd rfl (Or.inl rfl)) (pgs_cons (pg_name (i := 4) scWeights.nd rfl (Or.inl rfl)) pgs_nil)))
        (pss_one (ps_if (pt_cmpR op_lt (pv 4) (pv 1) (nomark _))
          (pss_one (ps_asg (pe_ix (ixL K) (pe_ix (ixL K) (fldK K (pv 0)) (pv 3) (fun _ _ => rfl)) (pe_un un_neg pe_int) (fun _ _ => rfl)) (pg_sub (pv 2) (pv 4) set_list))) pss_nil)))
      (pss_one (ps_ret (pe_callTy call_tuple_of (by rfl) T.tuple (by decide +kernel) (pa_cons (pv 2) pa_nil))))), ?_⟩
    obtain ⟨cv, aS, dx, sgs, hp', _⟩ := id tab.ob
    obtain ⟨rws, hR, lR, iR⟩ := id tab.rows
    obtain ⟨bs, hB, lB, iB⟩ := id tab.bas
    have hp : H p = some (.ins C dx (flds cv aS aR aB)) := Gw.r2_le.at hp'
    refine ⟨(show 1 ≤ sizeLine by decide), fun L0 hL0 => ⟨_, rfl, L0, m, _, rfl, rfl, upd_same, by omega, by omega, ?_, fun L hL => ?_⟩⟩
    · show 1 * ((m : Int)).toNat ≤ sizeLine
      exact Nat.le_trans (show 1 * ((m : Int)).toNat ≤ 1000 by omega) (by decide)
    rw [flat_one]
    have g00 : Gw H (upd H L0 (.lst [.ref az])) := Gw.new _ hL0
    have g0 : Gw H (rm (upd (upd H L0 (.lst [.ref az])) L (.lst (List.replicate ((m : Int)).toNat (.ref az)))) L) := by
      rw [rm_upd, rm_none hL]; exact g00
    have g01 : Gw H (upd (upd H L0 (.lst [.ref az])) L (.lst (List.replicate ((m : Int)).toNat (.ref az)))) := g00.trans (Gw.new _ hL)
    refine ⟨_, rfl, p, C, dx, _, _, rfl, g01.at hp, U.cl, U.nB, flds_b, aB, bs, rfl, SqL.of (g01.at hB), ?_⟩
    refine for_it (walk_enumL (K := K) (a := aB) lB) (fun i σ H' => (∃ xs, H' L = some (.lst xs) ∧ xs.length = m ∧ Gw H (rm H' L) ∧ ∀ j, j < m → ∃ y, xs[j]? = some y ∧ PAt K (rm H' L) y (S i fun k => if s.b k = j then s.T k (m + n) else 0)) ∧ ∃ u3 u4, σ = [some (.ref p), some (.int (m : Nat)), some (.ref L), u3, u4])
      ⟨⟨_, upd_same, by rw [List.length_replicate]; omega, g0, fun j hj => ⟨.ref az, by rw [List.getElem?_replicate, if_pos (by omega)], ⟨⟨az, rfl, zt _⟩, fit_zero⟩⟩⟩, none, none, rfl⟩ (fun i σ H' _ ⟨⟨xs, _, _, g, _⟩, _⟩ => SqL.of (Gw.rm_le.at (g.at hB))) ?_ ?_
    · rintro i y σ H1 H' hi ⟨⟨xs, hx, lx, g1, ix⟩, u3, u4, rfl⟩ ⟨q, x, rfl, hq, rfl, hxx⟩
      rw [iB i hi] at hxx; cases hxx
      have gq : Gw H1 (upd H1 q (.tup [.int (i : Nat), .int (s.b i : Nat)])) := Gw.new _ hq
      have g2 := g1.trans gq.rm
      have g3 : Gw H (upd H1 q (.tup [.int (i : Nat), .int (s.b i : Nat)])) := g2.trans Gw.rm_le
      refine ⟨q, _, rfl, SqT.of upd_same, rfl, _, _, rfl, _, _, rfl, rfl, ?_⟩
      refine ⟨_, rfl, _, rfl, _, _, rfl, rfl, _, rfl, ?_⟩
      by_cases hb : s.b i < m
      · rw [decide_eq_true (show ((s.b i : Nat) : Int) < (m : Int) by omega)]
        refine iteT ?_
        obtain ⟨x', ex, ⟨ar, vr, rfl, hsr, lr, ir⟩⟩ := iR i hi
        have hsr := Gw.r2_le.sqL hsr
        obtain ⟨yl, eyl, pyl⟩ := ir (m + n) (by omega)
        have pyl := pyl.gw Gw.r2_le
        refine ⟨_, rfl, p, C, dx, _, _, rfl, g3.at hp, U.cl, U.nR, flds_r, _, rfl, _, _, _, _, rfl, rfl, SqL.of (g3.at hR), at_of rfl ex, 1, rfl, _, _, _, _, rfl, rfl, g3.sqL hsr, at_last lr eyl, ?_⟩
        refine ⟨_, rfl, _, rfl, L, xs, _, s.b i, rfl, rfl, gq.at hx, by rw [lx]; exact ixNat hb, ?_⟩
        obtain ⟨sl, si⟩ := set_items (K := K) (H := rm (upd H1 q (.tup [.int (i : Nat), .int (s.b i : Nat)])) L) (g := fun j => S (i + 1) fun k => if s.b k = j then s.T k (m + n) else 0) (y := yl) lx (fun j hj => let ⟨y, e, r⟩ := ix j hj; ⟨y, e, r.gw gq.rm⟩) hb
          (by
            show PAt K _ yl (S i (fun k => if s.b k = s.b i then s.T k (m + n) else 0) + (if s.b i = s.b i then s.T i (m + n) else 0))
            rw [S_none fun k hk z => by have := inj k i (by omega) hi z; omega, if_pos rfl, Rat.zero_add]
            exact (pyl.gw g3).rm (gq.at hx))
          (fun j hj hne => by
            show _ = S i (fun k => if s.b k = j then s.T k (m + n) else 0) + (if s.b i = j then s.T i (m + n) else 0)
            rw [if_neg (Ne.symm hne), Rat.add_zero])
        refine ⟨⟨_, upd_same, sl, by rw [rm_upd]; exact g2, ?_⟩, _, _, rfl⟩
        rw [rm_upd]; exact si
      · rw [decide_eq_false (show ¬ ((s.b i : Nat) : Int) < (m : Int) by omega)]
        refine iteF ⟨⟨xs, gq.at hx, lx, g2, fun j hj => ?_⟩, _, _, rfl⟩
        obtain ⟨y, e, r⟩ := ix j hj
        refine ⟨y, e, ?_⟩
        show PAt K _ y (S i (fun k => if s.b k = j then s.T k (m + n) else 0) + (if s.b i = j then s.T i (m + n) else 0))
        rw [if_neg (by omega), Rat.add_zero]
        exact r.gw gq.rm
    · rintro σ H1 ⟨⟨xs, hx, lx, g1, ix⟩, u3, u4, rfl⟩
      refine ⟨_, rfl, L, xs, rfl, .inl ⟨SqL.of hx, fun l hl => k _ _ ((g1.trans Gw.rm_le).trans (Gw.new _ hl)) ⟨l, xs, rfl, SqT.of upd_same, lx, fun j hj => ?_⟩⟩⟩
      obtain ⟨y, e, r⟩ := ix j hj
      exact ⟨y, e, (r.gw Gw.rm_le).gw (Gw.new _ hl)⟩
theorem scWay : FnScope ["self", "place", "many", "found", "number", "other"] ["self", "place", "many"] (defScope (sT 8)) := ⟨rfl, rfl, rfl, by decide +kernel, rfl, by decide +kernel, by decide +kernel⟩
theorem ok_way {C : Addr} {f : Addr} {fd : FuncData} (F : Fun K "way" "Table.way" (sT 8) f fd) (T : Txt K mg) (U : CTxt K mg C) (C1 : C2 P w K mg base "minus" (· - ·)) :
    FnOk P w K mg base CX0 3 f fd ["self", "place", "many"] (spWay K C) := by
  refine F.ok scWay (fun vs H Q E h => ?_) (fun cdv A outer s H vs Q E hr h => ?_)
  · obtain ⟨p, aR, aB, e, n, m, col, want, s, rfl, _⟩ := h
    rfl
  · obtain ⟨p, aR, aB, e, n, m, col, want, s, rfl, tab, hn, hm, inj, hem, hfree, ft, k⟩ := h
    obtain ⟨az, hz, zt⟩ := T.zero
    obtain ⟨ao, ho, ot⟩ := T.one
    refine ⟨_, pss_cons (ps_set (i := 3) scWay.nd rfl (Or.inl rfl) (pe_op op_rep (pe_lst (pa_cons (pe_glob (v := .ref az) rfl hz rfl) pa_nil)) (pv 2)))
      (pss_cons (ps_asg (pe_glob (v := .ref ao) rfl ho rfl) (pg_sub (pv 3) (pv 1) set_list))
      (pss_cons (ps_for PassesOwn.never rfl (enumK K rfl T.enum (pa_cons (fldK K (pv 0)) pa_nil)) (pg_tup rfl (pgs_cons (pg_name (i := 4) scWay.nd rfl (Or.inl rfl)) (pgs_cons (pg_name (i := 5) scWay.nd rfl (Or.inl rfl)) pgs_nil)))
        (pss_one (ps_if (pt_cmpR op_lt (pv 5) (pv 2) (nomark _))
          (pss_one (ps_asg (pe_call C1.ok hr rfl C1.hm C1.kp C1.b .nil pass0 (pa_cons (pe_glob (v := .ref az) rfl hz rfl) (pa_cons (pe_ix (ixL K) (pe_ix (ixL K) (fldK K (pv 0)) (pv 4) (fun _ _ => rfl)) (pv 1) (fun _ _ => rfl)) pa_nil))) (pg_sub (pv 3) (pv 5) set_list))) pss_nil)))
      (pss_one (ps_ret (pe_callTy call_tuple_of (by rfl) T.tuple (by decide +kernel) (pa_cons (pv 3) pa_nil)))))), ?_⟩
    obtain ⟨cv, aS, dx, sgs, hp', _⟩ := id tab.ob
    obtain ⟨rws, hR, lR, iR⟩ := id tab.rows
    obtain ⟨bs, hB, lB, iB⟩ := id tab.bas
    have hp : H p = some (.ins C dx (flds cv aS aR aB)) := Gw.r2_le.at hp'
    refine ⟨(show 1 ≤ sizeLine by decide), fun L0 hL0 => ⟨_, rfl, L0, m, _, rfl, rfl, upd_same, by omega, by omega, ?_, fun L hL => ?_⟩⟩
    · show 1 * ((m : Int)).toNat ≤ sizeLine
      exact Nat.le_trans (show 1 * ((m : Int)).toNat ≤ 1000 by omega) (by decide)
    rw [flat_one]
    refine ⟨_, rfl, _, rfl, L, _, _, e, rfl, rfl, upd_same, by rw [List.length_replicate]; exact ixNat (by omega), ?_⟩
    have g00 : Gw H (upd H L0 (.lst [.ref az])) := Gw.new _ hL0
    generalize hH1 : upd (upd (upd H L0 (.lst [.ref az])) L (.lst (List.replicate ((m : Int)).toNat (.ref az)))) L (.lst ((List.replicate ((m : Int)).toNat (.ref az)).set e (.ref ao))) = H1
    have hx1 : H1 L = some (.lst ((List.replicate ((m : Int)).toNat (V.ref az)).set e (.ref ao))) := by rw [← hH1]; exact upd_same
    have g0 : Gw H (rm H1 L) := by
      rw [← hH1, rm_upd, rm_upd, rm_none hL]; exact g00
    have g01 : Gw H H1 := g0.trans Gw.rm_le
    clear hH1
    let fv : Nat → Nat → Rat := fun i j => (if j = e then 1 else 0) - S i (fun k => if s.b k = j then s.T k e else 0)
    have i0 : ((List.replicate ((m : Int)).toNat (V.ref az)).set e (.ref ao)).length = m ∧ ∀ j, j < m → ∃ z, ((List.replicate ((m : Int)).toNat (V.ref az)).set e (.ref ao))[j]? = some z ∧ PAt K (rm H1 L) z (fv 0 j) :=
      set_items (f := fun _ => 0) (by rw [List.length_replicate]; omega) (fun j hj => ⟨.ref az, by rw [List.getElem?_replicate, if_pos (by omega)], ⟨⟨az, rfl, zt _⟩, fit_zero⟩⟩) hem
        (by
          show PAt K _ _ ((if e = e then 1 else 0) - 0)
          rw [if_pos rfl, show (1 : Rat) - 0 = 1 by grind]
          exact ⟨⟨ao, rfl, ot _⟩, fit_one⟩) (fun j hj hne => by
          show (0 : Rat) = (if j = e then 1 else 0) - 0
          rw [if_neg hne]; grind)
    refine ⟨_, rfl, p, C, dx, _, _, rfl, g01.at hp, U.cl, U.nB, flds_b, aB, bs, rfl, SqL.of (g01.at hB), ?_⟩
    refine for_it (walk_enumL (K := K) (a := aB) lB) (fun i σ H' => (∃ xs, H' L = some (.lst xs) ∧ xs.length = m ∧ Gw H (rm H' L) ∧ ∀ j, j < m → ∃ y, xs[j]? = some y ∧ PAt K (rm H' L) y (fv i j)) ∧ ∃ u3 u4, σ = [some (.ref p), some (.int (e : Nat)), some (.int (m : Nat)), some (.ref L), u3, u4])
      ⟨⟨_, hx1, i0.1, g0, i0.2⟩, none, none, rfl⟩ (fun i σ H' _ ⟨⟨xs, _, _, g, _⟩, _⟩ => SqL.of (Gw.rm_le.at (g.at hB))) ?_ ?_
    · rintro i y σ H1 H' hi ⟨⟨xs, hx, lx, g1, ix⟩, u3, u4, rfl⟩ ⟨q, x, rfl, hq, rfl, hxx⟩
      rw [iB i hi] at hxx; cases hxx
      have gq : Gw H1 (upd H1 q (.tup [.int (i : Nat), .int (s.b i : Nat)])) := Gw.new _ hq
      have g2 := g1.trans gq.rm
      have g3 : Gw H (upd H1 q (.tup [.int (i : Nat), .int (s.b i : Nat)])) := g2.trans Gw.rm_le
      refine ⟨q, _, rfl, SqT.of upd_same, rfl, _, _, rfl, _, _, rfl, rfl, ?_⟩
      refine ⟨_, rfl, _, rfl, _, _, rfl, rfl, _, rfl, ?_⟩
      by_cases hb : s.b i < m
      · rw [decide_eq_true (show ((s.b i : Nat) : Int) < (m : Int) by omega)]
        refine iteT ?_
        obtain ⟨x', ex, ⟨ar, vr, rfl, hsr, lr, ir⟩⟩ := iR i hi
        have hsr := Gw.r2_le.sqL hsr
        obtain ⟨yl, eyl, pyl⟩ := ir e (by omega)
        have pyl := pyl.gw Gw.r2_le
        refine ⟨_, rfl, p, C, dx, _, _, rfl, g3.at hp, U.cl, U.nR, flds_r, _, rfl, _, _, _, _, rfl, rfl, SqL.of (g3.at hR), at_of rfl ex, _, rfl, _, _, _, _, rfl, rfl, g3.sqL hsr, at_of rfl eyl, ?_⟩
        refine ⟨_, _, 0, s.T i e, rfl, ⟨⟨az, rfl, zt _⟩, fit_zero⟩, pyl.gw g3, ft i hi, fun v4 H4 g4 r4 => ?_⟩
        have gq4 := gq.trans g4
        refine ⟨_, rfl, _, rfl, L, xs, _, s.b i, rfl, rfl, gq4.at hx, by rw [lx]; exact ixNat hb, ?_⟩
        obtain ⟨sl, si⟩ := set_items (K := K) (H := rm H4 L) (g := fv (i + 1)) (y := v4) lx (fun j hj => let ⟨y, e, r⟩ := ix j hj; ⟨y, e, r.gw gq4.rm⟩) hb
          (by
            show PAt K _ v4 ((if s.b i = e then 1 else 0) - (S i (fun k => if s.b k = s.b i then s.T k e else 0) + (if s.b i = s.b i then s.T i e else 0)))
            rw [S_none fun k hk z => by have := inj k i (by omega) hi z; omega, if_pos rfl, Rat.zero_add, if_neg (hfree i hi)]
            exact r4.rm (gq4.at hx))
          (fun j hj hne => by
            show _ = (if j = e then 1 else 0) - (S i (fun k => if s.b k = j then s.T k e else 0) + (if s.b i = j then s.T i e else 0))
            rw [if_neg (Ne.symm hne), Rat.add_zero])
        refine ⟨⟨_, upd_same, sl, by rw [rm_upd]; exact g2.trans g4.rm, ?_⟩, _, _, rfl⟩
        rw [rm_upd]; exact si
      · rw [decide_eq_false (show ¬ ((s.b i : Nat) : Int) < (m : Int) by omega)]
        refine iteF ⟨⟨xs, gq.at hx, lx, g2, fun j hj => ?_⟩, _, _, rfl⟩
        obtain ⟨y, e', r⟩ := ix j hj
        refine ⟨y, e', ?_⟩
        show PAt K _ y ((if j = e then 1 else 0) - (S i (fun k => if s.b k = j then s.T k e else 0) + (if s.b i = j then s.T i e else 0)))
        rw [if_neg (show ¬ s.b i = j by omega), Rat.add_zero]
        exact r.gw gq.rm
    · rintro σ H1 ⟨⟨xs, hx, lx, g1, ix⟩, u3, u4, rfl⟩
      refine ⟨_, rfl, L, xs, rfl, .inl ⟨SqL.of hx, fun l hl => k _ _ ((g1.trans Gw.rm_le).trans (Gw.new _ hl)) ⟨l, xs, rfl, SqT.of upd_same, lx, fun j hj => ?_⟩⟩⟩
      obtain ⟨y, e, r⟩ := ix j hj
      exact ⟨y, e, (r.gw Gw.rm_le).gw (Gw.new _ hl)⟩
theorem sg_num (want : Nat → Rat) (k : Nat) : (LP.sgn want k).num = sgz want k ∧ (LP.sgn want k).den = 1 := by
  unfold LP.sgn sgz
  split <;> exact ⟨rfl, rfl⟩
theorem sg_fit (want : Nat → Rat) (k : Nat) : Fit (LP.sgn want k) := by
  unfold LP.sgn
  split
  · exact fit_neg_one
  · exact fit_one
/-- (sign, 1) -/
theorem sg_part {H : Hp} {q : Addr} (want : Nat → Rat) (k : Nat) (h : H q = some (.tup [.int (sgz want k), .int 1])) : PAt K H (.ref q) (LP.sgn want k) := by
  refine ⟨⟨q, rfl, ?_⟩, sg_fit want k⟩
  rw [(sg_num want k).1, (sg_num want k).2]
  exact SqT.of h
theorem scSides : FnScope ["self", "worths", "many", "added", "found", "place", "sign"] ["self", "worths"] (defScope (sT 7)) := ⟨rfl, rfl, rfl, by decide +kernel, rfl, by decide +kernel, by decide +kernel⟩
theorem ok_sides {C : Addr} {f : Addr} {fd : FuncData} (F : Fun K "sides" "Table.sides" (sT 7) f fd) (T : Txt K mg) (U : CTxt K mg C) (C1 : C2 P w K mg base "minus" (· - ·)) (C2' : C2 P w K mg base "times" (· * ·))
    (M : MCal P w K mg base C "reduced" 5 ["self", "worths"] (spReduced K C)) : FnOk P w K mg base CX0 6 f fd ["self", "worths"] (spSides K C) := by
  refine F.ok scSides (fun vs H Q E h => ?_) (fun cdv A outer s H vs Q E hr h => ?_)
  · obtain ⟨p, aR, aB, wv, n, m, col, want, c, s, rfl, _⟩ := h
    rfl
  · obtain ⟨p, aR, aB, wv, n, m, col, want, c, s, rfl, tab, hw, hn, hm, hb, ft, fs, k⟩ := h
    refine ⟨_, pss_cons (ps_set (i := 2) scSides.nd rfl (Or.inl rfl) (pe_callB (lenK K) (by rfl) T.len PySem.boot_len (pa_cons (fldK K (pv 0)) pa_nil)))
      (pss_cons (ps_set (i := 3) scSides.nd rfl (Or.inl rfl) (pe_meth (pv 0) U.cl M.hm M.ok hr M.b .nil pass0 (pa_cons (pv 1) pa_nil)))
      (pss_cons (ps_set (i := 4) scSides.nd rfl (Or.inl rfl) (pe_lst pa_nil))
      (pss_cons (ps_for PassesOwn.never rfl (enumK K rfl T.enum (pa_cons (fldK K (pv 0)) pa_nil)) (pg_tup rfl (pgs_cons (pg_name (i := 5) scSides.nd rfl (Or.inl rfl)) (pgs_cons (pg_name (i := 6) scSides.nd rfl (Or.inl rfl)) pgs_nil)))
        (pss_one (ps_expr (pe_bm PySem.F.plainAttrs_list PySem.F.slot_list_append PySem.F.type_list_append mt_append (pv 4) (pa_cons (pe_call C2'.ok (hr.mono (by decide)) rfl C2'.hm C2'.kp C2'.b .nil pass0 (pa_cons (pe_tup (pa_cons (pv 6) (pa_cons pe_int pa_nil)))
          (pa_cons (pe_call C1.ok (hr.mono (by decide)) rfl C1.hm C1.kp C1.b .nil pass0 (pa_cons (pe_ix (ixL K) (pv 1) (pe_op op_add (pv 2) (pv 5)) (fun _ _ => rfl)) (pa_cons (pe_ix (ixL K) (pv 3) (pe_op op_add (pv 2) (pv 5)) (fun _ _ => rfl)) pa_nil))) pa_nil))) pa_nil)))))
      (pss_one (ps_ret (pe_callTy call_tuple_of (by rfl) T.tuple (by decide +kernel) (pa_cons (pv 4) pa_nil))))))), ?_⟩
    obtain ⟨cv, aS, dx, sgs, hp', ⟨ac, vc, rfl, hsc, lc, ic⟩, hS, lS, iS⟩ := id tab.ob
    obtain ⟨aw, vw, rfl, hsw, lw, iw⟩ := id hw
    have hp : H p = some (.ins C dx (flds (.ref ac) aS aR aB)) := Gw.r2_le.at hp'
    have hsc := Gw.r2_le.sqT hsc
    have hS := Gw.r2_le.sqL hS
    refine ⟨_, rfl, p, C, dx, _, _, rfl, hp, U.cl, U.nC, flds_c, ac, vc, rfl, .inr hsc, ?_⟩
    rw [lc]
    refine ⟨_, rfl, p, dx, _, rfl, hp, flds_no (by decide +kernel) (by decide +kernel) (by decide +kernel) (by decide +kernel), _, rfl, ?_⟩
    refine ⟨p, aR, aB, _, n, m, col, want, c, s, rfl, tab, hw, hn, hm, hb, ft, fun v H1 g1 r1 => ?_⟩
    obtain ⟨ad, vd, rfl, hsd, ld, idd⟩ := r1
    refine ⟨(show 0 ≤ sizeLine by decide), fun L hL => ?_⟩
    have gL : Gw H1 (upd H1 L (.lst [])) := Gw.new _ hL
    refine ⟨_, rfl, p, C, dx, _, _, rfl, (g1.trans gL).at hp, U.cl, U.nS, flds_s, aS, sgs, rfl, (g1.trans gL).sqL hS, ?_⟩
    refine for_grow (walk_enumL (K := K) (a := aS) lS) (L := L) (H0 := H1) (by omega) (fun σ => ∃ u5 u6, σ = [some (.ref p), some (.ref aw), some (.int (m : Nat)), some (.ref ad), some (.ref L), u5, u6]) (fun j v H => PAt K H v (LP.side n m want c s j)) (fun _ _ _ _ g r => r.gw g) (fun H3 g3 => (g1.trans g3).sqL hS)
      ⟨none, none, rfl⟩ upd_same (by rw [rm_upd, rm_none hL]; exact Gw.refl _) ?_ ?_
    · rintro j x σ H2 H' hj ⟨u5, u6, rfl⟩ _ g2 ⟨zs, hz⟩ ⟨q, y, rfl, hq, rfl, hy⟩ N hN
      rw [iS j hj] at hy; cases hy
      have gq : Gw H2 (upd H2 q (.tup [.int (j : Nat), .int (sgz want j)])) := Gw.new _ hq
      have g3 := g2.trans gq
      refine ⟨q, _, rfl, SqT.of upd_same, rfl, _, _, rfl, _, _, rfl, rfl, ?_⟩
      refine ⟨_, rfl, .inl ⟨rfl, zs, SqL.of (gq.at hz)⟩, ?_⟩
      refine ⟨_, rfl, (show 2 ≤ sizeLine by decide), fun t ht => ?_⟩
      have gt : Gw (upd H2 q (.tup [.int (j : Nat), .int (sgz want j)])) (upd (upd H2 q (.tup [.int (j : Nat), .int (sgz want j)])) t (.tup [.int (sgz want j), .int 1])) := Gw.new _ ht
      have pt := sg_part (K := K) (H := upd (upd H2 q (.tup [.int (j : Nat), .int (sgz want j)])) t (.tup [.int (sgz want j), .int 1])) (q := t) want j upd_same
      have g4 := g3.trans gt
      obtain ⟨yw, eyw, pyw⟩ := iw (m + j) (by omega)
      obtain ⟨yd, eyd, pyd⟩ := idd (m + j) (by omega)
      have pyd : PAt K H1 yd (LP.red n c s (m + j)) := by
        have := pyd
        unfold redv at this
        rwa [if_pos (by omega)] at this
      refine ⟨_, rfl, _, rfl, _, rfl, _, _, rfl, rfl, _, _, _, _, rfl, rfl, (g1.trans g4).sqL hsw, at_of (j := m + j) (by omega) eyw, ?_⟩
      refine ⟨_, rfl, _, rfl, _, rfl, _, _, rfl, rfl, _, _, _, _, rfl, rfl, g4.sqL hsd, at_of (j := m + j) (by omega) eyd, ?_⟩
      refine ⟨_, _, c (m + j), LP.red n c s (m + j), rfl, pyw.gw (g1.trans g4), pyd.gw g4, (fs j hj).1, fun v5 H5 g5 r5 => ?_⟩
      refine ⟨_, _, LP.sgn want j, c (m + j) - LP.red n c s (m + j), rfl, pt.gw g5, r5, (fs j hj).2, fun v6 H6 g6 r6 => ?_⟩
      have g7 := (gq.trans gt).trans (g5.trans g6)
      obtain ⟨xs, h1, h2, h3⟩ := hN _ H6 v6 ⟨_, _, rfl⟩ g7 (PAt.rm r6 (g7.at hz))
      exact ⟨L, xs, v6, rfl, rfl, h1, h2, h3⟩
    · rintro σ H2 xs ⟨u5, u6, rfl⟩ g2 gr hx hlen hit
      refine ⟨_, rfl, L, xs, rfl, .inl ⟨SqL.of hx, fun l hl => k _ _ ((g1.trans g2).trans (Gw.new _ hl)) ⟨l, xs, rfl, SqT.of upd_same, hlen, fun j hj => ?_⟩⟩⟩
      obtain ⟨y, e, r⟩ := hit j hj
      exact ⟨y, e, (r.gw Gw.rm_le).gw (Gw.new _ hl)⟩
end
end K44


set_option Elab.async false
set_option linter.all false
set_option maxRecDepth 100000
set_option maxHeartbeats 4000000
set_option exponentiation.threshold 3000
/-! the table is made. -/
namespace K44
open PySem L2
open LP (Fit lim S Tab)
/-! ### what is no sequence goes away -/
theorem sqT_rmI {K : PySem.W.Frag} {H : Hp} {D a C dx : Addr} {fs : List (Str × V)} {xs : List V} (h : SqT K H a xs) (hD : H D = some (.ins C dx fs)) : SqT K (rm H D) a xs := by
  rcases h with (h | ⟨o, h⟩) | h
  · exact .inl (.inl (by rw [rm_ne fun z => by rw [z, hD] at h; cases h]; exact h))
  · exact .inl (.inr ⟨o, by rw [rm_ne fun z => by rw [z, hD] at h; cases h]; exact h⟩)
  · exact .inr h
theorem sqL_rmI {K : PySem.W.Frag} {H : Hp} {D a C dx : Addr} {fs : List (Str × V)} {xs : List V} (h : SqL K H a xs) (hD : H D = some (.ins C dx fs)) : SqL K (rm H D) a xs := by
  rcases h with (h | ⟨o, h⟩) | h
  · exact .inl (.inl (by rw [rm_ne fun z => by rw [z, hD] at h; cases h]; exact h))
  · exact .inl (.inr ⟨o, by rw [rm_ne fun z => by rw [z, hD] at h; cases h]; exact h⟩)
  · exact .inr h
theorem PAt.rmI {K : PySem.W.Frag} {H : Hp} {D C dx : Addr} {fs : List (Str × V)} {v : V} {q : Rat} (h : PAt K H v q) (hD : H D = some (.ins C dx fs)) : PAt K (K44.rm H D) v q := by
  obtain ⟨⟨a, e, s⟩, f⟩ := h
  exact ⟨⟨a, e, sqT_rmI s hD⟩, f⟩
theorem VL.rmI {K : PySem.W.Frag} {H : Hp} {D C dx : Addr} {fs : List (Str × V)} {v : V} {n : Nat} {f : Nat → Rat} (h : VL K H v n f) (hD : H D = some (.ins C dx fs)) : VL K (K44.rm H D) v n f := by
  obtain ⟨b, vs, e, s, l, i⟩ := h
  exact ⟨b, vs, e, sqL_rmI s hD, l, fun j hj => let ⟨x, e, p⟩ := i j hj; ⟨x, e, p.rmI hD⟩⟩
theorem gw_fin {H8 H9 : Hp} {x aR aB : Addr} {o : HO} (g : Gw H8 H9) (hB : H8 aB = none) : Gw (rm (rm H8 aR) x) (R2 (upd H9 x o) aR aB) := fun b u e => by
  obtain ⟨h1, e⟩ := rm_some e
  obtain ⟨h2, e⟩ := rm_some e
  have h3 : b ≠ aB := fun z => by rw [z, hB] at e; cases e
  show (if b = aB then none else if b = aR then none else if b = x then some o else H9 b) = some u ∨ _
  rcases g b u e with z | ⟨ps, ps', e1, e2, t⟩
  · exact .inl (by rw [if_neg h3, if_neg h2, if_neg h1]; exact z)
  · refine .inr ⟨ps, ps', e1, ?_, t⟩
    show (if b = aB then none else if b = aR then none else if b = x then some o else H9 b) = _
    rw [if_neg h3, if_neg h2, if_neg h1]; exact e2
def fs3 (cv : V) (aS aR : Addr) : List (Str × V) := putF "rows" (.ref aR) (putF "signs" (.ref aS) (putF "columns" cv []))
theorem fs3_r {cv : V} {aS aR : Addr} : (fs3 cv aS aR).lookup ("rows" : Str) = some (.ref aR) := by
  unfold fs3; rw [lookup_putF, if_pos rfl]
theorem fs3_s {cv : V} {aS aR : Addr} : (fs3 cv aS aR).lookup ("signs" : Str) = some (.ref aS) := by
  unfold fs3; rw [lookup_putF, if_neg (by decide +kernel), lookup_putF, if_pos rfl]
theorem fs3_len {cv : V} {aS aR : Addr} : (fs3 cv aS aR).length < 1000 := by
  have h1 := length_putF "columns" cv []
  have h2 := length_putF "signs" (V.ref aS) (putF "columns" cv [])
  have h3 := length_putF "rows" (V.ref aR) (putF "signs" (V.ref aS) (putF "columns" cv []))
  unfold fs3
  simp only [List.length_nil] at h1
  omega
theorem put_len (f : Str) (v : V) (fs : List (Str × V)) (h : fs.length < 900) : (putF f v fs).length < 1000 := by
  have := length_putF f v fs; omega
def spInit (K : PySem.W.Frag) (C : Addr) : Sp := fun vs H Q _ => ∃ (x dx : Addr) (cv wv : V) (n m : Nat) (col : Nat → Nat → Rat) (want : Nat → Rat), vs = [.ref x, cv, wv] ∧ H x = some (.ins C dx []) ∧ VTT K (rm H x) cv m n col ∧ VT K (rm H x) wv n want ∧ n ≤ 1000 ∧ m ≤ 1000 ∧
  (∀ j k, j < m → k < n → Fit (LP.sgn want k * col j k)) ∧ (∀ k, k < n → Fit (LP.sgn want k * want k)) ∧
  ∀ H', (∃ aR aB, Gw (rm H x) (R2 H' aR aB) ∧ TabAt K C H' x aR aB n m col want (LP.tab0 n m col want)) → Q .non H'
section
variable {P : Program} {w : World} {K : PySem.W.Frag} {mg : Str → Option Value} {base : Heap}
theorem scInit : FnScope ["self", "columns", "wanted", "one", "place", "row", "column", "other"] ["self", "columns", "wanted"] (defScope (sT 0)) := ⟨rfl, rfl, rfl, by decide +kernel, rfl, by decide +kernel, by decide +kernel⟩
theorem ok_init {C : Addr} {f : Addr} {fd : FuncData} (F : Fun K "__init__" "Table.__init__" (sT 0) f fd) (T : Txt K mg) (U : CTxt K mg C) (C1 : CLess P w K mg base) (C2' : C2 P w K mg base "times" (· * ·)) :
    FnOk P w K mg base CX0 3 f fd ["self", "columns", "wanted"] (spInit K C) := by
  refine F.ok scInit (fun vs H Q E h => ?_) (fun cdv A outer s H vs Q E hr h => ?_)
  · obtain ⟨x, dx, cv, wv, n, m, col, want, rfl, _⟩ := h
    rfl
  · obtain ⟨x, dx, cv, wv, n, m, col, want, rfl, hx, hcv, hwv, hn, hm, f1, f2, k⟩ := h
    obtain ⟨az, hz, zt⟩ := T.zero
    obtain ⟨ao, ho, ot⟩ := T.one
    refine ⟨_, pss_cons (ps_fld (pv 0) (pv 1) rfl)
      (pss_cons (ps_fld (pv 0) (pe_lc (own := [("one", 3)]) (g := gName 3) (tt := tYes) rfl scInit.nd (tupK K (pv 2)) (blkOk_by (N := ["self", "columns", "wanted", "one", "place", "row", "column", "other"]) (by kernel_rfl))
          (fun _ _ _ _ _ => pg_name (i := 3) scInit.nd rfl (Or.inl rfl)) (fun _ _ _ _ _ => pts_nil)
          (fun _ _ _ _ _ => pe_ifExp (pt_val (pe_call C1.ok (hr.mono (by decide)) rfl C1.hm C1.kp C1.b .nil pass0 (pa_cons (pv 3) (pa_cons (pe_glob (v := .ref az) rfl hz rfl) pa_nil)))) (pe_un un_neg pe_int) pe_int)) rfl)
      (pss_cons (ps_fld (pv 0) (pe_lst pa_nil) rfl)
      (pss_cons (ps_for PassesOwn.never rfl (enumTK K rfl T.enum (pa_cons (pv 2) pa_nil)) (pg_tup rfl (pgs_cons (pg_name (i := 4) scInit.nd rfl (Or.inr rfl)) (pgs_cons (pg_name (i := 3) scInit.nd rfl (Or.inl rfl)) pgs_nil)))
        (pss_cons (ps_setLc (i := 5) (own := [("column", 6)]) (g := gName 6) (tt := tYes) rfl scInit.nd rfl rfl (sw_true rfl rfl rfl rfl) (tupK K (pv 1)) (blkOk_by (N := ["self", "columns", "wanted", "one", "place", "row", "column", "other"]) (by kernel_rfl))
            (fun _ _ _ _ _ => pg_name (i := 6) scInit.nd rfl (Or.inl rfl)) (fun _ _ _ _ _ => pts_nil)
            (fun _ _ _ _ _ => pe_call C2'.ok hr rfl C2'.hm C2'.kp C2'.b .nil pass0 (pa_cons (pe_tup (pa_cons (pe_ix (ixL K) (fldK K (pv 0)) (pv 4) (fun _ _ => rfl)) (pa_cons pe_int pa_nil))) (pa_cons (pe_ix (ixT K) (pv 6) (pv 4) (fun _ _ => rfl)) pa_nil))))
        (pss_cons (ps_expr (pe_bm PySem.F.plainAttrs_list PySem.F.slot_list_extend PySem.F.type_list_extend mt_extend (pv 5) (pa_cons
            (pe_lc (own := [("other", 7)]) (g := gName 7) (tt := tYes) rfl scInit.nd (pi_range1 rfl T.range (pa_cons (pe_callB (lenK K) (by rfl) T.len PySem.boot_len (pa_cons (pv 2) pa_nil)) pa_nil)) (blkOk_by (N := ["self", "columns", "wanted", "one", "place", "row", "column", "other"]) (by kernel_rfl))
              (fun _ _ _ _ _ => pg_name (i := 7) scInit.nd rfl (Or.inl rfl)) (fun _ _ _ _ _ => pts_nil)
              (fun _ _ _ _ _ => pe_ifExp (pt_cmpR op_eq (pv 7) (pv 4) (nomark _)) (pe_glob (v := .ref ao) rfl ho rfl) (pe_glob (v := .ref az) rfl hz rfl))) pa_nil)))
        (pss_one (ps_expr (pe_bm PySem.F.plainAttrs_list PySem.F.slot_list_append PySem.F.type_list_append mt_append (fldK K (pv 0)) (pa_cons (pe_lst (starK K (pv 5) (pa_cons
            (pe_call C2'.ok hr rfl C2'.hm C2'.kp C2'.b .nil pass0 (pa_cons (pe_tup (pa_cons (pe_ix (ixL K) (fldK K (pv 0)) (pv 4) (fun _ _ => rfl)) (pa_cons pe_int pa_nil))) (pa_cons (pv 3) pa_nil))) pa_nil))) pa_nil)))))))
      (pss_one (ps_fld (pv 0) (pe_lc (own := [("place", 4)]) (g := gName 4) (tt := tYes) rfl scInit.nd (pi_range1 rfl T.range (pa_cons (pe_callB (lenK K) (by rfl) T.len PySem.boot_len (pa_cons (pv 2) pa_nil)) pa_nil)) (blkOk_by (N := ["self", "columns", "wanted", "one", "place", "row", "column", "other"]) (by kernel_rfl))
          (fun _ _ _ _ _ => pg_name (i := 4) scInit.nd rfl (Or.inl rfl)) (fun _ _ _ _ _ => pts_nil)
          (fun _ _ _ _ _ => pe_op op_add (pe_callB (lenK K) (by rfl) T.len PySem.boot_len (pa_cons (pv 1) pa_nil)) (pv 4))) rfl))))), ?_⟩
    obtain ⟨ac, vc, rfl, hsc, lc, ic⟩ := hcv
    obtain ⟨aw, vw, rfl, hsw, lw, iw⟩ := hwv
    have hn' : n ≤ 100000 := by omega
    -- self.columns = columns
    refine ⟨_, rfl, _, rfl, x, C, dx, [], rfl, hx, U.cl, U.nC, (show 0 < 1000 by decide), ?_⟩
    have l1 : (putF "columns" (V.ref ac) []).length < 900 := by have := length_putF "columns" (V.ref ac) []; simp at this; omega
    have b1 : Gw (rm H x) (upd H x (.ins C dx (putF "columns" (.ref ac) []))) := Gw.rm_up
    have o1 : upd H x (.ins C dx (putF "columns" (.ref ac) [])) x = some (.ins C dx (putF "columns" (.ref ac) [])) := upd_same
    have r1 : rm (upd H x (.ins C dx (putF "columns" (.ref ac) []))) x = rm H x := rm_upd
    generalize upd H x (.ins C dx (putF "columns" (.ref ac) [])) = H1 at b1 o1 r1 ⊢
    -- self.signs
    refine ⟨_, rfl, aw, rfl, ⟨vw, b1.sqT hsw⟩, fun aS haS => lc_grow (walk_tupY lw) haS hn' (fun j v _ => v = .int (sgz want j)) (fun _ _ _ _ _ h => h) (fun H' g => (b1.trans g).sqT hsw)
      (fun j y H2 H' hj _ g _ hY C4 hC4 => ?_) (fun H2 sgs g2 _ hsg lsg isg => ?_)⟩
    · obtain ⟨rfl, hy⟩ := hY
      obtain ⟨y', e, py⟩ := iw j hj
      rw [hy] at e; cases e
      refine ⟨rfl, _, rfl, _, _, want j, 0, rfl, py.gw (b1.trans g), ⟨⟨az, rfl, zt _⟩, fit_zero⟩, ?_⟩
      by_cases h : want j < 0
      · rw [decide_eq_true h]
        exact ⟨_, rfl, iteT ⟨1, rfl, hC4 _ _ (Gw.refl _) (by unfold sgz; rw [if_pos h])⟩⟩
      · rw [decide_eq_false h]
        exact ⟨_, rfl, iteF (hC4 _ _ (Gw.refl _) (by unfold sgz; rw [if_neg h]))⟩
    have o2 := g2.at o1
    have isg' : ∀ j, j < n → sgs[j]? = some (.int (sgz want j)) := fun j hj => let ⟨y, e, h⟩ := isg j hj; by rw [e, h]
    refine ⟨_, rfl, x, C, dx, _, rfl, o2, U.cl, U.nS, (Nat.lt_trans l1 (by decide)), ?_⟩
    have l2 : (putF "signs" (.ref aS) (putF "columns" (V.ref ac) [])).length < 900 := by have := length_putF "signs" (V.ref aS) (putF "columns" (V.ref ac) []); have := length_putF "columns" (V.ref ac) []; simp at this; omega
    have nSx : aS ≠ x := fun z => by rw [z, o2] at hsg; cases hsg
    have b2 : Gw (rm H x) (rm H2 x) := by rw [← r1]; exact g2.rm
    have o3 : upd H2 x (.ins C dx (putF "signs" (.ref aS) (putF "columns" (.ref ac) []))) x = some (.ins C dx (putF "signs" (.ref aS) (putF "columns" (.ref ac) []))) := upd_same
    have s3 : upd H2 x (.ins C dx (putF "signs" (.ref aS) (putF "columns" (.ref ac) []))) aS = some (.lst sgs) := by rw [upd_ne nSx]; exact hsg
    have b3 : Gw (rm H x) (rm (upd H2 x (.ins C dx (putF "signs" (.ref aS) (putF "columns" (.ref ac) [])))) x) := by rw [rm_upd]; exact b2
    generalize upd H2 x (.ins C dx (putF "signs" (.ref aS) (putF "columns" (.ref ac) []))) = H3 at o3 s3 b3 ⊢
    -- self.rows = []
    refine ⟨(show 0 ≤ sizeLine by decide), fun aR haR => ?_⟩
    have nRx : aR ≠ x := fun z => by rw [z, o3] at haR; cases haR
    have nRS : aR ≠ aS := fun z => by rw [z, s3] at haR; cases haR
    refine ⟨_, rfl, x, C, dx, _, rfl, (by rw [upd_ne nRx.symm]; exact o3), U.cl, U.nR, (Nat.lt_trans l2 (by decide)), ?_⟩
    have o5 : upd (upd H3 aR (.lst [])) x (.ins C dx (fs3 (.ref ac) aS aR)) x = some (.ins C dx (fs3 (.ref ac) aS aR)) := upd_same
    have a5 : upd (upd H3 aR (.lst [])) x (.ins C dx (fs3 (.ref ac) aS aR)) aR = some (.lst []) := by rw [upd_ne nRx]; exact upd_same
    have s5 : upd (upd H3 aR (.lst [])) x (.ins C dx (fs3 (.ref ac) aS aR)) aS = some (.lst sgs) := by rw [upd_ne nSx, upd_ne nRS.symm]; exact s3
    have b5 : Gw (rm H x) (rm (rm (upd (upd H3 aR (.lst [])) x (.ins C dx (fs3 (.ref ac) aS aR))) aR) x) := by
      refine b3.trans (Gw.of fun b u e => ?_)
      obtain ⟨h1, e⟩ := rm_some e
      have h2 : b ≠ aR := fun z => by rw [z, haR] at e; cases e
      rw [rm_ne h1, rm_ne h2, upd_ne h1, upd_ne h2]
      exact e
    show tSeq _ _ _ _ (upd (upd H3 aR (.lst [])) x (.ins C dx (fs3 (.ref ac) aS aR)))
    generalize upd (upd H3 aR (.lst [])) x (.ins C dx (fs3 (.ref ac) aS aR)) = H5 at o5 a5 s5 b5 ⊢
    have o5r : rm H5 aR x = some (.ins C dx (fs3 (.ref ac) aS aR)) := by rw [rm_ne nRx.symm]; exact o5
    have s5r : rm H5 aR aS = some (.lst sgs) := by rw [rm_ne nRS.symm]; exact s5
    have b5r : Gw (rm H x) (rm H5 aR) := b5.trans Gw.rm_le
    refine ⟨_, rfl, aw, vw, rfl, (b5r.trans Gw.rm_le).sqT hsw, ?_⟩
    refine for_grow (walk_enumT (K := K) (a := aw) lw) (L := aR) (H0 := rm H5 aR) hn' (fun σ => ∃ u3 u4 u5, σ = [some (.ref x), some (.ref ac), some (.ref aw), u3, u4, u5, none, none]) (fun j v H => VL K (rm H x) v (m + n + 1) (LP.mat n m col want j)) (fun _ _ _ _ g r => r.gw g.rm) (fun H3 g3 => (b5r.trans g3).sqT hsw)
      ⟨none, none, none, rfl⟩ a5 (Gw.refl _) ?_ ?_
    · rintro j y σ H6 H' hj ⟨u3, u4, u5, rfl⟩ gr g6 ⟨zs0, hz0⟩ ⟨q, v, rfl, hq, rfl, hv⟩ N hN
      obtain ⟨v', ev, pv'⟩ := iw j hj
      rw [hv] at ev; cases ev
      have gq : Gw H6 (upd H6 q (.tup [.int (j : Nat), v])) := Gw.new _ hq
      have o7 : Gw (rm H5 aR) (upd H6 q (.tup [.int (j : Nat), v])) := g6.trans gq
      refine ⟨q, _, rfl, SqT.of upd_same, rfl, _, _, rfl, _, _, rfl, rfl, ?_⟩
      generalize upd H6 q (.tup [.int (j : Nat), v]) = H7 at gq o7 ⊢
      -- row = [..]
      refine ⟨_, rfl, ac, rfl, ⟨vc, (b5r.trans o7).sqT hsc⟩, fun D hD => lc_grow (walk_tupY lc) hD (by omega) (fun i v H => PAt K H v (LP.sgn want j * col i j)) (fun _ _ _ _ g r => r.gw g) (fun H3 g3 => ((b5r.trans o7).trans g3).sqT hsc)
        (fun i y H8 H' hi _ g8 ⟨zs, hz⟩ hY C4 hC4 => ?_) (fun H8 zs g8 g8' hz8 lz8 iz8 => ?_)⟩
      · obtain ⟨rfl, hy⟩ := hY
        obtain ⟨y', ey, ⟨ai, vi, rfl, hsi, li, ii⟩⟩ := ic i hi
        rw [hy] at ey; cases ey
        obtain ⟨z, ez, pz⟩ := ii j hj
        have g9 := o7.trans g8
        refine ⟨rfl, _, rfl, x, C, dx, _, _, rfl, g9.at o5r, U.cl, U.nS, fs3_s, _, rfl, _, _, _, _, rfl, rfl, SqL.of (g9.at s5r), at_of rfl (isg' j hj), (show 2 ≤ sizeLine by decide), fun t ht => ?_⟩
        have gt : Gw H' (upd H' t (.tup [.int (sgz want j), .int 1])) := Gw.new _ ht
        have pt := sg_part (K := K) (H := upd H' t (.tup [.int (sgz want j), .int 1])) (q := t) want j upd_same
        refine ⟨_, rfl, _, rfl, _, _, _, _, rfl, rfl, (b5r.trans (g9.trans gt)).sqT hsi, at_of rfl ez, ?_⟩
        refine ⟨_, _, LP.sgn want j, col i j, rfl, pt, pz.gw (b5r.trans (g9.trans gt)), f1 i j hi hj, fun v5 H9 g9 r9 => hC4 v5 H9 (gt.trans g9) (r9.rm ((gt.trans g9).at hz))⟩
      -- row.extend([..])
      refine ⟨_, rfl, .inl ⟨rfl, zs, SqL.of hz8⟩, _, rfl, aw, vw, rfl, .inr ((b5r.trans (o7.trans g8)).sqT hsw), _, rfl, by omega, by omega, fun E1 hE1 =>
        lc_grow (walk_rangeN (N := n) (by omega)) hE1 hn' (fun i v H => PAt K H v (if i = j then 1 else 0)) (fun _ _ _ _ g r => r.gw g) (fun _ _ => True.intro) (fun i y H9 H' hi _ g9 ⟨ws, hw⟩ hY C4 hC4 => ?_) (fun H9 ws g9 g9' hw9 lw9 iw9 => ?_)⟩
      · obtain ⟨rfl, rfl⟩ := hY
        refine ⟨rfl, _, rfl, _, rfl, rfl, _, rfl, ?_⟩
        by_cases h : i = j
        · subst h
          rw [decide_eq_true rfl]
          refine iteT (hC4 _ _ (Gw.refl _) ?_)
          rw [if_pos rfl]
          exact ⟨⟨ao, rfl, ot _⟩, fit_one⟩
        · rw [decide_eq_false (show ¬ V.int ((i : Nat) : Int) = V.int ((j : Nat) : Int) from fun z => by have := V.int.inj z; omega)]
          refine iteF (hC4 _ _ (Gw.refl _) ?_)
          rw [if_neg h]
          exact ⟨⟨az, rfl, zt _⟩, fit_zero⟩
      refine ⟨D, E1, zs, ws, rfl, rfl, g9.at hz8, hw9, ?_, ?_⟩
      · rw [lz8, lw9]; exact Nat.le_trans (Nat.add_le_add hm hn) (by decide)
      have nDR : D ≠ aR := fun z => by rw [z, gq.at hz0] at hD; cases hD
      have gA : Gw H7 (upd H9 D (.lst (zs ++ ws))) := (g8.trans g9).upd _ hD
      have hA : upd H9 D (.lst (zs ++ ws)) D = some (.lst (zs ++ ws)) := upd_same
      have gA9 : Gw (rm H9 D) (upd H9 D (.lst (zs ++ ws))) := Gw.rm_up
      have gA8 : Gw (rm H8 D) (upd H9 D (.lst (zs ++ ws))) := g9.rm.trans gA9
      have it : ∀ i, i < m + n → ∃ y, (zs ++ ws)[i]? = some y ∧ PAt K (upd H9 D (.lst (zs ++ ws))) y (LP.mat n m col want j i) := fun i hi => by
        by_cases h : i < m
        · obtain ⟨y, e, r⟩ := iz8 i h
          refine ⟨y, by rw [List.getElem?_append_left (by omega)]; exact e, ?_⟩
          rw [LP.mat_col h]
          exact r.gw gA8
        · obtain ⟨y, e, r⟩ := iw9 (i - m) (by omega)
          refine ⟨y, by rw [List.getElem?_append_right (by omega), lz8]; exact e, ?_⟩
          have e2 : LP.mat n m col want j i = if i - m = j then 1 else 0 := by
            have := LP.mat_own (n := n) (m := m) (col := col) (want := want) (k := j) (i := i - m) (by omega)
            rw [show m + (i - m) = i by omega] at this
            rw [this]
            by_cases q : j = i - m
            · rw [if_pos q, if_pos q.symm]
            · rw [if_neg q, if_neg (Ne.symm q)]
          rw [e2]
          exact ((r.gw Gw.rm_le).rm (g9.at hz8)).gw gA9
      generalize upd H9 D (.lst (zs ++ ws)) = HA at gA hA it ⊢
      -- self.rows.append([..])
      have gB := o7.trans gA
      have hBR : HA aR = some (.lst zs0) := gA.at (gq.at hz0)
      refine ⟨_, rfl, x, C, dx, _, _, rfl, gB.at o5r, U.cl, U.nR, fs3_r, .inl ⟨rfl, zs0, SqL.of hBR⟩, ?_⟩
      refine ⟨_, rfl, D, _, rfl, .inr (SqL.of hA), ?_⟩
      refine ⟨_, rfl, x, C, dx, _, _, rfl, gB.at o5r, U.cl, U.nS, fs3_s, _, rfl, _, _, _, _, rfl, rfl, SqL.of (gB.at s5r), at_of rfl (isg' j hj), (show 2 ≤ sizeLine by decide), fun t ht => ?_⟩
      have gt : Gw HA (upd HA t (.tup [.int (sgz want j), .int 1])) := Gw.new _ ht
      have pt := sg_part (K := K) (H := upd HA t (.tup [.int (sgz want j), .int 1])) (q := t) want j upd_same
      refine ⟨_, rfl, _, _, LP.sgn want j, want j, rfl, pt, pv'.gw (b5r.trans (gB.trans gt)), f2 j hj, fun v5 HC gC rC => ?_⟩
      have gAC := gt.trans gC
      refine ⟨?_, fun E2 hE2 => ?_⟩
      · simp only [List.length_append, List.length_cons, List.length_nil, lz8, lw9]
        exact Nat.le_trans (Nat.add_le_add (Nat.add_le_add hm hn) (Nat.le_refl 1)) (by decide)
      have gE : Gw HC (upd HC E2 (.lst ((zs ++ ws) ++ [v5]))) := Gw.new _ hE2
      have nER : E2 ≠ aR := fun z => by rw [z, gAC.at hBR] at hE2; cases hE2
      have nEx : E2 ≠ x := fun z => by rw [z, (gB.trans gAC).at o5r] at hE2; cases hE2
      have vl : VL K (upd HC E2 (.lst ((zs ++ ws) ++ [v5]))) (.ref E2) (m + n + 1) (LP.mat n m col want j) := by
        refine ⟨E2, _, rfl, SqL.of upd_same, ?_, fun i hi => ?_⟩
        · simp only [List.length_append, List.length_cons, List.length_nil, lz8, lw9]
        · by_cases h : i < m + n
          · obtain ⟨y, e, r⟩ := it i h
            exact ⟨y, by rw [List.getElem?_append_left (by rw [List.length_append, lz8, lw9]; exact h)]; exact e, r.gw (gAC.trans gE)⟩
          · have : i = m + n := by omega
            subst this
            refine ⟨v5, by rw [List.getElem?_append_right (by rw [List.length_append, lz8, lw9]; exact Nat.le_refl _), List.length_append, lz8, lw9, Nat.sub_self]; rfl, ?_⟩
            rw [LP.mat_rhs]
            exact rC.gw gE
      have vl2 : VL K (rm (rm (upd HC E2 (.lst ((zs ++ ws) ++ [v5]))) aR) x) (.ref E2) (m + n + 1) (LP.mat n m col want j) :=
        (VL.rm vl nER ((gAC.trans gE).at hBR)).rmI (by rw [rm_ne nRx.symm]; exact (gB.trans (gAC.trans gE)).at o5r)
      obtain ⟨xs, h1, h2, h3⟩ := hN _ _ (.ref E2) ⟨_, _, _, rfl⟩ (gq.trans (gA.trans (gAC.trans gE))) vl2
      exact ⟨aR, xs, .ref E2, rfl, rfl, h1, h2, h3⟩
    · rintro σ H6 rws ⟨u3, u4, u5, rfl⟩ g6 gr hR lR iR
      have g6x := b5r.trans g6
      refine ⟨_, rfl, aw, vw, rfl, .inr (g6x.sqT hsw), _, rfl, by omega, by omega, fun aB haB => lc_grow (walk_rangeN (N := n) (by omega)) haB hn' (fun i v _ => v = .int ((m + i : Nat) : Int)) (fun _ _ _ _ _ h => h) (fun _ _ => True.intro) (fun i y H9 H' hi _ g9 _ hY C4 hC4 => ?_) (fun H9 bs g9 g9' hB lB iB => ?_)⟩
      · obtain ⟨rfl, rfl⟩ := hY
        refine ⟨rfl, _, rfl, ac, vc, rfl, .inr ((g6x.trans g9).sqT hsc), _, rfl, _, _, rfl, rfl, hC4 _ _ (Gw.refl _) ?_⟩
        rw [lc]; congr 1
      have nBx : aB ≠ x := fun z => by rw [z, g6.at o5r] at haB; cases haB
      have nBR : aR ≠ aB := fun z => by rw [← z, hR] at haB; cases haB
      have nBS : aS ≠ aB := fun z => by rw [← z, g6.at s5r] at haB; cases haB
      refine ⟨_, rfl, x, C, dx, _, rfl, (g6.trans g9).at o5r, U.cl, U.nB, ?_, ?_⟩
      · exact fs3_len
      have gf : Gw (rm (rm H6 aR) x) (R2 (upd H9 x (.ins C dx (flds (.ref ac) aS aR aB))) aR aB) := gw_fin g9 haB
      have ga : Gw (rm H x) (R2 (upd H9 x (.ins C dx (flds (.ref ac) aS aR aB))) aR aB) := b5.trans (gr.rm.trans gf)
      have ov : R2 (upd H9 x (.ins C dx (flds (.ref ac) aS aR aB))) aR aB x = some (.ins C dx (flds (.ref ac) aS aR aB)) := by
        show rm (rm _ aR) aB x = _
        rw [rm_ne nBx.symm, rm_ne nRx.symm]; exact upd_same
      refine k _ ⟨aR, aB, ga, ?_⟩
      refine ⟨⟨.ref ac, aS, dx, sgs, ov, ⟨ac, vc, rfl, ga.sqT hsc, lc, fun j hj => let ⟨y, e, v⟩ := ic j hj; ⟨y, e, v.gw ga⟩⟩, gf.sqL (SqL.of (by rw [rm_ne nSx]; exact gr.at s5r)), lsg, isg'⟩,
        ⟨rws, by rw [upd_ne nRx]; exact g9.at hR, lR, fun i hi => let ⟨y, e, r⟩ := iR i hi; ⟨y, e, r.gw gf⟩⟩, ⟨bs, by rw [upd_ne nBx]; exact hB, lB, fun i hi => let ⟨y, e, h⟩ := iB i hi; by rw [e, h]; rfl⟩, nBR⟩
end
end K44


set_option Elab.async false
set_option linter.all false
set_option maxRecDepth 100000
set_option maxHeartbeats 4000000
set_option exponentiation.threshold 3000
/-! climb. -/
namespace K44
open PySem L2
open LP (Fit lim S Tab)
/-- all that is reckoned on the way are parts -/
def FitAll (n m : Nat) (A : Nat → Nat → Rat) (c : Nat → Rat) : Prop := ∀ s, LP.Inv n m A s → LP.det n (LP.bas A s) ≠ 0 → FitR n m c s ∧ (∀ i e, i < n → e < m → 0 < s.T i e → Fit (s.T i (m + n) / s.T i e)) ∧ ∀ r e, r < n → e < m → s.T r e ≠ 0 → FitP n m s r e
structure Good (n m : Nat) (A : Nat → Nat → Rat) (s : Tab) : Prop where
  inv : LP.Inv n m A s
  feas : LP.Feas n m s
  det : LP.det n (LP.bas A s) ≠ 0
theorem Good.piv {n m : Nat} {A : Nat → Nat → Rat} {s : Tab} (g : Good n m A s) {e r : Nat} (he : e < m) (L : LP.Leave n m s e r) : Good n m A (LP.piv s r e) where
  inv := g.inv.piv L.lt (by omega) (by have := L.pos; grind)
  feas := L.feas g.feas
  det := by
    rw [g.inv.det_piv L.lt (by omega)]
    have := L.pos
    have := g.det
    grind
def spClimb (K : PySem.W.Frag) (C : Addr) : Sp := fun vs H Q _ => ∃ (p aR aB : Addr) (wv : V) (n m : Nat) (col : Nat → Nat → Rat) (want c : Nat → Rat) (s : Tab) (J : Tab → Prop), vs = [.ref p, wv, .int (m : Nat)] ∧ TabAt K C H p aR aB n m col want s ∧ VL K (R2 H aR aB) wv (m + n) c ∧ n ≤ 1000 ∧ m ≤ 1000 ∧
  Good n m (LP.mat n m col want) s ∧ FitAll n m (LP.mat n m col want) c ∧ J s ∧ (∀ s e r, Good n m (LP.mat n m col want) s → J s → LP.Enter n m c s e → LP.Leave n m s e r → J (LP.piv s r e)) ∧
  Ans2 H aR aB (fun v H' => ∃ s', TabAt K C H' p aR aB n m col want s' ∧ Good n m (LP.mat n m col want) s' ∧ J s' ∧
    ((v = .non ∧ ∀ e, e < m → LP.red n c s' e ≤ 0) ∨ ∃ e : Nat, v = .int (e : Nat) ∧ LP.Enter n m c s' e ∧ ∀ i, i < n → s'.T i e ≤ 0)) Q
section
variable {P : Program} {w : World} {K : PySem.W.Frag} {mg : Str → Option Value} {base : Heap}
theorem scClimb : FnScope ["self", "worths", "many", "place", "number"] ["self", "worths", "many"] (defScope (sT 5)) := ⟨rfl, rfl, rfl, by decide +kernel, rfl, by decide +kernel, by decide +kernel⟩
theorem ok_climb {C : Addr} {f : Addr} {fd : FuncData} (F : Fun K "climb" "Table.climb" (sT 5) f fd) (T : Txt K mg) (U : CTxt K mg C) (M1 : MCal P w K mg base C "reduced" 5 ["self", "worths"] (spReduced K C))
    (M2 : MCal P w K mg base C "entering" 2 ["self", "added", "many"] (spEntering K)) (M3 : MCal P w K mg base C "leaving" 3 ["self", "place"] (spLeaving K C)) (M4 : MCal P w K mg base C "turn" 3 ["self", "number", "place"] (spTurn K C)) :
    FnOk P w K mg base CX0 6 f fd ["self", "worths", "many"] (spClimb K C) := by
  refine F.ok scClimb (fun vs H Q E h => ?_) (fun cdv A outer s H vs Q E hr h => ?_)
  · obtain ⟨p, aR, aB, wv, n, m, col, want, c, s, J, rfl, _⟩ := h
    rfl
  · obtain ⟨p, aR, aB, wv, n, m, col, want, c, s, J, rfl, tab, hw, hn, hm, good, fit, hJ, pJ, k⟩ := h
    refine ⟨_, pss_one (ps_while PassesOwn.never (pt_val pe_bl)
      (pss_cons (ps_set (i := 3) scClimb.nd rfl (Or.inl rfl) (pe_meth (pv 0) U.cl M2.hm M2.ok (hr.mono (by decide)) M2.b .nil pass0 (pa_cons (pe_meth (pv 0) U.cl M1.hm M1.ok hr M1.b .nil pass0 (pa_cons (pv 1) pa_nil)) (pa_cons (pv 2) pa_nil))))
      (pss_cons (ps_if (pt_cmp (pc_isN (pv 3))) (pss_one (ps_ret pe_non)) pss_nil)
      (pss_cons (ps_set (i := 4) scClimb.nd rfl (Or.inl rfl) (pe_meth (pv 0) U.cl M3.hm M3.ok (hr.mono (by decide)) M3.b .nil pass0 (pa_cons (pv 3) pa_nil)))
      (pss_cons (ps_if (pt_cmp (pc_isN (pv 4))) (pss_one (ps_ret (pv 3))) pss_nil)
      (pss_one (ps_expr (pe_meth (pv 0) U.cl M4.hm M4.ok (hr.mono (by decide)) M4.b .nil pass0 (pa_cons (pv 4) (pa_cons (pv 3) pa_nil)))))))))), ?_⟩
    have no : ∀ (cv : V) (aS : Addr) (m : Str), ¬ m = "basis" → ¬ m = "rows" → ¬ m = "signs" → ¬ m = "columns" → (flds cv aS aR aB).lookup m = none := fun _ _ _ h1 h2 h3 h4 => flds_no h1 h2 h3 h4
    obtain ⟨rk, hrk⟩ := LP.rk_ex (c := c) good.inv good.feas
    refine ⟨fun k σ H' => Gw (R2 H aR aB) (R2 H' aR aB) ∧ ∃ s' u3 u4, σ = [some (.ref p), some wv, some (.int (m : Nat)), u3, u4] ∧ TabAt K C H' p aR aB n m col want s' ∧ Good n m (LP.mat n m col want) s' ∧ J s' ∧ LP.Rk n m c k s',
      ⟨rk, Gw.refl _, s, none, none, rfl, tab, good, hJ, hrk⟩, ?_⟩
    rintro rk σ H1 ⟨gg, s', u3, u4, rfl, tb, gd, hJ', hrk⟩
    obtain ⟨cv, aS, dx, sgs, hp', _⟩ := id tb.ob
    have hp : H1 p = some (.ins C dx (flds cv aS aR aB)) := Gw.r2_le.at hp'
    refine ⟨true, rfl, iteT ?_⟩
    obtain ⟨fR, fL, fP⟩ := fit s' gd.inv gd.det
    refine ⟨fun σ' H' => ∃ m', m' < rk ∧ Gw (R2 H aR aB) (R2 H' aR aB) ∧ ∃ s' u3 u4, σ' = [some (.ref p), some wv, some (.int (m : Nat)), u3, u4] ∧ TabAt K C H' p aR aB n m col want s' ∧ Good n m (LP.mat n m col want) s' ∧ J s' ∧ LP.Rk n m c m' s', fun σ' H' h => let ⟨m', h1, h2⟩ := h; ⟨m', h1, h2⟩, ?_⟩
    refine ⟨_, rfl, p, dx, _, rfl, hp, no _ _ _ (by decide +kernel) (by decide +kernel) (by decide +kernel) (by decide +kernel), ?_⟩
    refine ⟨_, rfl, p, dx, _, rfl, hp, no _ _ _ (by decide +kernel) (by decide +kernel) (by decide +kernel) (by decide +kernel), _, rfl, ?_⟩
    refine ⟨p, aR, aB, wv, n, m, col, want, c, s', rfl, tb, (hw.gw gg).gw Gw.r2_le, hn, hm, gd.inv.bl, fR, fun v2 H2 g2 r2 => ?_⟩
    refine ⟨_, rfl, ?_⟩
    have gg2 := gg.trans (g2.r2 aR aB)
    refine ⟨_, v2, m + n + 1, m, redv n m c s', rfl, r2, by omega, hm, fun e he hpos hfirst => ?_, fun hall => ?_⟩
    · have En : LP.Enter n m c s' e := ⟨he, by
        unfold redv at hpos; rwa [if_pos (by omega)] at hpos, fun j hj => by
        have := hfirst j hj
        unfold redv at this; rwa [if_pos (by omega)] at this⟩
      refine ⟨_, rfl, _, rfl, iteF ?_⟩
      refine ⟨_, rfl, p, dx, _, rfl, g2.at hp, no _ _ _ (by decide +kernel) (by decide +kernel) (by decide +kernel) (by decide +kernel), _, rfl, ?_⟩
      refine ⟨p, aR, aB, e, n, m, col, want, s', rfl, tb.gw g2, hn, hm, by omega, fun i hi hp => fL i e hi he hp, fun v3 H3 g3 r3 => ?_⟩
      have gg3 := gg2.trans (g3.r2 aR aB)
      rcases r3 with ⟨r, rfl, L⟩ | ⟨rfl, hno⟩
      · refine ⟨_, rfl, _, rfl, iteF ?_⟩
        refine ⟨_, rfl, p, dx, _, rfl, (g2.trans g3).at hp, no _ _ _ (by decide +kernel) (by decide +kernel) (by decide +kernel) (by decide +kernel), _, rfl, _, rfl, ?_⟩
        have hne : s'.T r e ≠ 0 := by have := L.pos; grind
        refine ⟨p, aR, aB, r, e, n, m, col, want, s', rfl, tb.gw (g2.trans g3), hn, hm, L.lt, by omega, hne, fP r e L.lt he hne, fun v4 H4 g4 ⟨_, t4⟩ => ?_⟩
        cases rk with
        | zero => exact (hrk e r En L).elim
        | succ rk => exact ⟨rk, Nat.lt_succ_self _, gg3.trans g4, _, _, _, rfl, t4, gd.piv he L, pJ s' e r gd hJ' En L, hrk e r En L⟩
      · refine ⟨_, rfl, _, rfl, iteT ?_⟩
        exact ⟨_, rfl, k _ _ gg3 ⟨s', tb.gw (g2.trans g3), gd, hJ', .inr ⟨e, rfl, En, hno⟩⟩⟩
    · refine ⟨_, rfl, _, rfl, iteT ?_⟩
      refine k _ _ gg2 ⟨s', tb.gw g2, gd, hJ', .inl ⟨rfl, fun e he => ?_⟩⟩
      have := hall e he
      unfold redv at this; rwa [if_pos (by omega)] at this
end
end K44


set_option Elab.async false
set_option linter.all false
set_option maxRecDepth 100000
set_option maxHeartbeats 4000000
set_option exponentiation.threshold 3000
/-! most. -/
namespace K44
open PySem L2
open LP (Fit lim S Tab Sm)
theorem fitAll {n m : Nat} {col : Nat → Nat → Rat} {want c : Nat → Rat} {E : Rat} (b : LP.Bnds n m col want) (cb : LP.CB (m + n) c E) : FitAll n m (LP.mat n m col want) c := fun s I h0 =>
  let d := b.den I h0
  ⟨⟨fun j hj => d.fit_used cb b.n9 I.bl hj, fun j hj => d.fit_red cb b.n9 I.bl hj⟩, fun i e hi he hp => d.fit_ratio hi (by omega) (by grind) hi (Nat.le_refl _),
    fun r e hr he hne => ⟨fun j hj => d.fit_ratio hr (by omega) hne hr hj, fun i j hi hj => d.fit_piv hr (by omega) hne hi hj⟩⟩
theorem fitS {n m : Nat} {col : Nat → Nat → Rat} {want c : Nat → Rat} {E : Rat} {s : Tab} (b : LP.Bnds n m col want) (cb : LP.CB (m + n) c E) (g : Good n m (LP.mat n m col want) s) : FitS n m want c s := fun k hk =>
  (b.den g.inv g.det).fit_side cb want b.n9 g.inv.bl hk
theorem rat_a {a : Rat} (h : a ≤ 0) : 0 ≤ 0 - a := by grind
theorem rat_b {a c : Rat} (h : a ≤ 0) : c ≤ c - a := by grind
theorem atZ {xs : List V} {v : V} (h : xs[0]? = some v) : atI xs 0 = some v := atI_nat (j := 0) h
/-- a row is left without a gain -/
theorem drive {n m : Nat} {col : Nat → Nat → Rat} {want : Nat → Rat} {s : Tab} {r e : Nat} (g : Good n m (LP.mat n m col want) s) (a : LP.Arts0 n m s) (hr : r < n) (he : e < m) (hb : m ≤ s.b r) (hne : s.T r e ≠ 0) :
    Good n m (LP.mat n m col want) (LP.piv s r e) ∧ LP.Arts0 n m (LP.piv s r e) := by
  have h0 := a r hr hb
  refine ⟨⟨g.inv.piv hr (by omega) hne, fun i hi => by rw [LP.drive_rhs h0]; exact g.feas i hi, by rw [g.inv.det_piv hr (by omega)]; have := g.det; grind⟩, fun i hi hm => ?_⟩
  rw [LP.drive_rhs h0]
  by_cases q : i = r
  · subst q; exact h0
  · rw [LP.piv_b_ne s e q] at hm
    exact a i hi hm
/-- what most gives -/
inductive MostR (K : PySem.W.Frag) (H : Hp) (v : V) (n m : Nat) (col : Nat → Nat → Rat) (want c : Nat → Rat) : Prop where
  | none {a : Addr} {yv : V} {y : Nat → Rat} (e : v = .ref a) (s : SqT K H a [.str "none", yv]) (hy : VT K H yv n y) (sy : Sm n y) (h1 : ∀ j, j < m → 0 ≤ S n fun k => col j k * y k) (h2 : (S n fun k => want k * y k) < 0)
  | endless {a : Addr} {xv dv : V} {x d : Nat → Rat} (e : v = .ref a) (s : SqT K H a [.str "endless", xv, dv]) (hx : VT K H xv m x) (hd : VT K H dv m d) (sx : Sm m x) (sd : Sm m d) (x0 : ∀ j, j < m → 0 ≤ x j) (xw : ∀ k, k < n → (S m fun j => x j * col j k) = want k)
      (d0 : ∀ j, j < m → 0 ≤ d j) (dw : ∀ k, k < n → (S m fun j => d j * col j k) = 0) (dc : 0 < S m fun j => c j * d j)
  | most {a : Addr} {qv xv yv : V} {q : Rat} {x y : Nat → Rat} (e : v = .ref a) (s : SqT K H a [.str "most", qv, xv, yv]) (hq : PAt K H qv q) (hx : VT K H xv m x) (hy : VT K H yv n y) (sx : Sm m x) (sy : Sm n y) (x0 : ∀ j, j < m → 0 ≤ x j) (xw : ∀ k, k < n → (S m fun j => x j * col j k) = want k)
      (yc : ∀ j, j < m → c j ≤ S n fun k => col j k * y k) (qx : (S m fun j => c j * x j) = q) (qy : (S n fun k => want k * y k) = q)
def spMost (K : PySem.W.Frag) : Sp := fun vs H Q _ => ∃ (cv wv uv : V) (n m : Nat) (col : Nat → Nat → Rat) (want c : Nat → Rat) (E : Rat), vs = [cv, wv, uv] ∧ VTT K H cv m n col ∧ VT K H wv n want ∧ VT K H uv m c ∧ m ≤ 1000 ∧ LP.Bnds n m col want ∧ LP.CB m c E ∧
  Ans H (fun v H' => MostR K H' v n m col want c) Q
abbrev sMost : Stmt := top 27
section
variable {P : Program} {w : World} {K : PySem.W.Frag} {mg : Str → Option Value} {base : Heap}
theorem scMost : FnScope ["columns", "wanted", "worths", "many", "high", "table", "first", "number", "place", "spots", "second"] ["columns", "wanted", "worths"] (defScope sMost) := ⟨rfl, rfl, rfl, by decide +kernel, rfl, by decide +kernel, by decide +kernel⟩
theorem ok_most {C fI : Addr} {fdI : FuncData} {f : Addr} {fd : FuncData} (F : Fun K "most" "most" sMost f fd) (T : Txt K mg) (U : CTxt K mg C) (MK : Mk K C fI) (G0 : FnOk P w K mg base CX0 3 fI fdI ["self", "columns", "wanted"] (spInit K C)) (b0 : Binds K fdI ["self", "columns", "wanted"] [])
    (C1 : CLess P w K mg base) (M1 : MCal P w K mg base C "reduced" 5 ["self", "worths"] (spReduced K C)) (M4 : MCal P w K mg base C "turn" 3 ["self", "number", "place"] (spTurn K C))
    (M5 : MCal P w K mg base C "climb" 6 ["self", "worths", "many"] (spClimb K C)) (M6 : MCal P w K mg base C "weights" 1 ["self", "many"] (spWeights K C)) (M7 : MCal P w K mg base C "sides" 6 ["self", "worths"] (spSides K C)) (M8 : MCal P w K mg base C "way" 3 ["self", "place", "many"] (spWay K C)) :
    FnOk P w K mg base CX0 7 f fd ["columns", "wanted", "worths"] (spMost K) := by
  refine F.ok scMost (fun vs H Q E h => ?_) (fun cdv A outer s H vs Q E hr h => ?_)
  · obtain ⟨cv, wv, uv, n, m, col, want, c, EE, rfl, _⟩ := h
    rfl
  · obtain ⟨cv, wv, uv, n, m, col, want, c, EE, rfl, hcv, hwv, huv, hm, bn, cb, k⟩ := h
    obtain ⟨az, hz, zt⟩ := T.zero
    refine ⟨_, pss_cons (ps_par (i := 3) (j := 4) rfl scMost.nd rfl rfl (by decide) rfl rfl (pa_cons (pe_callB (lenK K) (by rfl) T.len PySem.boot_len (pa_cons (pv 0) pa_nil)) (pa_cons (pe_callB (lenK K) (by rfl) T.len PySem.boot_len (pa_cons (pv 1) pa_nil)) pa_nil)) rfl)
      (pss_cons (ps_set (i := 5) scMost.nd rfl (Or.inr rfl) (pe_make MK G0 (hr.mono (by decide)) rfl U.mgC b0 .nil pass0 (pa_cons (pv 0) (pa_cons (pv 1) pa_nil))))
      (pss_cons (ps_set (i := 6) scMost.nd rfl (Or.inl rfl) (pe_lst (starK K (pe_op op_rep (pe_lst (pa_cons (pe_glob (v := .ref az) rfl hz rfl) pa_nil)) (pv 3)) (starK K (pe_op op_rep (pe_lst (pa_cons (pe_tup (pa_cons (pe_un un_neg pe_int) (pa_cons pe_int pa_nil))) pa_nil)) (pv 4)) pa_nil))))
      (pss_cons (ps_expr (pe_meth (pv 5) U.cl M5.hm M5.ok hr M5.b .nil pass0 (pa_cons (pv 6) (pa_cons (pv 3) pa_nil))))
      (pss_cons (ps_if (pt_val (pe_call C1.ok (hr.mono (by decide)) rfl C1.hm C1.kp C1.b .nil pass0 (pa_cons (pe_ix (ixL K) (pe_meth (pv 5) U.cl M1.hm M1.ok (hr.mono (by decide)) M1.b .nil pass0 (pa_cons (pv 6) pa_nil)) (pe_un un_neg pe_int) (fun _ _ => rfl)) (pa_cons (pe_glob (v := .ref az) rfl hz rfl) pa_nil))))
          (pss_one (ps_ret (pe_tup (pa_cons pe_str (pa_cons (pe_meth (pv 5) U.cl M7.hm M7.ok hr M7.b .nil pass0 (pa_cons (pv 6) pa_nil)) pa_nil))))) pss_nil)
      (pss_cons (ps_for PassesOwn.never rfl (pi_range1 rfl T.range (pa_cons (pv 4) pa_nil)) (pg_name (i := 7) scMost.nd rfl (Or.inr rfl))
        (pss_one (ps_if (pt_cmpR op_ge (pe_ix (ixL K) (fldK K (pv 5)) (pv 7) (fun _ _ => rfl)) (pv 3) (nomark _))
          (pss_cons (ps_setLc (i := 9) (own := [("place", 8)]) (g := gName 8) rfl scMost.nd rfl rfl (sw_true rfl rfl rfl rfl) (pi_range1 rfl T.range (pa_cons (pv 3) pa_nil)) (blkOk_by (N := ["columns", "wanted", "worths", "many", "high", "table", "first", "number", "place", "spots", "second"]) (by kernel_rfl))
              (fun _ _ _ _ _ => pg_name (i := 8) scMost.nd rfl (Or.inl rfl)) (fun _ _ _ _ _ => pts_one (pt_cmpR (neK K hr.units) (pe_ix (ixL K) (pe_ix (ixL K) (fldK K (pv 5)) (pv 7) (fun _ _ => rfl)) (pv 8) (fun _ _ => rfl)) (pe_glob (v := .ref az) rfl hz rfl) (nomark _))) (fun _ _ _ _ _ => pv 8))
          (pss_one (ps_if (pt_cmpR op_gt (pe_callB (lenK K) (by rfl) T.len PySem.boot_len (pa_cons (pv 9) pa_nil)) pe_int (nomark _))
            (pss_one (ps_expr (pe_meth (pv 5) U.cl M4.hm M4.ok (hr.mono (by decide)) M4.b .nil pass0 (pa_cons (pv 7) (pa_cons (pe_ix (ixL K) (pv 9) pe_int (fun _ _ => rfl)) pa_nil))))) pss_nil))) pss_nil)))
      (pss_cons (ps_set (i := 10) scMost.nd rfl (Or.inl rfl) (pe_lst (starK K (pv 2) (starK K (pe_op op_rep (pe_lst (pa_cons (pe_glob (v := .ref az) rfl hz rfl) pa_nil)) (pv 4)) pa_nil))))
      (pss_cons (ps_set (i := 8) scMost.nd rfl (Or.inl rfl) (pe_meth (pv 5) U.cl M5.hm M5.ok hr M5.b .nil pass0 (pa_cons (pv 10) (pa_cons (pv 3) pa_nil))))
      (pss_cons (ps_if (pt_cmp (pc_notN (pv 8))) (pss_one (ps_ret (pe_tup (pa_cons pe_str (pa_cons (pe_meth (pv 5) U.cl M6.hm M6.ok (hr.mono (by decide)) M6.b .nil pass0 (pa_cons (pv 3) pa_nil)) (pa_cons (pe_meth (pv 5) U.cl M8.hm M8.ok (hr.mono (by decide)) M8.b .nil pass0 (pa_cons (pv 8) (pa_cons (pv 3) pa_nil))) pa_nil)))))) pss_nil)
      (pss_one (ps_ret (pe_tup (pa_cons pe_str (pa_cons (pe_ix (ixL K) (pe_meth (pv 5) U.cl M1.hm M1.ok (hr.mono (by decide)) M1.b .nil pass0 (pa_cons (pv 10) pa_nil)) (pe_un un_neg pe_int) (fun _ _ => rfl))
        (pa_cons (pe_meth (pv 5) U.cl M6.hm M6.ok (hr.mono (by decide)) M6.b .nil pass0 (pa_cons (pv 3) pa_nil)) (pa_cons (pe_meth (pv 5) U.cl M7.hm M7.ok hr M7.b .nil pass0 (pa_cons (pv 10) pa_nil)) pa_nil))))))))))))))), ?_⟩
    obtain ⟨ac, vc, rfl, hsc, lc, ic⟩ := id hcv
    obtain ⟨aw, vw, rfl, hsw, lw, iw⟩ := id hwv
    obtain ⟨au, vu, rfl, hsu, lu, iu⟩ := id huv
    have hn : n ≤ 1000 := Nat.le_trans bn.n9 (by decide)
    have n9 := bn.n9
    refine ⟨_, rfl, ac, vc, rfl, .inr hsc, _, rfl, aw, vw, rfl, .inr hsw, _, _, rfl, ?_⟩
    rw [lc, lw]
    -- table = Table(columns, wanted)
    refine ⟨_, rfl, _, rfl, fun x dx hx hdx hne => ?_⟩
    have gx : Gw H (rm (upd (upd H dx (.own x)) x (.ins C dx [])) x) := by
      rw [rm_upd]
      have h0 : upd H dx (.own x) x = none := by rw [upd_ne hne.symm]; exact hx
      rw [rm_none h0]
      exact Gw.new _ hdx
    refine ⟨x, dx, _, _, n, m, col, want, rfl, upd_same, hcv.gw gx, hwv.gw gx, hn, hm, bn.fit0.1, bn.fit0.2, fun H1 ⟨aR, aB, g1, tab⟩ => ⟨rfl, ?_⟩⟩
    have gH1 : Gw H (R2 H1 aR aB) := gx.trans g1
    clear g1 gx
    have no : ∀ (cv : V) (aS : Addr) (m : Str), ¬ m = "basis" → ¬ m = "rows" → ¬ m = "signs" → ¬ m = "columns" → (flds cv aS aR aB).lookup m = none := fun _ _ _ h1 h2 h3 h4 => flds_no h1 h2 h3 h4
    -- first
    refine ⟨(show 1 ≤ sizeLine by decide), fun L0 h0 => ⟨_, rfl, L0, m, _, rfl, rfl, upd_same, by omega, by omega, ?_, fun L1 h1 => ?_⟩⟩
    · show 1 * ((m : Int)).toNat ≤ sizeLine
      exact Nat.le_trans (show 1 * ((m : Int)).toNat ≤ 1000 by omega) (by decide)
    rw [flat_one]
    have q1 : Gw H1 (upd (upd H1 L0 (.lst [.ref az])) L1 (.lst (List.replicate ((m : Int)).toNat (.ref az)))) := (Gw.new _ h0).trans (Gw.new _ h1)
    have x1 : upd (upd H1 L0 (.lst [.ref az])) L1 (.lst (List.replicate ((m : Int)).toNat (.ref az))) L1 = some (.lst (List.replicate ((m : Int)).toNat (.ref az))) := upd_same
    generalize upd (upd H1 L0 (.lst [.ref az])) L1 (.lst (List.replicate ((m : Int)).toNat (.ref az))) = Ha at q1 x1 ⊢
    refine ⟨L1, _, rfl, .inr (SqL.of x1), 1, rfl, (show 2 ≤ sizeLine by decide), fun t ht => ⟨(show 1 ≤ sizeLine by decide), fun L2 h2 => ⟨_, rfl, L2, n, _, rfl, rfl, upd_same, by omega, by omega, ?_, fun L3 h3 => ?_⟩⟩⟩
    · show 1 * ((n : Int)).toNat ≤ sizeLine
      exact Nat.le_trans (show 1 * ((n : Int)).toNat ≤ 1000 by omega) (by decide)
    rw [flat_one]
    have q2 : Gw (upd Ha t (.tup [.int (-1), .int 1])) (upd (upd (upd Ha t (.tup [.int (-1), .int 1])) L2 (.lst [.ref t])) L3 (.lst (List.replicate ((n : Int)).toNat (.ref t)))) := (Gw.new _ h2).trans (Gw.new _ h3)
    have q3 : Gw Ha (upd Ha t (.tup [.int (-1), .int 1])) := Gw.new _ ht
    have x2 : upd (upd (upd Ha t (.tup [.int (-1), .int 1])) L2 (.lst [.ref t])) L3 (.lst (List.replicate ((n : Int)).toNat (.ref t))) L3 = some (.lst (List.replicate ((n : Int)).toNat (.ref t))) := upd_same
    have x3 := q2.at (upd_same (a := t) (H := Ha) (o := .tup [.int (-1), .int 1]))
    have q4 := q1.trans (q3.trans q2)
    generalize upd (upd (upd Ha t (.tup [.int (-1), .int 1])) L2 (.lst [.ref t])) L3 (.lst (List.replicate ((n : Int)).toNat (.ref t))) = Hb at q4 x2 x3 ⊢
    refine ⟨L3, _, rfl, .inr (SqL.of x2), ?_, fun L4 h4 => ?_⟩
    · rw [List.append_nil, List.length_append, List.length_replicate, List.length_replicate]
      exact Nat.le_trans (show ((m : Int)).toNat + ((n : Int)).toNat ≤ 1000 + 1000 by omega) (by decide)
    have vl : VL K (upd Hb L4 (.lst (List.replicate ((m : Int)).toNat (.ref az) ++ (List.replicate ((n : Int)).toNat (.ref t) ++ [])))) (.ref L4) (m + n) (LP.w1 m) := by
      refine ⟨L4, _, rfl, SqL.of upd_same, ?_, fun i hi => ?_⟩
      · rw [List.append_nil, List.length_append, List.length_replicate, List.length_replicate]; omega
      · rw [List.append_nil]
        unfold LP.w1
        by_cases h : i < m
        · exact ⟨.ref az, by rw [List.getElem?_append_left (by rw [List.length_replicate]; omega), List.getElem?_replicate, if_pos (by omega)], by rw [if_pos h]; exact ⟨⟨az, rfl, zt _⟩, fit_zero⟩⟩
        · refine ⟨.ref t, by rw [List.getElem?_append_right (by rw [List.length_replicate]; omega), List.getElem?_replicate, List.length_replicate, if_pos (by omega)], ?_⟩
          rw [if_neg h]
          exact ⟨⟨t, rfl, SqT.of ((Gw.new _ h4).at x3)⟩, fit_neg_one⟩
    have q5 : Gw H1 (upd Hb L4 (.lst (List.replicate ((m : Int)).toNat (.ref az) ++ (List.replicate ((n : Int)).toNat (.ref t) ++ [])))) := q4.trans (Gw.new _ h4)
    obtain ⟨rws0, hR0, _⟩ := id tab.rows
    obtain ⟨bs0, hB0, _⟩ := id tab.bas
    have n4R : L4 ≠ aR := fun z => by rw [z, q4.at hR0] at h4; cases h4
    have n4B : L4 ≠ aB := fun z => by rw [z, q4.at hB0] at h4; cases h4
    have vlR := VL.r2 vl n4R n4B (q5.at hR0) (q5.at hB0) tab.ne
    have tab2 := tab.gw q5
    have gH2 := gH1.trans (q5.r2 aR aB)
    generalize upd Hb L4 (.lst (List.replicate ((m : Int)).toNat (.ref az) ++ (List.replicate ((n : Int)).toNat (.ref t) ++ []))) = H2 at vlR tab2 gH2 ⊢
    -- table.climb(first, many)
    obtain ⟨cv2, aS2, dx2, _, hp2, _⟩ := id tab2.ob
    have good0 : Good n m (LP.mat n m col want) (LP.tab0 n m col want) := ⟨LP.inv0, LP.feas0, by rw [LP.det0]; decide⟩
    have fit1 := fitAll (want := want) bn (LP.cb_w1 n m)
    refine ⟨_, rfl, x, dx2, _, rfl, Gw.r2_le.at hp2, no _ _ _ (by decide +kernel) (by decide +kernel) (by decide +kernel) (by decide +kernel), _, rfl, _, rfl, ?_⟩
    refine ⟨x, aR, aB, _, n, m, col, want, LP.w1 m, _, fun _ => True, rfl, tab2, vlR, hn, hm, good0, fit1, trivial, fun _ _ _ _ _ _ _ => trivial, fun v3 H3 g3 ⟨s1, tab3, good1, _, hend⟩ => ?_⟩
    have hred : ∀ e, e < m → LP.red n (LP.w1 m) s1 e ≤ 0 := by
      rcases hend with ⟨_, h⟩ | ⟨e, _, En, hno⟩
      · exact h
      · obtain ⟨i, hi, hp⟩ := LP.climb1_leave En
        exact absurd (hno i hi) (Rat.not_le.mpr hp)
    have gH3 := gH2.trans g3
    have vl3 := vlR.gw g3
    clear hend g3 vlR tab2 gH2 hp2 q5 vl tab
    -- if is_less(table.reduced(first)[-1], ZERO)
    obtain ⟨cv3, aS3, dx3, _, hp3, _⟩ := id tab3.ob
    refine ⟨_, rfl, x, dx3, _, rfl, Gw.r2_le.at hp3, no _ _ _ (by decide +kernel) (by decide +kernel) (by decide +kernel) (by decide +kernel), _, rfl, ?_⟩
    refine ⟨x, aR, aB, _, n, m, col, want, LP.w1 m, s1, rfl, tab3, vl3.gw Gw.r2_le, hn, hm, good1.inv.bl, (fit1 s1 good1.inv good1.det).1, fun v4 H4 g4 r4 => ?_⟩
    obtain ⟨a4, v4s, rfl, hs4, l4, i4⟩ := r4
    obtain ⟨y4, e4, p4⟩ := i4 (m + n) (by omega)
    have p4 : PAt K H4 y4 (LP.used n (LP.w1 m) s1 (m + n)) := by
      unfold redv at p4; rwa [if_neg (Nat.lt_irrefl _)] at p4
    refine ⟨1, rfl, _, _, _, _, rfl, rfl, hs4, at_last l4 e4, _, _, _, 0, rfl, p4, ⟨⟨az, rfl, zt _⟩, fit_zero⟩, ?_⟩
    have gH4 := gH3.trans (g4.r2 aR aB)
    have tab4 := tab3.gw g4
    have vl4 := vl3.gw (g4.r2 aR aB)
    clear gH3 tab3 vl3 hp3 hs4 i4 p4 e4 l4 g4
    obtain ⟨cv4, aS4, dx4, _, hp4, _⟩ := id tab4.ob
    by_cases hneg : LP.used n (LP.w1 m) s1 (m + n) < 0
    · rw [decide_eq_true hneg]
      refine ⟨_, rfl, iteT ?_⟩
      refine ⟨_, rfl, x, dx4, _, rfl, Gw.r2_le.at hp4, no _ _ _ (by decide +kernel) (by decide +kernel) (by decide +kernel) (by decide +kernel), _, rfl, ?_⟩
      refine ⟨x, aR, aB, _, n, m, col, want, LP.w1 m, s1, rfl, tab4, vl4.gw Gw.r2_le, hn, hm, good1.inv.bl, (fit1 s1 good1.inv good1.det).1, fitS bn (LP.cb_w1 n m) good1, fun v5 H5 g5 r5 => ?_⟩
      refine ⟨(show 2 ≤ sizeLine by decide), fun r hr => ?_⟩
      have gn : Gw H5 (upd H5 r (.tup [.str "none", v5])) := Gw.new _ hr
      refine k _ _ ((gH4.trans Gw.r2_le).trans (g5.trans gn)) (.none rfl (SqT.of upd_same) (r5.gw gn) ((bn.den good1.inv good1.det).sm_side (LP.cb_w1 n m) want bn.n9 good1.inv.bl) (fun j hj => ?_) ?_)
      · rw [LP.side_col good1.inv hj]
        rw [show LP.w1 m j = 0 from if_pos hj]
        exact rat_a (hred j hj)
      · rw [LP.side_want good1.inv]; exact hneg
    rw [decide_eq_false hneg]
    refine ⟨_, rfl, iteF ?_⟩
    have arts1 := LP.arts0_of good1.feas hneg
    -- for number in range(high)
    refine ⟨_, rfl, (n : Int), rfl, by omega, by omega, ?_⟩
    refine for_it (walk_rangeN (N := n) (by omega)) (fun i σ H' => Gw (R2 H4 aR aB) (R2 H' aR aB) ∧ (∃ s, TabAt K C H' x aR aB n m col want s ∧ Good n m (LP.mat n m col want) s ∧ LP.Arts0 n m s ∧ ∀ k, k < i → LP.Empty n m s k) ∧
        ∃ u7 u8 u9, σ = [some (.ref ac), some (.ref aw), some (.ref au), some (.int (m : Nat)), some (.int (n : Nat)), some (.ref x), some (.ref L4), u7, u8, u9, none])
      ⟨Gw.refl _, ⟨s1, tab4, good1, arts1, fun k hk => absurd hk (Nat.not_lt_zero _)⟩, none, none, none, rfl⟩ (fun _ _ _ _ _ => True.intro) ?_ ?_
    · rintro i y σ H5 H' hi ⟨gg, ⟨s, tb, gd, ar, em⟩, u7, u8, u9, rfl⟩ ⟨rfl, rfl⟩
      obtain ⟨cv5, aS5, dx5, _, hp5, _⟩ := id tb.ob
      obtain ⟨rws, hR, lR, iR⟩ := id tb.rows
      obtain ⟨bs, hB, lB, iB⟩ := id tb.bas
      have hp := Gw.r2_le.at hp5
      refine ⟨_, rfl, x, C, dx5, _, _, rfl, hp, U.cl, U.nB, flds_b, _, rfl, _, _, _, _, rfl, rfl, SqL.of hB, at_of rfl (iB i hi), _, rfl, _, _, rfl, rfl, _, rfl, ?_⟩
      by_cases hb : m ≤ s.b i
      · rw [decide_eq_true (show ((m : Nat) : Int) ≤ ((s.b i : Nat) : Int) by omega)]
        refine iteT ?_
        obtain ⟨xr, exr, ⟨ai, vi, rfl, hsi, li, ii⟩⟩ := iR i hi
        have hsi := Gw.r2_le.sqL hsi
        refine ⟨_, rfl, (m : Int), rfl, by omega, by omega, fun D hD => lc_it (walk_rangeN (N := m) (by omega)) (fun j H6 => ∃ xs, H6 D = some (.lst xs) ∧ xs.length ≤ j ∧ Gw H' (rm H6 D) ∧ ((xs = [] ∧ ∀ k, k < j → s.T i k = 0) ∨ ∃ (e : Nat) (rest : List V), xs = .int (e : Nat) :: rest ∧ e < j ∧ s.T i e ≠ 0))
          ⟨[], upd_same, Nat.le_refl _, by rw [rm_upd, rm_none hD]; exact Gw.refl _, .inl ⟨rfl, fun k hk => absurd hk (Nat.not_lt_zero _)⟩⟩ (fun _ _ _ _ => True.intro) ?_ ?_⟩
        · rintro j y H6 H7 hj ⟨xs, hx6, lx6, g6, alt⟩ ⟨rfl, rfl⟩
          have g7 : Gw H' H7 := g6.trans Gw.rm_le
          obtain ⟨z, ez, pz⟩ := ii j (by omega)
          refine ⟨rfl, _, rfl, x, C, dx5, _, _, rfl, g7.at hp, U.cl, U.nR, flds_r, _, rfl, _, _, _, _, rfl, rfl, SqL.of (g7.at hR), at_of rfl exr, _, rfl, _, _, _, _, rfl, rfl, g7.sqL hsi, at_of rfl ez, _, _, ((pz.gw Gw.r2_le).gw g7).dp, (show PAt K H7 (.ref az) 0 from ⟨⟨az, rfl, zt _⟩, fit_zero⟩).dp, part_shaped _, part_shaped _, _, rfl, ?_⟩
          rw [part_eqv]
          by_cases h : s.T i j = 0
          · rw [decide_eq_true h]
            refine iteF ⟨xs, hx6, by omega, g6, ?_⟩
            rcases alt with ⟨e1, e2⟩ | ⟨e, rest, e1, e2, e3⟩
            · refine .inl ⟨e1, fun k hk => ?_⟩
              by_cases q : k < j
              · exact e2 k q
              · have : k = j := by omega
                subst this; exact h
            · exact .inr ⟨e, rest, e1, by omega, e3⟩
          · rw [decide_eq_false h]
            refine iteT ⟨_, rfl, xs, hx6, Nat.lt_of_le_of_lt (Nat.le_trans lx6 (show j ≤ 1000 by omega)) (by decide), _, upd_same, by rw [List.length_append]; exact Nat.add_le_add lx6 (Nat.le_refl 1), by rw [rm_upd]; exact g6, ?_⟩
            rcases alt with ⟨e1, e2⟩ | ⟨e, rest, e1, e2, e3⟩
            · exact .inr ⟨j, [], by rw [e1]; rfl, by omega, h⟩
            · exact .inr ⟨e, rest ++ [.int (j : Nat)], by rw [e1]; rfl, by omega, e3⟩
        · rintro H6 ⟨xs, hx6, lx6, g6, alt⟩
          have g7 : Gw H' H6 := g6.trans Gw.rm_le
          refine ⟨_, rfl, D, xs, rfl, .inl (SqL.of hx6), _, _, rfl, rfl, _, rfl, ?_⟩
          rcases alt with ⟨rfl, e2⟩ | ⟨e, rest, rfl, e2, e3⟩
          · refine iteF ⟨gg.trans (g7.r2 aR aB), ⟨s, tb.gw g7, gd, ar, fun k hk => ?_⟩, _, _, _, rfl⟩
            by_cases q : k < i
            · exact em k q
            · have : k = i := by omega
              subst this
              exact fun _ j hj => e2 j hj
          · rw [decide_eq_true (show (0 : Int) < (((V.int (e : Nat) :: rest).length : Nat) : Int) by simp only [List.length_cons]; omega)]
            refine iteT ?_
            refine ⟨_, rfl, x, dx5, _, rfl, g7.at hp, no _ _ _ (by decide +kernel) (by decide +kernel) (by decide +kernel) (by decide +kernel), _, rfl, _, rfl, _, _, _, _, rfl, rfl, SqL.of hx6, atZ rfl, ?_⟩
            refine ⟨x, aR, aB, i, e, n, m, col, want, s, rfl, tb.gw g7, hn, hm, hi, by omega, e3, (fit1 s gd.inv gd.det).2.2 i e hi e2 e3, fun v H8 g8 ⟨_, tb8⟩ => ?_⟩
            obtain ⟨gd8, ar8⟩ := drive gd ar hi e2 hb e3
            refine ⟨gg.trans ((g7.r2 aR aB).trans g8), ⟨_, tb8, gd8, ar8, fun k hk => ?_⟩, _, _, _, rfl⟩
            by_cases q : k = i
            · subst q; exact LP.drive_empty_r e2
            · exact LP.drive_empty e2 q (em k (by omega))
      · rw [decide_eq_false (show ¬ ((m : Nat) : Int) ≤ ((s.b i : Nat) : Int) by omega)]
        refine iteF ⟨gg, ⟨s, tb, gd, ar, fun k hk => ?_⟩, _, _, _, rfl⟩
        by_cases q : k < i
        · exact em k q
        · have : k = i := by omega
          subst this
          exact fun z => absurd z hb
    · rintro σ H5 ⟨gg, ⟨s, tb, gd, ar, em⟩, u7, u8, u9, rfl⟩
      have gH5 := gH4.trans gg
      clear gg vl4 gH4 tab4 hp4
      obtain ⟨cv5, aS5, dx5, _, hp5, _⟩ := id tb.ob
      -- second
      refine ⟨_, rfl, au, vu, rfl, .inl ((gH5.trans Gw.r2_le).sqT hsu), (show 1 ≤ sizeLine by decide), fun L5 h5 => ⟨_, rfl, L5, n, _, rfl, rfl, upd_same, by omega, by omega, ?_, fun L6 h6 => ?_⟩⟩
      · show 1 * ((n : Int)).toNat ≤ sizeLine
        exact Nat.le_trans (show 1 * ((n : Int)).toNat ≤ 1000 by omega) (by decide)
      rw [flat_one]
      have q1 : Gw H5 (upd (upd H5 L5 (.lst [.ref az])) L6 (.lst (List.replicate ((n : Int)).toNat (.ref az)))) := (Gw.new _ h5).trans (Gw.new _ h6)
      have x1 : upd (upd H5 L5 (.lst [.ref az])) L6 (.lst (List.replicate ((n : Int)).toNat (.ref az))) L6 = some (.lst (List.replicate ((n : Int)).toNat (.ref az))) := upd_same
      generalize upd (upd H5 L5 (.lst [.ref az])) L6 (.lst (List.replicate ((n : Int)).toNat (.ref az))) = H6 at q1 x1 ⊢
      refine ⟨L6, _, rfl, .inr (SqL.of x1), ?_, fun L7 h7 => ?_⟩
      · rw [List.append_nil, List.length_append, List.length_replicate, lu]
        exact Nat.le_trans (show m + ((n : Int)).toNat ≤ 1000 + 1000 by omega) (by decide)
      have gn : Gw H6 (upd H6 L7 (.lst (vu ++ (List.replicate ((n : Int)).toNat (.ref az) ++ [])))) := Gw.new _ h7
      have vl : VL K (upd H6 L7 (.lst (vu ++ (List.replicate ((n : Int)).toNat (.ref az) ++ [])))) (.ref L7) (m + n) (LP.w2 m c) := by
        refine ⟨L7, _, rfl, SqL.of upd_same, ?_, fun i hi => ?_⟩
        · rw [List.append_nil, List.length_append, List.length_replicate, lu]; omega
        · unfold LP.w2
          by_cases h : i < m
          · obtain ⟨y, e, py⟩ := iu i h
            exact ⟨y, by rw [List.getElem?_append_left (by rw [lu]; omega)]; exact e, by rw [if_pos h]; exact ((py.gw gH5).gw Gw.r2_le).gw (q1.trans gn)⟩
          · refine ⟨.ref az, by rw [List.append_nil, List.getElem?_append_right (by rw [lu]; omega), List.getElem?_replicate, lu, if_pos (by omega)], ?_⟩
            rw [if_neg h]
            exact ⟨⟨az, rfl, zt _⟩, fit_zero⟩
      have q5 := q1.trans gn
      obtain ⟨rws0, hR0, _⟩ := id tb.rows
      obtain ⟨bs0, hB0, _⟩ := id tb.bas
      have n4R : L7 ≠ aR := fun z => by rw [z, q1.at hR0] at h7; cases h7
      have n4B : L7 ≠ aB := fun z => by rw [z, q1.at hB0] at h7; cases h7
      have vlR := VL.r2 vl n4R n4B (q5.at hR0) (q5.at hB0) tb.ne
      have tb2 := tb.gw q5
      have gH7 := gH5.trans (q5.r2 aR aB)
      have hp7 := q5.at (Gw.r2_le.at hp5)
      generalize upd H6 L7 (.lst (vu ++ (List.replicate ((n : Int)).toNat (.ref az) ++ []))) = H7 at vlR tb2 gH7 hp7 ⊢
      have cb2 : LP.CB (m + n) (LP.w2 m c) EE := LP.cb_w2 cb
      have fit2 := fitAll (want := want) bn cb2
      -- place = table.climb(second, many)
      refine ⟨_, rfl, x, dx5, _, rfl, hp7, no _ _ _ (by decide +kernel) (by decide +kernel) (by decide +kernel) (by decide +kernel), _, rfl, _, rfl, ?_⟩
      refine ⟨x, aR, aB, _, n, m, col, want, LP.w2 m c, s, fun s => LP.Arts0 n m s ∧ ∀ i, i < n → LP.Empty n m s i, rfl, tb2, vlR, hn, hm, gd, fit2, ⟨ar, em⟩,
        fun s e r g ⟨a1, a2⟩ En L => ⟨LP.leave_arts En.lt a2 a1, LP.leave_empty En.lt a2 L.lt (by have := L.pos; grind)⟩, fun v8 H8 g8 ⟨s8, tab8, good8, ⟨ar8, em8⟩, hend⟩ => ?_⟩
      have gH8 := gH7.trans g8
      have vl8 := vlR.gw g8
      clear g8 vlR tb2 gH7 hp7 q5 vl tb gd ar em fit1 hred
      obtain ⟨cv8, aS8, dx8, _, hp8', _⟩ := id tab8.ob
      have hp8 := Gw.r2_le.at hp8'
      have inj : ∀ i k, i < n → k < n → s8.b i = s8.b k → i = k := fun i k hi hk e => good8.inv.inj hi hk e
      have dn := bn.den good8.inv good8.det
      have ew : ∀ (f : Nat → Rat), (S m fun j => LP.w2 m c j * f j) = S m fun j => c j * f j := fun f => LP.S_congr fun j hj => by
        show LP.w2 m c j * f j = c j * f j
        rw [show LP.w2 m c j = c j from if_pos hj]
      rcases hend with ⟨rfl, hred⟩ | ⟨e, rfl, En, hno⟩
      · refine ⟨_, rfl, _, rfl, iteF ?_⟩
        refine ⟨_, rfl, x, dx8, _, rfl, hp8, no _ _ _ (by decide +kernel) (by decide +kernel) (by decide +kernel) (by decide +kernel), _, rfl, ?_⟩
        refine ⟨x, aR, aB, _, n, m, col, want, LP.w2 m c, s8, rfl, tab8, vl8.gw Gw.r2_le, hn, hm, good8.inv.bl, (fit2 s8 good8.inv good8.det).1, fun v9 H9 g9 r9 => ?_⟩
        obtain ⟨a4, v4s, rfl, hs4, l4, i4⟩ := r9
        obtain ⟨y4, e4, p4⟩ := i4 (m + n) (by omega)
        have p4 : PAt K H9 y4 (LP.used n (LP.w2 m c) s8 (m + n)) := by
          unfold redv at p4; rwa [if_neg (Nat.lt_irrefl _)] at p4
        refine ⟨1, rfl, _, _, _, _, rfl, rfl, hs4, at_last l4 e4, ?_⟩
        refine ⟨_, rfl, x, dx8, _, rfl, g9.at hp8, no _ _ _ (by decide +kernel) (by decide +kernel) (by decide +kernel) (by decide +kernel), _, rfl, ?_⟩
        refine ⟨x, aR, aB, n, m, col, want, s8, rfl, tab8.gw g9, hn, hm, inj, fun v10 H10 g10 r10 => ?_⟩
        refine ⟨_, rfl, x, dx8, _, rfl, (g9.trans g10).at hp8, no _ _ _ (by decide +kernel) (by decide +kernel) (by decide +kernel) (by decide +kernel), _, rfl, ?_⟩
        refine ⟨x, aR, aB, _, n, m, col, want, LP.w2 m c, s8, rfl, tab8.gw (g9.trans g10), (vl8.gw Gw.r2_le).gw (g9.trans g10), hn, hm, good8.inv.bl, (fit2 s8 good8.inv good8.det).1, fitS bn cb2 good8, fun v11 H11 g11 r11 => ?_⟩
        refine ⟨(show 4 ≤ sizeLine by decide), fun r hr => ?_⟩
        have gr : Gw H11 (upd H11 r (.tup [.str "most", y4, v10, v11])) := Gw.new _ hr
        refine k _ _ ((gH8.trans Gw.r2_le).trans (g9.trans (g10.trans (g11.trans gr)))) (.most (q := LP.used n (LP.w2 m c) s8 (m + n)) rfl (SqT.of upd_same) (p4.gw (g10.trans (g11.trans gr))) (r10.gw (g11.trans gr)) (r11.gw gr) (dn.sm_wt inj) (dn.sm_side cb2 want bn.n9 good8.inv.bl)
          (fun j _ => LP.wt_nonneg good8.feas j) (fun k hk => LP.wt_want good8.inv ar8 hk) (fun j hj => ?_) ?_ ?_)
        · rw [LP.side_col good8.inv hj, show LP.w2 m c j = c j from if_pos hj]
          exact rat_b (hred j hj)
        · rw [← ew]; exact LP.wt_worth good8.inv ar8
        · exact LP.side_want good8.inv
      · refine ⟨_, rfl, _, rfl, iteT ?_⟩
        have hfree := En.free good8.inv
        refine ⟨_, rfl, x, dx8, _, rfl, hp8, no _ _ _ (by decide +kernel) (by decide +kernel) (by decide +kernel) (by decide +kernel), _, rfl, ?_⟩
        refine ⟨x, aR, aB, n, m, col, want, s8, rfl, tab8, hn, hm, inj, fun v10 H10 g10 r10 => ?_⟩
        refine ⟨_, rfl, x, dx8, _, rfl, g10.at hp8, no _ _ _ (by decide +kernel) (by decide +kernel) (by decide +kernel) (by decide +kernel), _, rfl, _, rfl, ?_⟩
        refine ⟨x, aR, aB, e, n, m, col, want, s8, rfl, tab8.gw g10, hn, hm, inj, En.lt, fun i hi z => hfree ⟨i, hi, z⟩, fun i hi => dn.fit_neg hi (by have := En.lt; omega), fun v11 H11 g11 r11 => ?_⟩
        refine ⟨(show 3 ≤ sizeLine by decide), fun r hr => ?_⟩
        have gr : Gw H11 (upd H11 r (.tup [.str "endless", v10, v11])) := Gw.new _ hr
        refine k _ _ ((gH8.trans Gw.r2_le).trans (g10.trans (g11.trans gr))) (.endless rfl (SqT.of upd_same) (r10.gw (g11.trans gr)) (r11.gw gr) (dn.sm_wt inj) (dn.sm_dir (by have := En.lt; omega) inj)
          (fun j _ => LP.wt_nonneg good8.feas j) (fun k hk => LP.wt_want good8.inv ar8 hk) (fun j _ => LP.way_nonneg hno) (fun k hk => LP.way_null good8.inv En.lt em8 hk) ?_)
        rw [← ew, LP.way_worth good8.inv En.lt em8]
        exact En.pos
end
end K44


set_option Elab.async false
set_option linter.all false
set_option maxRecDepth 100000
set_option maxHeartbeats 4000000
set_option exponentiation.threshold 3000
/-! least. -/
namespace K44
open PySem L2
open LP (Fit lim S Tab Sm)
/-- what least gives -/
inductive LeastR (K : PySem.W.Frag) (H : Hp) (v : V) (n m : Nat) (col : Nat → Nat → Rat) (want c : Nat → Rat) : Prop where
  | none {a : Addr} {dv : V} {d : Nat → Rat} (e : v = .ref a) (s : SqT K H a [.str "none", dv]) (hd : VT K H dv m d) (sd : Sm m d) (d0 : ∀ j, j < m → 0 ≤ d j) (dw : ∀ k, k < n → (S m fun j => d j * col j k) = 0) (dc : 0 < S m fun j => c j * d j)
  | endless {a : Addr} {yv zv : V} {y z : Nat → Rat} (e : v = .ref a) (s : SqT K H a [.str "endless", yv, zv]) (hy : VT K H yv n y) (hz : VT K H zv n z) (sy : Sm n y) (sz : Sm n z) (yc : ∀ j, j < m → c j ≤ S n fun k => col j k * y k) (zc : ∀ j, j < m → 0 ≤ S n fun k => col j k * z k) (zw : (S n fun k => want k * z k) < 0)
  | least {a : Addr} {qv xv yv : V} {q : Rat} {x y : Nat → Rat} (e : v = .ref a) (s : SqT K H a [.str "least", qv, yv, xv]) (hq : PAt K H qv q) (hx : VT K H xv m x) (hy : VT K H yv n y) (sx : Sm m x) (sy : Sm n y) (x0 : ∀ j, j < m → 0 ≤ x j) (xw : ∀ k, k < n → (S m fun j => x j * col j k) = want k)
      (yc : ∀ j, j < m → c j ≤ S n fun k => col j k * y k) (qx : (S m fun j => c j * x j) = q) (qy : (S n fun k => want k * y k) = q)
def spLeast (K : PySem.W.Frag) (t : Tabs) : Sp := fun vs H Q _ => ∃ (R r g : V) (m n : Nat) (col : Nat → Nat → Rat) (c want : Nat → Rat) (E : Rat), vs = [R, r, g] ∧ SysAt K H R r g m n col c want ∧ m ≤ 60 ∧ LP.Bnds n m col want ∧ LP.CB m c E ∧ TabsOk t H ∧ Ans H (fun v H' => LeastR K H' v n m col want c) Q
abbrev sLeast : Stmt := top 28
theorem S_zeros {n : Nat} {f : Nat → Rat} : (S n fun k => (0 : Rat) * f k) = 0 := LP.S_zero fun k _ => Rat.zero_mul _
section
variable {P : Program} {w : World} {K : PySem.W.Frag} {mg : Str → Option Value} {base : Heap}
theorem scLeast : FnScope ["rows", "right", "goal", "found", "way", "places"] ["rows", "right", "goal"] (defScope sLeast) := ⟨rfl, rfl, rfl, by decide +kernel, rfl, by decide +kernel, by decide +kernel⟩
theorem ok_least {t : Tabs} {f : Addr} {fd : FuncData} (F : Fun K "least" "least" sLeast f fd) (T : Txt K mg) (C1 : CIsSystem P w K mg base t) (C2 : Cal P w K mg base "most" 7 ["columns", "wanted", "worths"] (spMost K)) :
    FnOk P w K mg base CX0 8 f fd ["rows", "right", "goal"] (spLeast K t) := by
  refine F.ok scLeast (fun vs H Q E h => ?_) (fun cdv A outer s H vs Q E hr h => ?_)
  · obtain ⟨R, r, g, m, n, col, c, want, EE, rfl, _⟩ := h
    rfl
  · obtain ⟨R, r, g, m, n, col, c, want, EE, rfl, sys, hm, bn, cb, ht, k⟩ := h
    obtain ⟨az, hz, zt⟩ := T.zero
    obtain ⟨t1, hM1⟩ := T.mostRows
    obtain ⟨t2, hM2⟩ := T.mostPlaces
    refine ⟨_, pss_cons (ps_if (pt_not (pt_val (pe_call C1.ok (hr.mono (by decide)) rfl C1.hm C1.kp C1.b .nil pass0 (pa_cons (pv 0) (pa_cons (pv 1) (pa_cons (pv 2) pa_nil)))))) (pss_one ps_never) pss_nil)
      (pss_cons (ps_if (PW.pt (pw_or (pt_cmpR op_gt (pe_callB (lenK K) (by rfl) T.len PySem.boot_len (pa_cons (pv 0) pa_nil)) (pe_glob (v := .int 60) rfl hM1 ⟨t1, rfl⟩) (nomark _)) (pw_or1 (pt_cmpR op_gt (pe_callB (lenK K) (by rfl) T.len PySem.boot_len (pa_cons (pv 2) pa_nil)) (pe_glob (v := .int 30) rfl hM2 ⟨t2, rfl⟩) (nomark _))))) (pss_one ps_never) pss_nil)
      (pss_cons (ps_set (i := 3) scLeast.nd rfl (Or.inl rfl) (pe_call C2.ok hr rfl C2.hm C2.kp C2.b .nil pass0 (pa_cons (pv 0) (pa_cons (pv 2) (pa_cons (pv 1) pa_nil)))))
      (pss_cons (ps_if (pt_cmpR op_eq (pe_ix (ixT K) (pv 3) pe_int (fun _ _ => rfl)) pe_str (nomark _)) (pss_one (ps_ret (pe_tup (pa_cons pe_str (pa_cons (pe_ix (ixT K) (pv 3) pe_int (fun _ _ => rfl)) (pa_cons (pe_ix (ixT K) (pv 3) pe_int (fun _ _ => rfl)) (pa_cons (pe_ix (ixT K) (pv 3) pe_int (fun _ _ => rfl)) pa_nil))))))) pss_nil)
      (pss_cons (ps_if (pt_cmpR op_eq (pe_ix (ixT K) (pv 3) pe_int (fun _ _ => rfl)) pe_str (nomark _)) (pss_one (ps_ret (pe_tup (pa_cons pe_str (pa_cons (pe_ix (ixT K) (pv 3) pe_int (fun _ _ => rfl)) pa_nil))))) pss_nil)
      (pss_cons (ps_set (i := 4) scLeast.nd rfl (Or.inl rfl) (pe_ix (ixT K) (pv 3) pe_int (fun _ _ => rfl)))
      (pss_cons (ps_set (i := 5) scLeast.nd rfl (Or.inl rfl) (pe_call C2.ok hr rfl C2.hm C2.kp C2.b .nil pass0 (pa_cons (pv 0) (pa_cons (pe_op (op_rep1 K) (pe_tup (pa_cons (pe_glob (v := .ref az) rfl hz rfl) pa_nil)) (pe_callB (lenK K) (by rfl) T.len PySem.boot_len (pa_cons (pv 2) pa_nil))) (pa_cons (pv 1) pa_nil)))))
      (pss_cons (ps_if (pt_cmpR op_eq (pe_ix (ixT K) (pv 5) pe_int (fun _ _ => rfl)) pe_str (nomark _)) (pss_one (ps_ret (pe_tup (pa_cons pe_str (pa_cons (pe_ix (ixT K) (pv 5) pe_int (fun _ _ => rfl)) pa_nil))))) pss_nil)
      (pss_one (ps_ret (pe_tup (pa_cons pe_str (pa_cons (pe_ix (ixT K) (pv 5) pe_int (fun _ _ => rfl)) (pa_cons (pv 4) pa_nil))))))))))))), ?_⟩
    obtain ⟨ag, vg, rfl, hg, lg, ig⟩ := id sys.goal
    obtain ⟨aR, vR, rfl, hR, lR, iR⟩ := id sys.rows
    have np := sys.pos
    have n9 := bn.n9
    refine ⟨_, rfl, _, rfl, _, rfl, _, r, _, m, n, col, c, want, rfl, sys.rows, sys.right, sys.goal, sys.pos, sys.m1, sys.n1, ht, fun v H1 g1 e => ?_⟩
    subst e
    refine ⟨_, rfl, iteF ?_⟩
    refine ⟨_, rfl, aR, vR, rfl, .inr (g1.sqT hR), _, _, rfl, rfl, _, rfl, ?_⟩
    rw [decide_eq_false (show ¬ (60 : Int) < ((vR.length : Nat) : Int) by omega)]
    refine iteF ?_
    refine ⟨_, rfl, ag, vg, rfl, .inr (g1.sqT hg), _, _, rfl, rfl, _, rfl, ?_⟩
    rw [decide_eq_false (show ¬ (30 : Int) < ((vg.length : Nat) : Int) by omega)]
    refine iteF ?_
    have sys1 := sys.gw g1
    refine ⟨_, rfl, _, rfl, _, rfl, _, _, _, n, m, col, want, c, EE, rfl, sys1.rows, sys1.goal, sys1.right, sys.m1, bn, cb, fun v2 H2 g2 r2 => ?_⟩
    have g2 := g1.trans g2
    have str_ne : ∀ {x y : Str}, x ≠ y → decide (V.str x = V.str y) = false := fun h => decide_eq_false fun z => h (V.str.inj z)
    cases r2 with
    | most e s hq hx hy sx sy x0 xw yc qx qy =>
      subst e
      refine ⟨_, rfl, _, _, _, _, rfl, rfl, s, atZ rfl, rfl, _, rfl, ?_⟩
      rw [decide_eq_true rfl]
      refine iteT ?_
      refine ⟨_, rfl, _, _, _, _, rfl, rfl, s, atI_nat (j := 1) rfl, _, rfl, _, _, _, _, rfl, rfl, s, atI_nat (j := 3) rfl, _, rfl, _, _, _, _, rfl, rfl, s, atI_nat (j := 2) rfl, (show 4 ≤ sizeLine by decide), fun l hl => ?_⟩
      have gl := fun o => Gw.new o hl
      exact k _ _ (g2.trans (gl _)) (.least rfl (SqT.of upd_same) (hq.gw (gl _)) (hx.gw (gl _)) (hy.gw (gl _)) sx sy x0 xw yc qx qy)
    | endless e s hx hd sx sd x0 xw d0 dw dc =>
      subst e
      refine ⟨_, rfl, _, _, _, _, rfl, rfl, s, atZ rfl, rfl, _, rfl, ?_⟩
      rw [str_ne (by decide +kernel)]
      refine iteF ?_
      refine ⟨_, rfl, _, _, _, _, rfl, rfl, s, atZ rfl, rfl, _, rfl, ?_⟩
      rw [decide_eq_true rfl]
      refine iteT ?_
      refine ⟨_, rfl, _, _, _, _, rfl, rfl, s, atI_nat (j := 2) rfl, (show 2 ≤ sizeLine by decide), fun l hl => ?_⟩
      have gl := fun o => Gw.new o hl
      exact k _ _ (g2.trans (gl _)) (.none rfl (SqT.of upd_same) (hd.gw (gl _)) sd d0 dw dc)
    | none e s hy sy h1 h2 =>
      subst e
      refine ⟨_, rfl, _, _, _, _, rfl, rfl, s, atZ rfl, rfl, _, rfl, ?_⟩
      rw [str_ne (by decide +kernel)]
      refine iteF ?_
      refine ⟨_, rfl, _, _, _, _, rfl, rfl, s, atZ rfl, rfl, _, rfl, ?_⟩
      rw [str_ne (by decide +kernel)]
      refine iteF ?_
      refine ⟨_, rfl, _, _, _, _, rfl, rfl, s, atI_nat (j := 1) rfl, ?_⟩
      refine ⟨_, rfl, (show 1 ≤ sizeLine by decide), fun q hq => ?_⟩
      have g6 := g2.trans (Gw.new (.tup [.ref az]) hq)
      refine ⟨_, rfl, ag, vg, rfl, .inr (g6.sqT hg), q, _, [.ref az], rfl, rfl, SqT.of upd_same, List.cons_ne_nil _ _, by omega, by omega, (show 1 ≤ 1000 by decide), fun e => ?c1, fun l hl => ?c2⟩
      case' c1 =>
        have hz0 : VT K (upd H2 q (.tup [.ref az])) (.ref q) n fun _ => 0 := zeros_vt (zt _) (by rw [show n = 1 by omega]; exact upd_same)
        have g7 := g6
        have g8 := Gw.new (.tup [V.ref az]) hq
      case' c2 =>
        have hz0 : VT K (upd (upd H2 q (.tup [.ref az])) l (.tup (List.replicate ((vg.length : Nat) : Int).toNat [V.ref az]).flatten)) (.ref l) n fun _ => 0 := zeros_vt (zt _) (by
          rw [show ((vg.length : Nat) : Int).toNat = n by omega, flat1]; exact upd_same)
        have g7 := g6.trans (Gw.new (.tup (List.replicate ((vg.length : Nat) : Int).toNat [V.ref az]).flatten) hl)
        have g8 := (Gw.new (.tup [V.ref az]) hq).trans (Gw.new (.tup (List.replicate ((vg.length : Nat) : Int).toNat [V.ref az]).flatten) hl)
      all_goals
        have sys7 := sys.gw g7
        have bz : LP.Bnds n m col (fun _ => 0) := ⟨bn.n9, bn.col, fun _ _ => ⟨LP.isI_zero, LP.bd_zero (by decide)⟩⟩
        refine ⟨_, rfl, _, _, _, n, m, col, (fun _ => 0), c, EE, rfl, sys7.rows, hz0, sys7.right, sys.m1, bz, cb, fun v3 H3 g3 r3 => ?_⟩
        have hy3 := (hy.gw g8).gw g3
        cases r3 with
        | most e s3 hq hx hy' sx sy' x0 xw yc qx qy =>
          subst e
          refine ⟨_, rfl, _, _, _, _, rfl, rfl, s3, atZ rfl, rfl, _, rfl, ?_⟩
          rw [str_ne (by decide +kernel)]
          refine iteF ?_
          refine ⟨_, rfl, _, _, _, _, rfl, rfl, s3, atI_nat (j := 3) rfl, _, rfl, (show 3 ≤ sizeLine by decide), fun l hl => ?_⟩
          have gl := fun o => Gw.new o hl
          exact k _ _ (g7.trans (g3.trans (gl _))) (.endless rfl (SqT.of upd_same) (hy'.gw (gl _)) (hy3.gw (gl _)) sy' sy yc h1 h2)
        | endless e s3 hx hd sx sd x0 xw d0 dw dc =>
          subst e
          refine ⟨_, rfl, _, _, _, _, rfl, rfl, s3, atZ rfl, rfl, _, rfl, ?_⟩
          rw [decide_eq_true rfl]
          refine iteT ?_
          refine ⟨_, rfl, _, _, _, _, rfl, rfl, s3, atI_nat (j := 2) rfl, (show 2 ≤ sizeLine by decide), fun l hl => ?_⟩
          have gl := fun o => Gw.new o hl
          exact k _ _ (g7.trans (g3.trans (gl _))) (.none rfl (SqT.of upd_same) (hd.gw (gl _)) sd d0 dw dc)
        | none e s3 hy' sy' h1' h2' =>
          rw [S_zeros] at h2'
          exact absurd h2' Rat.lt_irrefl
end
end K44


set_option Elab.async false
set_option linter.all false
set_option maxRecDepth 100000
set_option maxHeartbeats 4000000
/-! list(reversed(a list)). -/
namespace LRev
open PySem PySem.Spec PyProof.Rows L2
open PySem.Sem (wp)
open RT
section
variable {prog : Program} {w : World} {A : Around} {s : Shared} {R : Result → Shared → Prop}
theorem ext_rev {it l S : Addr} {items : Array Value} (res : Value) (c₀ : Nat) (hh : A.in1.handled = none) (hit : s.heap.IsRevIter it l ((items.size : Int) - 1)) (hl : s.heap.IsList l items) (hne : l ≠ it) (hSi : S ≠ it) (hSl : S ≠ l) (hn : items.size ≤ sizeLine)
    (hS : s.heap.get? S = some { cls := .type "list", data := .seq #[] c₀ })
    (hR : ∀ h' tk acc' c', (∀ b o, b ≠ S → b ≠ it → s.heap.get? b = some o → h'.get? b = some o) → h'.get? S = some { cls := .type "list", dict := none, data := .seq acc' c', slots := #[] } → ItemsOf (fun i v => items[items.size - 1 - i]? = some v) acc' items.size → R (.ok (.ret res)) { s with heap := h', toks := tk }) :
    wpAny (model prog w) A.in1 (Builtin.List.listExtendWith (.ref S) (.ref it) res)
      (fun fin s' => match fin with | .done f => R (.ok f) s' | .again c' => c'.quiet = true ∧ codeAny (model prog w) A c' R s') (fun e s' => R (.error e) s') s := by
  have W := (Walks.listRev (prog := prog) (w := w) (A := A.in1) hh it l hne items).toS
  have hSf : S ∉ [it, l] := by simp only [List.mem_cons, List.not_mem_nil, or_false, not_or]; exact ⟨hSi, hSl⟩
  have hT : s.TypeIs (.ref it) "list_reverseiterator" := Heap.IsRevIter.typeIs hit
  have h1 : Builtin.List.listSameRef (.ref S) (.ref it) = false := by simp [Builtin.List.listSameRef, hSi]
  unfold Builtin.List.listExtendWith
  refine wpAny_bind (wpAny_typeOf hT ?_)
  rw [if_neg (by rw [h1]; decide)]
  refine wpAny_bind (wpAny_pyIter_revIter hit ?_)
  refine wpAny_bind (wpAny_holding ?_)
  unfold Builtin.List.listLengthHint
  refine wpAny_bind (wpAny_specialOf hT nolen_lri ?_)
  show wpAny _ A.in1 (specialOf (Value.ref it) (Str.ofString "__length_hint__") >>= _) _ _ _
  refine wpAny_bind (wpAny_specialOf hT hint_lri ?_)
  generalize hid : ("list_reverseiterator.__length_hint__" : String) = id0
  wp_delta
  rw [show splitId id0 = some ("list_reverseiterator", "__length_hint__") from by subst hid; decide +kernel]
  subst hid
  refine wpAny_bind (wpAny_isInstance (b := true) hT (by rw [isSubtype_type]; kernel_rfl) ?_)
  refine wpAny_pure ?_
  rw [if_neg (by decide)]
  have e0 : ((items.size : Nat) : Int) - 1 - ((0 : Nat) : Int) = (items.size : Int) - 1 := by omega
  refine wpAny_pure ⟨plainId_quiet F.plain_extend_loop _, codeAny_extend_loopS W hn _ hSf _ items.size 0 _ _ _ rfl (Nat.zero_le _) ⟨Nat.zero_le _, by rw [e0]; exact hit, hl⟩ hS (ItemsOf.nil _) fun s' acc' c' hm hS' hacc => ?_⟩
  rw [Moved.eq_with hm]
  exact hR s'.heap s'.toks acc' c' (fun b o hb hb2 e => hm.heap b o (fun hmem => by
    rcases List.mem_cons.mp hmem with e' | hmem
    · exact hb e'
    · exact hb2 (List.mem_singleton.mp hmem)) e) hS' hacc
theorem init_rev {it l S : Addr} {items : Array Value} (hh : A.in1.handled = none) (hit : s.heap.IsRevIter it l ((items.size : Int) - 1)) (hl : s.heap.IsList l items) (hne : l ≠ it) (hSi : S ≠ it) (hSl : S ≠ l) (hn : items.size ≤ sizeLine)
    (hS : s.heap.get? S = some { cls := .type "list", data := .seq #[] })
    (hR : ∀ h' tk acc' c', (∀ b o, b ≠ S → b ≠ it → s.heap.get? b = some o → h'.get? b = some o) → h'.get? S = some { cls := .type "list", dict := none, data := .seq acc' c', slots := #[] } → ItemsOf (fun i v => items[items.size - 1 - i]? = some v) acc' items.size → R (.ok (.ret .none)) { s with heap := h', toks := tk }) :
    wpAny (model prog w) A.in1 (Builtin.«list.__init__» ⟨[.ref S, .ref it], []⟩)
      (fun fin s' => match fin with | .done f => R (.ok f) s' | .again c' => c'.quiet = true ∧ codeAny (model prog w) A c' R s') (fun e s' => R (.error e) s') s := by
  show wpAny _ A.in1 (do let old ← Builtin.List.listItems (.ref S); Builtin.List.listUpdate (.ref S) (fun _ => #[]); letGo old.toList.reverse; Builtin.List.listExtendWith (.ref S) (.ref it) .none) _ _ s
  refine wpAny_bind ?_
  unfold Builtin.List.listItems
  refine wpAny_bind (wpAny_seqItems hS rfl (wpAny_pure ?_))
  show wpAny _ A.in1 (updateSeq S (fun _ => #[]) >>= fun _ => letGo (#[] : Array Value).toList.reverse >>= fun _ => Builtin.List.listExtendWith (.ref S) (.ref it) .none) _ _ s
  refine wpAny_bind (wpAny_updateSeq hS rfl ?_)
  have hS₂ := Heap.get?_update_self (Obj.mapSeq (fun _ => (#[] : Array Value))) hS rfl
  have oth : ∀ b o, b ≠ S → s.heap.get? b = some o → (s.heap.update S (Obj.mapSeq (fun _ => (#[] : Array Value)))).get? b = some o :=
    fun b o hb e => (Heap.get?_update_other _ _ (Ne.symm hb)).trans e
  refine wpAny_bind (wpAny_letGo ?_)
  refine ext_rev .none _ hh (hit.at fun o e => oth it o (Ne.symm hSi) e) (hl.at fun o e => oth l o (Ne.symm hSl) e) hne hSi hSl hn hS₂ fun h' tk acc' c' hk hS' hacc => ?_
  exact hR h' tk acc' c' (fun b o hb hb2 e => hk b o hb hb2 (oth b o hb e)) hS' hacc
end
theorem call_list_rev {prog : Program} {w : World} {A : Around} {E : Value → Shared → Prop} {s : Shared} {it l : Addr} {items : Array Value} {Q : Value → Shared → Prop} (hh : A.handled = none) (hit : s.heap.IsRevIter it l ((items.size : Int) - 1)) (hl : s.heap.IsList l items) (hne : l ≠ it) (hn : items.size ≤ sizeLine)
    (hQ : ∀ h' tk acc' c', (∀ b o, b ≠ it → s.heap.get? b = some o → h'.get? b = some o) → h'.get? s.heap.objs.size = some { cls := .type "list", dict := none, data := .seq acc' c', slots := #[] } → ItemsOf (fun i v => items[items.size - 1 - i]? = some v) acc' items.size →
      Q (.ref s.heap.objs.size) { s with heap := h', toks := tk }) :
    wpAny (model prog w) A (call (.type "list") [.ref it]) Q E s := by
  obtain ⟨oi, hoi, _⟩ := id hit
  obtain ⟨ol, hol, _⟩ := id hl
  have hSi : s.heap.objs.size ≠ it := Nat.ne_of_gt (Heap.lt_size hoi)
  have hSl : s.heap.objs.size ≠ l := Nat.ne_of_gt (Heap.lt_size hol)
  refine callType_codes (Q₁ := fun obj s₁ => obj = .ref s.heap.objs.size ∧ s₁ = { s with heap := s.heap.push { cls := .type "list", data := .seq #[] } }) F.called_list (F.typeCall_list_1 _) F.entry_list_init
    (code_list_new _ ⟨rfl, rfl⟩) fun obj s₁ h₁ => ?_
  obtain ⟨rfl, rfl⟩ := h₁
  have hS : (s.heap.push { cls := .type "list", data := .seq #[] }).get? s.heap.objs.size = some { cls := .type "list", data := .seq #[] } := Heap.get?_push_size _ rfl
  refine ⟨⟨_, hS, rfl⟩, F.args_list_init_2 _ _, init_rev (s := { s with heap := s.heap.push { cls := .type "list", data := .seq #[] } }) hh (hit.at fun o e => Heap.get?_push_of_some _ e) (hl.push _) hne hSi hSl hn hS fun h' tk acc' c' hk hS' hacc => ?_⟩
  exact ⟨rfl, hQ h' tk acc' c' (fun b o hb e => hk b o (Nat.ne_of_lt (Heap.lt_size e)) hb (Heap.get?_push_of_some _ e)) hS' hacc⟩
/-- list(reversed(x)), x a list: a new list -/
def tLstRev (K : PySem.W.Frag) (te : TE) : TE := fun σ H Q => te σ H fun v H1 => ∃ (a : Addr) (xs : List V), v = .ref a ∧ SqL K H1 a xs ∧ ∀ q, H1 q = none → Q (.ref q) (upd H1 q (.lst xs.reverse))
section
variable {X : Cx}
theorem pe_lstRev {e : Expr} {te : TE} {p p2 pos pos2 : Pos} (hc : X.calm = true) (hg : Gl X "list") (hm : X.mg "list" = none) (hg2 : Gl X "reversed") (hm2 : X.mg "reversed" = none) (he : PE X e te)
    (hs : starEach [e] X.env = (false, eval e X.env) :: starEach [] X.env := by rfl)
    (hs2 : starEach [.Call (.Name "reversed" p2) [e] [] pos2] X.env = (false, eval (.Call (.Name "reversed" p2) [e] [] pos2) X.env) :: starEach [] X.env := by rfl) :
    PE X (.Call (.Name "list" p) [.Call (.Name "reversed" p2) [e] [] pos2] [] pos) (tLstRev X.K te) := by
  refine ⟨fun pins s σ H Q I h => ?_⟩
  refine Call_ (ld_blt I hg hm boot_list (PyProof.Rows.callWith_type1 (args_cons (Call_ (ld_blt I hg2 hm2 PyProof.Rows.boot_reversed (PyProof.Rows.callWith_type1 (args_cons (thn (he.run pins s σ H _ I h) fun u s1 ⟨v, H1, I1, r1, q1⟩ => args_nil ?_) hs) hs rfl))) hs2) hs2 rfl))
  obtain ⟨a, xs, ev, hq, q⟩ := q1
  subst ev
  obtain rfl : u = Value.ref a := r1
  obtain ⟨its, rv, p', hz⟩ := I1.list hq
  refine call_reversed_list p'.isList (args_nil ?_)
  have k0 : ∀ b o, s1.heap.get? b = some o → (s1.heap.push (revObj a ((its.toArray.size : Int) - 1))).get? b = some o := fun b o e => Heap.get?_push_of_some _ e
  have I2 : Inv X pins σ H1 { s1 with heap := s1.heap.push (revObj a ((its.toArray.size : Int) - 1)) } := I1.kept (t' := s1.toks) k0
  obtain ⟨f0, f1, f2, f3, f4, f5⟩ := I1.fpOk (H' := H1) (b := s1.heap.objs.size) (Nat.le_refl _) (I1.hok.fresh (Nat.le_refl _))
  have hl := p'.isList
  obtain ⟨ol, hol, _⟩ := id hl
  have hne : a ≠ s1.heap.objs.size := Nat.ne_of_lt (Heap.lt_size hol)
  have hn : its.toArray.size ≤ sizeLine := by rw [List.size_toArray, ← rv.length]; exact hz
  have hz2 : (s1.heap.push (revObj a ((its.toArray.size : Int) - 1))).objs.size = s1.heap.objs.size + 1 := Heap.size_push ..
  refine call_list_rev (s := { s1 with heap := s1.heap.push (revObj a ((its.toArray.size : Int) - 1)) }) (I1.ok.hd hc) ⟨_, Heap.get?_push_size _ rfl, rfl, rfl⟩ (hl.push _) hne hn fun h' tk acc c' hk hS hi => ?_
  rw [hz2] at hS
  show EP X pins σ Q (.ref (s1.heap.push (revObj a ((its.toArray.size : Int) - 1))).objs.size) _
  rw [hz2]
  refine ⟨.ref (s1.heap.objs.size + 1), upd H1 (s1.heap.objs.size + 1) (.lst xs.reverse), I1.laid (t' := tk) (fun b u e => hk b u (Nat.ne_of_lt (Heap.lt_size e)) (k0 b u e)) (Nat.le_succ _)
    (show ObjOk X.prog X.w _ _ _ (.lst xs.reverse) from ⟨by rw [List.length_reverse]; exact hz, acc.toList, c', vals_rev rv hi, ?_⟩), rfl, q _ (I1.hok.fresh (Nat.le_succ _))⟩
  rw [Array.toArray_toList]
  exact hS
end
end LRev


set_option Elab.async false
set_option linter.all false
set_option maxRecDepth 100000
set_option maxHeartbeats 4000000
set_option exponentiation.threshold 3000
/-! The law's own reckoning: take, says, low, plus, times, minus, over, less. -/
namespace K44
open PySem L2
open LP (Fit lim S)
abbrev sLTake : Stmt := top 38
abbrev sLSays : Stmt := top 40
abbrev sLLow : Stmt := top 41
abbrev sLPlus : Stmt := top 42
abbrev sLTimes : Stmt := top 43
abbrev sLMinus : Stmt := top 44
abbrev sLOver : Stmt := top 45
abbrev sLLess : Stmt := top 46
/-- the draws' list at D -/
def Draws (H : Hp) (D : Addr) : Prop := ∃ ns : List Int, H D = some (.lst (ns.map V.int))
def spTake : Sp := fun vs H Q _ => ∃ (D : Addr) (b : Int), vs = [.ref D, .int b] ∧ 0 < b ∧ Draws H D ∧ ∀ (v : Int) (H' : Hp), 0 ≤ v → v < b → Gw (rm H D) (rm H' D) → Draws H' D → Q (.int v) H'
def spSays : Sp := fun vs H Q _ => ∃ a b : Bool, vs = [.bl a, .bl b] ∧ Q (.bl (decide (a = b))) H
def spLow (K : PySem.W.Frag) : Sp := fun vs H Q _ => ∃ a d : Int, vs = [.int a, .int d] ∧ 0 < d ∧ d.natAbs < 2 ^ 1000 ∧ Fit (Rat.divInt a d) ∧ Ans H (fun v H' => PAt K H' v (Rat.divInt a d)) Q
section
variable {P : Program} {w : World} {K : PySem.W.Frag} {mg : Str → Option Value} {base : Heap}
theorem scLTake : FnScope ["draws", "bound"] ["draws", "bound"] (defScope sLTake) := ⟨rfl, rfl, rfl, by decide +kernel, rfl, by decide +kernel, by decide +kernel⟩
theorem scLSays : FnScope ["found", "due"] ["found", "due"] (defScope sLSays) := ⟨rfl, rfl, rfl, by decide +kernel, rfl, by decide +kernel, by decide +kernel⟩
theorem scLLow : FnScope ["one", "other", "first", "second"] ["one", "other"] (defScope sLLow) := ⟨rfl, rfl, rfl, by decide +kernel, rfl, by decide +kernel, by decide +kernel⟩
theorem scLPlus : FnScope ["one", "other"] ["one", "other"] (defScope sLPlus) := ⟨rfl, rfl, rfl, by decide +kernel, rfl, by decide +kernel, by decide +kernel⟩
theorem scLTimes : FnScope ["one", "other"] ["one", "other"] (defScope sLTimes) := ⟨rfl, rfl, rfl, by decide +kernel, rfl, by decide +kernel, by decide +kernel⟩
theorem scLMinus : FnScope ["one", "other"] ["one", "other"] (defScope sLMinus) := ⟨rfl, rfl, rfl, by decide +kernel, rfl, by decide +kernel, by decide +kernel⟩
theorem scLOver : FnScope ["one", "other"] ["one", "other"] (defScope sLOver) := ⟨rfl, rfl, rfl, by decide +kernel, rfl, by decide +kernel, by decide +kernel⟩
theorem scLLess : FnScope ["one", "other"] ["one", "other"] (defScope sLLess) := ⟨rfl, rfl, rfl, by decide +kernel, rfl, by decide +kernel, by decide +kernel⟩
theorem dropLast_map (ns : List Int) : (ns.map V.int).dropLast = ns.dropLast.map V.int := by rw [List.map_dropLast]
theorem ok_lTake {f : Addr} {fd : FuncData} (F : Fun K "_law_take" "_law_take" sLTake f fd) (T : Txt K mg) : FnOk P w K mg base CX0 1 f fd ["draws", "bound"] spTake := by
  refine F.ok scLTake (fun vs H Q E h => ?_) (fun cdv A outer s H vs Q E hr h => ?_)
  · obtain ⟨D, b, rfl, _⟩ := h
    rfl
  · obtain ⟨D, b, rfl, hb, ⟨ns, hD⟩, k⟩ := h
    refine ⟨_, pss_cons (ps_if (pt_cmpR op_eq (pe_callB (lenK K) (by rfl) T.len PySem.boot_len (pa_cons (pv 0) pa_nil)) pe_int (nomark _)) (pss_one (ps_ret pe_int)) pss_nil)
      (pss_one (ps_ret (pe_op op_mod (pe_callTy call_int1 (by rfl) T.int (by decide +kernel) (pa_cons (pe_bm0 PySem.F.plainAttrs_list PySem.F.slot_list_pop PySem.F.type_list_pop mt_pop (pv 0)) pa_nil)) (pv 1)))), ?_⟩
    refine ⟨_, rfl, D, _, rfl, .inl (SqL.of hD), rfl, _, rfl, ?_⟩
    cases ns with
    | nil =>
      refine iteT ?_
      exact k 0 H (Int.le_refl _) hb (Gw.refl _) ⟨[], hD⟩
    | cons n ns =>
      rw [decide_eq_false (show ¬ V.int ((((n :: ns).map V.int).length : Nat) : Int) = V.int 0 from fun z => by
        have := V.int.inj z
        simp only [List.map_cons, List.length_cons] at this
        omega)]
      refine iteF ?_
      obtain ⟨z, hz⟩ : ∃ z, (n :: ns)[(n :: ns).length - 1]? = some z := ⟨_, List.getElem?_eq_getElem (by simp only [List.length_cons]; omega)⟩
      have hx : ((n :: ns).map V.int)[((n :: ns).map V.int).length - 1]? = some (V.int z) := by
        rw [List.length_map, List.getElem?_map, hz]
        rfl
      refine ⟨_, rfl, .inl ⟨rfl, _, SqL.of hD⟩, D, _, _, rfl, rfl, hD, hx, .inl ⟨_, rfl, _, rfl, _, _, rfl, rfl, hb, ?_⟩⟩
      refine k _ _ (Int.emod_nonneg _ (by omega)) (Int.emod_lt_of_pos _ hb) (by rw [rm_upd]; exact Gw.refl _) ⟨(n :: ns).dropLast, by rw [dropLast_map]; exact upd_same⟩
theorem ok_lSays {f : Addr} {fd : FuncData} (F : Fun K "_law_says" "_law_says" sLSays f fd) (T : Txt K mg) : FnOk P w K mg base CX0 1 f fd ["found", "due"] spSays := by
  refine F.ok scLSays (fun vs H Q E h => ?_) (fun cdv A outer s H vs Q E hr h => ?_)
  · obtain ⟨a, b, rfl, _⟩ := h
    rfl
  · obtain ⟨a, b, rfl, k⟩ := h
    refine ⟨_, pss_one (ps_ret (pe_and (pe_callB (isiK K) (by rfl) T.isi (by decide +kernel) (pa_cons (pv 0) (pa_cons (pe_bltn (v := .ty "bool") (by rfl) T.bool (by decide +kernel) rfl) pa_nil))) (pe_one (pe_cmpR op_eq (pv 0) (pv 1) (nomark _))))), ?_⟩
    refine ⟨_, rfl, _, _, _, _, _, rfl, .ty _, .base (.bl _), kit_ty (r := true) (by decide +kernel), _, rfl, iteT ?_⟩
    refine ⟨_, rfl, _, rfl, rfl, ?_⟩
    rw [show decide (V.bl a = V.bl b) = decide (a = b) from decide_eq_decide.mpr ⟨fun z => V.bl.inj z, fun z => by rw [z]⟩]
    exact k
theorem ok_lLow {f : Addr} {fd : FuncData} (F : Fun K "_law_low" "_law_low" sLLow f fd) (T : Txt K mg) : FnOk P w K mg base CX0 1 f fd ["one", "other"] (spLow K) := by
  refine F.ok scLLow (fun vs H Q E h => ?_) (fun cdv A outer s H vs Q E hr h => ?_)
  · obtain ⟨a, d, rfl, _⟩ := h
    rfl
  · obtain ⟨a, d, rfl, hd, hdb, hfit, k⟩ := h
    refine ⟨_, pss_cons (ps_par (i := 2) (j := 3) rfl scLLow.nd rfl rfl (by decide) rfl rfl (pa_cons (pe_callB call_abs (by rfl) T.abs (by decide +kernel) (pa_cons (pv 0) pa_nil)) (pa_cons (pv 1) pa_nil)) rfl)
      (pss_cons (ps_while PassesOwn.never (pt_cmpR op_gt (pv 3) pe_int (nomark _))
        (pss_one (ps_par (i := 2) (j := 3) rfl scLLow.nd rfl rfl (by decide) rfl rfl (pa_cons (pv 3) (pa_cons (pe_op op_mod (pe_callTy call_int1 (by rfl) T.int (by decide +kernel) (pa_cons (pv 2) pa_nil)) (pv 3)) pa_nil)) rfl)))
      (pss_one (ps_ret (pe_tup (pa_cons (pe_op op_fdivX (pv 0) (pv 2)) (pa_cons (pe_op op_fdivX (pv 1) (pv 2)) pa_nil)))))), ?_⟩
    refine ⟨_, rfl, _, rfl, _, rfl, _, _, rfl, ?_⟩
    refine ⟨fun m σ H' => H' = H ∧ ∃ f : Nat, σ = [some (.int a), some (.int d), some (.int (f : Nat)), some (.int (m : Nat))] ∧ Nat.gcd f m = Nat.gcd a.natAbs d.natAbs, ⟨d.natAbs, rfl, a.natAbs, ?_, rfl⟩, ?_⟩
    · rw [show (if a < 0 then -a else a) = ((a.natAbs : Nat) : Int) by split <;> omega, show (V.int d) = V.int ((d.natAbs : Nat) : Int) by rw [show ((d.natAbs : Nat) : Int) = d by omega]]
      rw [show ((d.natAbs : Nat) : Int) = d by omega]
      rfl
    · rintro m σ H1 ⟨rfl, f, rfl, hg⟩
      refine ⟨_, rfl, _, _, rfl, rfl, _, rfl, ?_⟩
      by_cases hm : 0 < m
      · rw [decide_eq_true (show (0 : Int) < (m : Nat) by omega)]
        refine iteT ⟨fun σ' H' => ∃ m', m' < m ∧ H' = H1 ∧ ∃ f : Nat, σ' = [some (.int a), some (.int d), some (.int (f : Nat)), some (.int (m' : Nat))] ∧ Nat.gcd f m' = Nat.gcd a.natAbs d.natAbs, fun _ _ h => h, ?_⟩
        refine ⟨_, rfl, _, rfl, .inl ⟨_, rfl, _, rfl, _, _, rfl, rfl, by omega, _, _, rfl, f % m, Nat.mod_lt _ hm, rfl, m, rfl, ?_⟩⟩
        rw [← hg, Nat.gcd_comm f m, Nat.gcd_rec m f, Nat.gcd_comm]
      · rw [decide_eq_false (show ¬ (0 : Int) < (m : Nat) by omega)]
        refine iteF ?_
        have : m = 0 := by omega
        subst this
        rw [Nat.gcd_zero_right] at hg
        obtain ⟨m1, m2⟩ := mk_eq (a := a) (d := d) (by omega) f hg
        rw [if_pos hd] at m1 m2
        have hg0 : 0 < f := by rw [hg]; exact Nat.gcd_pos_of_pos_right _ (by omega)
        have hfl : f < 2 ^ 1000 := Nat.lt_of_le_of_lt (by rw [hg]; exact Nat.le_of_dvd (by omega) (Nat.gcd_dvd_right _ _)) hdb
        have hf2 : f.log2 < 9000 := Nat.lt_trans (PySem.Flt.log2_lt_of (by decide) hfl) (by decide)
        have cd : ∀ i, CDivX i ((f : Nat) : Int) := fun i => ⟨by omega, by rw [Int.natAbs_natCast]; exact hf2⟩
        refine ⟨_, rfl, _, rfl, _, _, rfl, rfl, cd _, _, rfl, _, rfl, _, _, rfl, rfl, cd _, (show 2 ≤ sizeLine by decide), fun p hp => ?_⟩
        dsimp only
        rw [m1, m2]
        exact k _ _ (Gw.new _ hp) ⟨⟨p, rfl, SqT.of upd_same⟩, hfit⟩
abbrev CLow (P : Program) (w : World) (K : PySem.W.Frag) (mg : Str → Option Value) (base : Heap) := Cal P w K mg base "_law_low" 1 ["one", "other"] (spLow K)
theorem den_pos' (a b : Rat) : (0 : Int) < (a.den : Int) * (b.den : Int) := by
  have h1 := a.den_pos
  have h2 := b.den_pos
  exact Int.mul_pos (by omega) (by omega)
theorem ok_lPlus {f : Addr} {fd : FuncData} (F : Fun K "_law_plus" "_law_plus" sLPlus f fd) (C : CLow P w K mg base) : FnOk P w K mg base CX0 2 f fd ["one", "other"] (sp2 K (· + ·)) := by
  refine F.ok scLPlus (fun vs H Q E h => ?_) (fun cdv A outer s H vs Q E hr h => ?_)
  · obtain ⟨x, y, a, b, rfl, _⟩ := h
    rfl
  · obtain ⟨x, y, a, b, rfl, ⟨⟨p, rfl, hp⟩, fa⟩, ⟨⟨q, rfl, hq⟩, fb⟩, hfit, k⟩ := h
    refine ⟨_, pss_one (ps_ret (pe_call C.ok hr rfl C.hm C.kp C.b .nil pass0 (pa_cons (pe_op op_add (pe_op op_mulW (pe_ix ix_tup (pv 0) pe_int (fun _ _ => rfl)) (pe_ix ix_tup (pv 1) pe_int (fun _ _ => rfl)))
      (pe_op op_mulW (pe_ix ix_tup (pv 1) pe_int (fun _ _ => rfl)) (pe_ix ix_tup (pv 0) pe_int (fun _ _ => rfl))))
      (pa_cons (pe_op op_mulW (pe_ix ix_tup (pv 0) pe_int (fun _ _ => rfl)) (pe_ix ix_tup (pv 1) pe_int (fun _ _ => rfl))) pa_nil)))), ?_⟩
    refine ⟨_, rfl, _, _, _, _, rfl, rfl, hp, atI_nat (j := 0) rfl, _, rfl, _, _, _, _, rfl, rfl, hq, atI_nat (j := 1) rfl, _, _, rfl, rfl, wide_nd fa fb,
      _, rfl, _, _, _, _, rfl, rfl, hq, atI_nat (j := 0) rfl, _, rfl, _, _, _, _, rfl, rfl, hp, atI_nat (j := 1) rfl, _, _, rfl, rfl, wide_nd fb fa, _, _, rfl, rfl,
      _, rfl, _, _, _, _, rfl, rfl, hp, atI_nat (j := 1) rfl, _, rfl, _, _, _, _, rfl, rfl, hq, atI_nat (j := 1) rfl, _, _, rfl, rfl, wide_dd fa fb,
      _, _, rfl, den_pos' a b, lt_1000 (wide_lt (Fit.den_lt fa) (Fit.den_lt fb)), (by rw [add_mk]; exact hfit), fun v H' g r => k v H' g ?_⟩
    rw [add_mk] at r
    exact r
theorem ok_lTimes {f : Addr} {fd : FuncData} (F : Fun K "_law_times" "_law_times" sLTimes f fd) (C : CLow P w K mg base) : FnOk P w K mg base CX0 2 f fd ["one", "other"] (sp2 K (· * ·)) := by
  refine F.ok scLTimes (fun vs H Q E h => ?_) (fun cdv A outer s H vs Q E hr h => ?_)
  · obtain ⟨x, y, a, b, rfl, _⟩ := h
    rfl
  · obtain ⟨x, y, a, b, rfl, ⟨⟨p, rfl, hp⟩, fa⟩, ⟨⟨q, rfl, hq⟩, fb⟩, hfit, k⟩ := h
    refine ⟨_, pss_one (ps_ret (pe_call C.ok hr rfl C.hm C.kp C.b .nil pass0 (pa_cons (pe_op op_mulW (pe_ix ix_tup (pv 0) pe_int (fun _ _ => rfl)) (pe_ix ix_tup (pv 1) pe_int (fun _ _ => rfl)))
      (pa_cons (pe_op op_mulW (pe_ix ix_tup (pv 0) pe_int (fun _ _ => rfl)) (pe_ix ix_tup (pv 1) pe_int (fun _ _ => rfl))) pa_nil)))), ?_⟩
    refine ⟨_, rfl, _, _, _, _, rfl, rfl, hp, atI_nat (j := 0) rfl, _, rfl, _, _, _, _, rfl, rfl, hq, atI_nat (j := 0) rfl, _, _, rfl, rfl, wide_nn fa fb,
      _, rfl, _, _, _, _, rfl, rfl, hp, atI_nat (j := 1) rfl, _, rfl, _, _, _, _, rfl, rfl, hq, atI_nat (j := 1) rfl, _, _, rfl, rfl, wide_dd fa fb,
      _, _, rfl, den_pos' a b, lt_1000 (wide_lt (Fit.den_lt fa) (Fit.den_lt fb)), (by rw [mul_mk]; exact hfit), fun v H' g r => k v H' g ?_⟩
    rw [mul_mk] at r
    exact r
theorem fit_negR {b : Rat} (h : Fit b) : Fit (-b) := ⟨by rw [Rat.neg_num]; have := h.1; omega, by rw [Rat.neg_den]; exact h.2⟩
theorem ok_lMinus {f : Addr} {fd : FuncData} (F : Fun K "_law_minus" "_law_minus" sLMinus f fd) (C : C2 P w K mg base "_law_plus" (· + ·)) : FnOk P w K mg base CX0 3 f fd ["one", "other"] (sp2 K (· - ·)) := by
  refine F.ok scLMinus (fun vs H Q E h => ?_) (fun cdv A outer s H vs Q E hr h => ?_)
  · obtain ⟨x, y, a, b, rfl, _⟩ := h
    rfl
  · obtain ⟨x, y, a, b, rfl, pa, ⟨⟨q, rfl, hq⟩, fb⟩, hfit, k⟩ := h
    refine ⟨_, pss_one (ps_ret (pe_call C.ok hr rfl C.hm C.kp C.b .nil pass0 (pa_cons (pv 0) (pa_cons (pe_tup (pa_cons (pe_op op_sub pe_int (pe_ix ix_tup (pv 1) pe_int (fun _ _ => rfl))) (pa_cons (pe_ix ix_tup (pv 1) pe_int (fun _ _ => rfl)) pa_nil))) pa_nil)))), ?_⟩
    refine ⟨_, rfl, _, rfl, _, _, _, _, rfl, rfl, hq, atI_nat (j := 0) rfl, _, _, rfl, rfl, _, rfl, _, _, _, _, rfl, rfl, hq, atI_nat (j := 1) rfl, (show 2 ≤ sizeLine by decide), fun p hp => ?_⟩
    dsimp only
    have gp := Gw.new (.tup [V.int (0 - b.num), V.int (b.den : Int)]) hp
    have e1 : a + (-b) = a - b := by rw [Rat.sub_eq_add_neg]
    refine ⟨_, _, a, -b, rfl, pa.gw gp, ⟨⟨p, rfl, ?_⟩, fit_negR fb⟩, by show Fit (a + -b); rw [e1]; exact hfit, fun v H' g r => k v H' (gp.trans g) ?_⟩
    · rw [Rat.neg_num, Rat.neg_den, ← Int.zero_sub]
      exact SqT.of upd_same
    · have r : PAt K H' v (a + -b) := r
      rw [e1] at r; exact r
theorem ok_lOver {f : Addr} {fd : FuncData} (F : Fun K "_law_over" "_law_over" sLOver f fd) (C : CLow P w K mg base) : FnOk P w K mg base CX0 2 f fd ["one", "other"] (sp2o K) := by
  refine F.ok scLOver (fun vs H Q E h => ?_) (fun cdv A outer s H vs Q E hr h => ?_)
  · obtain ⟨x, y, a, b, rfl, _⟩ := h
    rfl
  · obtain ⟨x, y, a, b, rfl, ⟨⟨p, rfl, hp⟩, fa⟩, ⟨⟨q, rfl, hq⟩, fb⟩, hb, hfit, k⟩ := h
    refine ⟨_, pss_one (ps_ret (pe_ifExp (pt_cmpR op_gt (pe_ix ix_tup (pv 1) pe_int (fun _ _ => rfl)) pe_int (nomark _))
      (pe_call C.ok hr rfl C.hm C.kp C.b .nil pass0 (pa_cons (pe_op op_mulW (pe_ix ix_tup (pv 0) pe_int (fun _ _ => rfl)) (pe_ix ix_tup (pv 1) pe_int (fun _ _ => rfl)))
        (pa_cons (pe_op op_mulW (pe_ix ix_tup (pv 0) pe_int (fun _ _ => rfl)) (pe_ix ix_tup (pv 1) pe_int (fun _ _ => rfl))) pa_nil)))
      (pe_call C.ok hr rfl C.hm C.kp C.b .nil pass0 (pa_cons (pe_op op_sub pe_int (pe_op op_mulW (pe_ix ix_tup (pv 0) pe_int (fun _ _ => rfl)) (pe_ix ix_tup (pv 1) pe_int (fun _ _ => rfl))))
        (pa_cons (pe_op op_sub pe_int (pe_op op_mulW (pe_ix ix_tup (pv 0) pe_int (fun _ _ => rfl)) (pe_ix ix_tup (pv 1) pe_int (fun _ _ => rfl)))) pa_nil))))), ?_⟩
    refine ⟨_, rfl, _, _, _, _, rfl, rfl, hq, atI_nat (j := 0) rfl, _, _, rfl, rfl, _, rfl, ?_⟩
    have nb := num_ne hb
    have dp := a.den_pos
    by_cases h : 0 < b.num
    · rw [decide_eq_true h]
      refine iteT ?_
      refine ⟨_, rfl, _, _, _, _, rfl, rfl, hp, atI_nat (j := 0) rfl, _, rfl, _, _, _, _, rfl, rfl, hq, atI_nat (j := 1) rfl, _, _, rfl, rfl, wide_nd fa fb,
        _, rfl, _, _, _, _, rfl, rfl, hp, atI_nat (j := 1) rfl, _, rfl, _, _, _, _, rfl, rfl, hq, atI_nat (j := 0) rfl, _, _, rfl, rfl, wide_dn fa fb,
        _, _, rfl, Int.mul_pos (by omega) h, lt_1000 (wide_lt (Fit.den_lt fa) (Fit.num_lt fb)), (by rw [div_mk]; exact hfit), fun v H' g r => k v H' g ?_⟩
      rw [div_mk] at r
      exact r
    · rw [decide_eq_false h]
      refine iteF ?_
      have e1 : Rat.divInt (0 - a.num * (b.den : Int)) (0 - (a.den : Int) * b.num) = a / b := by
        rw [Int.zero_sub, Int.zero_sub, Rat.neg_divInt_neg, div_mk]
      refine ⟨_, rfl, _, _, _, _, rfl, rfl, hp, atI_nat (j := 0) rfl, _, rfl, _, _, _, _, rfl, rfl, hq, atI_nat (j := 1) rfl, _, _, rfl, rfl, wide_nd fa fb, _, _, rfl, rfl,
        _, rfl, _, _, _, _, rfl, rfl, hp, atI_nat (j := 1) rfl, _, rfl, _, _, _, _, rfl, rfl, hq, atI_nat (j := 0) rfl, _, _, rfl, rfl, wide_dn fa fb, _, _, rfl, rfl,
        _, _, rfl, ?_, ?_, (by rw [e1]; exact hfit), fun v H' g r => k v H' g ?_⟩
      · have : 0 < (a.den : Int) * (-b.num) := Int.mul_pos (by omega) (by omega)
        rw [Int.mul_neg] at this
        omega
      · rw [Int.zero_sub, Int.natAbs_neg]
        exact lt_1000 (wide_lt (Fit.den_lt fa) (Fit.num_lt fb))
      · rw [e1] at r
        exact r
theorem ok_lLess {f : Addr} {fd : FuncData} (F : Fun K "_law_less" "_law_less" sLLess f fd) : FnOk P w K mg base CX0 1 f fd ["one", "other"] (spLess K) := by
  refine F.ok scLLess (fun vs H Q E h => ?_) (fun cdv A outer s H vs Q E hr h => ?_)
  · obtain ⟨x, y, a, b, rfl, _⟩ := h
    rfl
  · obtain ⟨x, y, a, b, rfl, ⟨⟨p, rfl, hp⟩, fa⟩, ⟨⟨q, rfl, hq⟩, fb⟩, k⟩ := h
    refine ⟨_, pss_one (ps_ret (pe_cmpR op_lt (pe_op op_mulW (pe_ix ix_tup (pv 0) pe_int (fun _ _ => rfl)) (pe_ix ix_tup (pv 1) pe_int (fun _ _ => rfl)))
      (pe_op op_mulW (pe_ix ix_tup (pv 1) pe_int (fun _ _ => rfl)) (pe_ix ix_tup (pv 0) pe_int (fun _ _ => rfl))) (nomark _))), ?_⟩
    refine ⟨_, rfl, _, _, _, _, rfl, rfl, hp, atI_nat (j := 0) rfl, _, rfl, _, _, _, _, rfl, rfl, hq, atI_nat (j := 1) rfl, _, _, rfl, rfl, wide_nd fa fb,
      _, rfl, _, _, _, _, rfl, rfl, hq, atI_nat (j := 0) rfl, _, rfl, _, _, _, _, rfl, rfl, hp, atI_nat (j := 1) rfl, _, _, rfl, rfl, wide_nd fb fa, _, _, rfl, rfl, ?_⟩
    dsimp only
    rw [show decide (a.num * (b.den : Int) < b.num * (a.den : Int)) = decide (a < b) from decide_eq_decide.mpr (Rat.lt_iff a b).symm]
    exact k
end
end K44


set_option Elab.async false
set_option linter.all false
set_option maxRecDepth 100000
set_option maxHeartbeats 4000000
set_option exponentiation.threshold 3000
/-! The law's helpers: alike, most, row, parts. -/
namespace K44
open PySem L2
open LP (Fit lim S)
abbrev sLAlike : Stmt := top 39
abbrev sLMost : Stmt := top 47
abbrev sLRow : Stmt := top 48
abbrev sLParts : Stmt := top 49
def spAlikeI : Sp := fun vs H Q _ => ∃ a b : Int, vs = [.int a, .int b] ∧ Q (.bl (decide (a = b))) H
def spAlikeP (K : PySem.W.Frag) : Sp := fun vs H Q _ => ∃ (x y : V) (a b : Rat), vs = [x, y] ∧ PAt K H x a ∧ PAt K H y b ∧ Ans H (fun v _ => v = .bl (decide (a = b))) Q
def spLMost (K : PySem.W.Frag) : Sp := fun vs H Q _ => ∃ (x : V) (n : Nat) (f : Nat → Rat), vs = [x] ∧ VL K H x n f ∧ 0 < n ∧ n ≤ 1000 ∧ Ans H (fun v H' => ∃ q, PAt K H' v q ∧ (∃ i, i < n ∧ f i = q) ∧ ∀ i, i < n → f i ≤ q) Q
/-- a list of pairs of whole numbers -/
def Prs (K : PySem.W.Frag) (H : Hp) (x : V) (ps : List (Nat × Int)) : Prop := ∃ a vs, x = .ref a ∧ SqL K H a vs ∧ vs.length = ps.length ∧ ∀ (i : Nat) (pr : Nat × Int), ps[i]? = some pr → ∃ t, vs[i]? = some (V.ref t) ∧ SqT K H t [.int (pr.1 : Nat), .int pr.2]
def rowF (ps : List (Nat × Int)) (k : Nat) : Int := (ps.map fun p => if p.1 = k then p.2 else 0).sum
theorem Prs.gw {K : PySem.W.Frag} {H H' : Hp} {x : V} {ps : List (Nat × Int)} (h : Prs K H x ps) (g : Gw H H') : Prs K H' x ps := by
  obtain ⟨a, vs, e, s, l, i⟩ := h
  exact ⟨a, vs, e, g.sqL s, l, fun j pr hj => let ⟨t, e, p⟩ := i j pr hj; ⟨t, e, g.sqT p⟩⟩
def spRow (K : PySem.W.Frag) : Sp := fun vs H Q _ => ∃ (n : Nat) (x : V) (ps : List (Nat × Int)), vs = [.int n, x] ∧ Prs K H x ps ∧ n ≤ 1000 ∧ ps.length ≤ 1000 ∧ (∀ pr, pr ∈ ps → pr.1 < n) ∧ (∀ k, k < n → (rowF ps k).natAbs ≤ lim) ∧ Ans H (fun v H' => VT K H' v n fun k => ((rowF ps k : Int) : Rat)) Q
def spParts (K : PySem.W.Frag) : Sp := fun vs H Q _ => ∃ (a : Addr) (ns : List Int), vs = [.ref a] ∧ SqL K H a (ns.map V.int) ∧ ns.length ≤ 1000 ∧ (∀ z, z ∈ ns → z.natAbs ≤ lim) ∧ Ans H (fun v H' => VT K H' v ns.length fun i => ((ns.getD i 0 : Int) : Rat)) Q
/-- a whole number as a part -/
theorem PAt.int {K : PySem.W.Frag} {H : Hp} {t : Addr} {z : Int} (h : SqT K H t [.int z, .int 1]) (hz : z.natAbs ≤ lim) : PAt K H (.ref t) (z : Rat) := by
  refine ⟨⟨t, rfl, ?_⟩, ?_⟩
  · rw [Rat.num_intCast, Rat.den_intCast]; exact h
  · refine ⟨by rw [Rat.num_intCast]; exact hz, by rw [Rat.den_intCast]; decide +kernel⟩
section
variable {P : Program} {w : World} {K : PySem.W.Frag} {mg : Str → Option Value} {base : Heap}
theorem scLAlike : FnScope ["found", "due", "k"] ["found", "due"] (defScope sLAlike) := ⟨rfl, rfl, rfl, by decide +kernel, rfl, by decide +kernel, by decide +kernel⟩
theorem scLMost : FnScope ["rows", "found", "row"] ["rows"] (defScope sLMost) := ⟨rfl, rfl, rfl, by decide +kernel, rfl, by decide +kernel, by decide +kernel⟩
theorem scLRow : FnScope ["many", "pairs", "found", "place", "number"] ["many", "pairs"] (defScope sLRow) := ⟨rfl, rfl, rfl, by decide +kernel, rfl, by decide +kernel, by decide +kernel⟩
theorem scLParts : FnScope ["numbers", "number"] ["numbers"] (defScope sLParts) := ⟨rfl, rfl, rfl, by decide +kernel, rfl, by decide +kernel, by decide +kernel⟩
theorem ok_lAlikeI {f : Addr} {fd : FuncData} (F : Fun K "_law_alike" "_law_alike" sLAlike f fd) (T : Txt K mg) : FnOk P w K mg base CX0 1 f fd ["found", "due"] spAlikeI := by
  refine F.ok scLAlike (fun vs H Q E h => ?_) (fun cdv A outer s H vs Q E hr h => ?_)
  · obtain ⟨a, b, rfl, _⟩ := h
    rfl
  · obtain ⟨a, b, rfl, k⟩ := h
    refine ⟨_, pss_cons (ps_if (PW.pt (pw_or (pt_val (pe_callB (isiK K) (by rfl) T.isi (by decide +kernel) (pa_cons (pv 1) (pa_cons (pe_bltn (v := .ty "list") (by rfl) T.list (by decide +kernel) rfl) pa_nil))))
        (pw_or1 (pt_val (pe_callB (isiK K) (by rfl) T.isi (by decide +kernel) (pa_cons (pv 1) (pa_cons (pe_bltn (v := .ty "tuple") (by rfl) T.tuple (by decide +kernel) rfl) pa_nil))))))) (pss_cons ps_never (pss_one ps_never)) pss_nil)
      (pss_cons (ps_if (pt_cmp (pc_isN (pv 1))) (pss_one ps_never) pss_nil)
      (pss_cons (ps_if (PW.pt (pw_or (pt_val (pe_callB (isiK K) (by rfl) T.isi (by decide +kernel) (pa_cons (pv 1) (pa_cons (pe_bltn (v := .ty "bool") (by rfl) T.bool (by decide +kernel) rfl) pa_nil))))
        (pw_or1 (pt_val (pe_callB (isiK K) (by rfl) T.isi (by decide +kernel) (pa_cons (pv 0) (pa_cons (pe_bltn (v := .ty "bool") (by rfl) T.bool (by decide +kernel) rfl) pa_nil))))))) (pss_one ps_never) pss_nil)
      (pss_cons (ps_if (pt_val (pe_callB (isiK K) (by rfl) T.isi (by decide +kernel) (pa_cons (pv 1) (pa_cons (pe_bltn (v := .ty "int") (by rfl) T.int (by decide +kernel) rfl) pa_nil))))
        (pss_one (ps_ret (pe_and (pe_callB (isiK K) (by rfl) T.isi (by decide +kernel) (pa_cons (pv 0) (pa_cons (pe_bltn (v := .ty "int") (by rfl) T.int (by decide +kernel) rfl) pa_nil))) (pe_one (pe_cmpR op_eq (pv 0) (pv 1) (nomark _)))))) pss_nil)
      (pss_one ps_never)))), ?_⟩
    refine ⟨_, rfl, _, _, _, _, _, rfl, .ty _, .base (.int _), kit_ty (r := false) (by decide +kernel), _, rfl, iteF ?_⟩
    refine ⟨_, rfl, _, _, _, _, _, rfl, .ty _, .base (.int _), kit_ty (r := false) (by decide +kernel), _, rfl, iteF ?_⟩
    refine ⟨_, rfl, _, rfl, iteF ?_⟩
    refine ⟨_, rfl, _, _, _, _, _, rfl, .ty _, .base (.int _), kit_ty (r := false) (by decide +kernel), _, rfl, iteF ?_⟩
    refine ⟨_, rfl, _, _, _, _, _, rfl, .ty _, .base (.int _), kit_ty (r := false) (by decide +kernel), _, rfl, iteF ?_⟩
    refine ⟨_, rfl, _, _, _, _, _, rfl, .ty _, .base (.int _), kit_ty (r := true) (by decide +kernel), _, rfl, iteT ?_⟩
    refine ⟨_, rfl, _, _, _, _, _, rfl, .ty _, .base (.int _), kit_ty (r := true) (by decide +kernel), _, rfl, iteT ?_⟩
    refine ⟨_, rfl, _, rfl, rfl, ?_⟩
    rw [show decide (V.int a = V.int b) = decide (a = b) from decide_eq_decide.mpr ⟨fun z => V.int.inj z, fun z => by rw [z]⟩]
    exact k
theorem ints_dp {H : Hp} : ∀ ns : List Int, DpAll K H (ns.map V.int) (ns.map PyData.int)
  | [] => .nil
  | n :: ns => .cons (.int n) (ints_dp ns)
theorem ints_shaped (ns : List Int) : SeqAt.shaped (.list (ns.map PyData.int)) = true := by
  have h1 : ∀ ns : List Int, PyData.canLayAll0 (ns.map PyData.int) = true := fun ns => by
    induction ns with
    | nil => rfl
    | cons n ns ih => show (PyData.canLay0 (.int n) && _) = true; rw [ih]; rfl
  have h2 : ∀ ns : List Int, PyData.depthAll (ns.map PyData.int) ≤ 1 := fun ns => by
    induction ns with
    | nil => exact Nat.zero_le _
    | cons n ns ih => show max (PyData.depth (.int n)) (PyData.depthAll (ns.map PyData.int)) ≤ 1; have : PyData.depth (.int n) = 0 := rfl; omega
  unfold SeqAt.shaped
  rw [show PyData.canLay0 (.list (ns.map PyData.int)) = true from h1 ns, Bool.true_and]
  refine decide_eq_true ?_
  show PyData.depthAll (ns.map PyData.int) + 1 ≤ 64
  have := h2 ns
  omega
theorem ok_lAlikeP {f : Addr} {fd : FuncData} (F : Fun K "_law_alike" "_law_alike" sLAlike f fd) (T : Txt K mg) (C : Cal P w K mg base "_law_alike" 1 ["found", "due"] spAlikeI) : FnOk P w K mg base CX0 2 f fd ["found", "due"] (spAlikeP K) := by
  refine F.ok scLAlike (fun vs H Q E h => ?_) (fun cdv A outer s H vs Q E hr h => ?_)
  · obtain ⟨x, y, a, b, rfl, _⟩ := h
    rfl
  · obtain ⟨x, y, a, b, rfl, ⟨⟨p, rfl, hp⟩, fa⟩, ⟨⟨q, rfl, hq⟩, fb⟩, k⟩ := h
    refine ⟨_, pss_cons (ps_if (PW.pt (pw_or (pt_val (pe_callB (isiK K) (by rfl) T.isi (by decide +kernel) (pa_cons (pv 1) (pa_cons (pe_bltn (v := .ty "list") (by rfl) T.list (by decide +kernel) rfl) pa_nil))))
        (pw_or1 (pt_val (pe_callB (isiK K) (by rfl) T.isi (by decide +kernel) (pa_cons (pv 1) (pa_cons (pe_bltn (v := .ty "tuple") (by rfl) T.tuple (by decide +kernel) rfl) pa_nil)))))))
        (pss_cons (ps_if (PW.pt (pw_or (pt_cmpR op_ne (pe_callB (isiK K) (by rfl) T.isi (by decide +kernel) (pa_cons (pv 0) (pa_cons (pe_bltn (v := .ty "list") (by rfl) T.list (by decide +kernel) rfl) pa_nil)))
              (pe_callB (isiK K) (by rfl) T.isi (by decide +kernel) (pa_cons (pv 1) (pa_cons (pe_bltn (v := .ty "list") (by rfl) T.list (by decide +kernel) rfl) pa_nil))) (nomark _))
            (pw_or1 (pt_cmpR op_ne (pe_callB (isiK K) (by rfl) T.isi (by decide +kernel) (pa_cons (pv 0) (pa_cons (pe_bltn (v := .ty "tuple") (by rfl) T.tuple (by decide +kernel) rfl) pa_nil)))
              (pe_callB (isiK K) (by rfl) T.isi (by decide +kernel) (pa_cons (pv 1) (pa_cons (pe_bltn (v := .ty "tuple") (by rfl) T.tuple (by decide +kernel) rfl) pa_nil))) (nomark _))))) (pss_one ps_never) pss_nil)
        (pss_one (ps_ret (pe_and (pe_cmpR op_eq (pe_callB (lenK K) (by rfl) T.len PySem.boot_len (pa_cons (pv 0) pa_nil)) (pe_callB (lenK K) (by rfl) T.len PySem.boot_len (pa_cons (pv 1) pa_nil)) (nomark _))
          (pe_one (pe_cmpR (eqK K hr.units) (pe_lc (own := [("k", 2)]) (g := gName 2) rfl scLAlike.nd (pi_range1 rfl T.range (pa_cons (pe_callB (lenK K) (by rfl) T.len PySem.boot_len (pa_cons (pv 1) pa_nil)) pa_nil)) (blkOk_by (N := ["found", "due", "k"]) (by kernel_rfl))
            (fun _ _ _ _ _ => pg_name (i := 2) scLAlike.nd rfl (Or.inl rfl)) (fun _ _ _ _ _ => pts_one (pt_not (pt_val (pe_call C.ok hr rfl C.hm C.kp C.b .nil pass0 (pa_cons (pe_ix (ixT K) (pv 0) (pv 2) (fun _ _ => rfl)) (pa_cons (pe_ix (ixT K) (pv 1) (pv 2) (fun _ _ => rfl)) pa_nil)))))) (fun _ _ _ _ _ => pv 2)) (pe_lst pa_nil) (nomark _))))))) pss_nil)
      (pss_cons ps_never (pss_cons ps_never (pss_cons ps_never (pss_one ps_never)))), ?_⟩
    refine ⟨_, rfl, _, _, _, _, _, rfl, .ty _, tyx_tup hq, kit_ty (r := false) (by decide +kernel), _, rfl, iteF ?_⟩
    refine ⟨_, rfl, _, _, _, _, _, rfl, .ty _, tyx_tup hq, kit_ty (r := true) (by decide +kernel), _, rfl, iteT ?_⟩
    refine ⟨_, rfl, _, _, _, _, _, rfl, .ty _, tyx_tup hp, kit_ty (r := false) (by decide +kernel), _, rfl, _, _, _, _, _, rfl, .ty _, tyx_tup hq, kit_ty (r := false) (by decide +kernel), rfl, _, rfl, iteF ?_⟩
    refine ⟨_, rfl, _, _, _, _, _, rfl, .ty _, tyx_tup hp, kit_ty (r := true) (by decide +kernel), _, rfl, _, _, _, _, _, rfl, .ty _, tyx_tup hq, kit_ty (r := true) (by decide +kernel), rfl, _, rfl, iteF ?_⟩
    refine ⟨_, rfl, p, _, rfl, .inr hp, _, rfl, q, _, rfl, .inr hq, rfl, _, rfl, iteT ?_⟩
    refine ⟨_, rfl, q, _, rfl, .inr hq, _, rfl, (by show -(2 ^ 62) ≤ ((2 : Nat) : Int); decide), (by show ((2 : Nat) : Int) < 2 ^ 62; decide), fun D hD => ?_⟩
    let al : Nat → Prop := fun i => (i = 0 → a.num = b.num) ∧ (i = 1 → a.den = b.den)
    refine lc_it (walk_rangeN (N := 2) rfl) (fun j H6 => ∃ ns : List Int, H6 D = some (.lst (ns.map V.int)) ∧ ns.length ≤ j ∧ Gw H (rm H6 D) ∧ (ns = [] ↔ ∀ i, i < j → al i)) ⟨[], upd_same, Nat.le_refl _, by rw [rm_upd, rm_none hD]; exact Gw.refl _, fun _ i hi => absurd hi (Nat.not_lt_zero _), fun _ => rfl⟩ (fun _ _ _ _ => True.intro) ?_ ?_
    · rintro j y H6 H7 hj ⟨ns, hx6, lx6, g6, alt⟩ ⟨rfl, rfl⟩
      have g7 : Gw H H7 := g6.trans Gw.rm_le
      have fin : ∀ b : Bool, (b = true ↔ al j) → (if (!b) = true then ∃ acc, H7 D = some (HO.lst acc) ∧ acc.length < sizeLine ∧ (∃ ns' : List Int, upd H7 D (.lst (acc ++ [V.int (j : Nat)])) D = some (.lst (ns'.map V.int)) ∧ ns'.length ≤ j + 1 ∧ Gw H (rm (upd H7 D (.lst (acc ++ [V.int (j : Nat)]))) D) ∧ (ns' = [] ↔ ∀ i, i < j + 1 → al i))
          else ∃ ns' : List Int, H7 D = some (.lst (ns'.map V.int)) ∧ ns'.length ≤ j + 1 ∧ Gw H (rm H7 D) ∧ (ns' = [] ↔ ∀ i, i < j + 1 → al i)) := fun b hb => by
        cases b with
        | true =>
          refine iteF ⟨ns, hx6, by omega, g6, ?_⟩
          rw [alt]
          refine ⟨fun h i hi => ?_, fun h i hi => h i (by omega)⟩
          by_cases q : i < j
          · exact h i q
          · have : i = j := by omega
            subst this; exact hb.mp rfl
        | false =>
          refine iteT ⟨_, hx6, ?_, ns ++ [((j : Nat) : Int)], by rw [List.map_append]; exact upd_same, by rw [List.length_append]; exact Nat.add_le_add lx6 (Nat.le_refl 1), by rw [rm_upd]; exact g6, ?_⟩
          · rw [List.length_map]; exact Nat.lt_of_le_of_lt (Nat.le_trans lx6 (show j ≤ 2 by omega)) (by decide)
          · refine ⟨fun h => by simp at h, fun h => absurd (hb.mpr (h j (Nat.lt_succ_self j))) (by decide)⟩
      have hj2 : j = 0 ∨ j = 1 := by omega
      rcases hj2 with rfl | rfl
      · refine ⟨rfl, _, rfl, _, rfl, _, _, _, _, rfl, rfl, g7.sqT hp, atI_nat (j := 0) rfl, _, rfl, _, rfl, _, _, _, _, rfl, rfl, g7.sqT hq, atI_nat (j := 0) rfl, _, _, rfl, _, rfl, ?_⟩
        have := fin (decide (a.num = b.num)) ⟨fun h => ⟨fun _ => of_decide_eq_true h, fun z => by omega⟩, fun h => decide_eq_true (h.1 rfl)⟩
        by_cases h : a.num = b.num
        · rw [decide_eq_true h] at this ⊢; exact this
        · rw [decide_eq_false h] at this ⊢
          exact ⟨_, rfl, this⟩
      · refine ⟨rfl, _, rfl, _, rfl, _, _, _, _, rfl, rfl, g7.sqT hp, atI_nat (j := 1) rfl, _, rfl, _, rfl, _, _, _, _, rfl, rfl, g7.sqT hq, atI_nat (j := 1) rfl, _, _, rfl, _, rfl, ?_⟩
        have := fin (decide (a.den = b.den)) ⟨fun h => ⟨fun z => by omega, fun _ => of_decide_eq_true h⟩, fun h => decide_eq_true (h.2 rfl)⟩
        rw [show decide (((a.den : Nat) : Int) = ((b.den : Nat) : Int)) = decide (a.den = b.den) from decide_eq_decide.mpr ⟨fun h => by omega, fun h => by omega⟩]
        by_cases h : a.den = b.den
        · rw [decide_eq_true h] at this ⊢; exact this
        · rw [decide_eq_false h] at this ⊢
          exact ⟨_, rfl, this⟩
    · rintro H6 ⟨ns, hx6, lx6, g6, alt⟩
      have g7 : Gw H H6 := g6.trans Gw.rm_le
      refine ⟨(show 0 ≤ sizeLine by decide), fun l hl => ?_⟩
      have g8 : Gw H6 (upd H6 l (.lst [])) := Gw.new _ hl
      refine ⟨.list (ns.map PyData.int), .list [], .lst (SqL.of (g8.at hx6)) (ints_dp ns), .lst (SqL.of upd_same) .nil, ints_shaped ns, rfl, ?_⟩
      have e1 : PyData.eqv (.list (ns.map PyData.int)) (.list []) = decide (a = b) := by
        by_cases h : a = b
        · rw [decide_eq_true h]
          have : ns = [] := alt.mpr fun i _ => ⟨fun _ => by rw [h], fun _ => by rw [h]⟩
          rw [this]; rfl
        · rw [decide_eq_false h]
          have : ns ≠ [] := fun z => h (Rat.ext ((alt.mp z 0 (by omega)).1 rfl) ((alt.mp z 1 (by omega)).2 rfl))
          cases ns with
          | nil => exact absurd rfl this
          | cons n ns => rfl
      rw [e1]
      exact k _ _ (g7.trans g8) rfl
theorem ok_lMost {f : Addr} {fd : FuncData} (F : Fun K "_law_most" "_law_most" sLMost f fd) (T : Txt K mg) (C : Cal P w K mg base "_law_less" 1 ["one", "other"] (spLess K)) : FnOk P w K mg base CX0 2 f fd ["rows"] (spLMost K) := by
  refine F.ok scLMost (fun vs H Q E h => ?_) (fun cdv A outer s H vs Q E hr h => ?_)
  · obtain ⟨x, n, f, rfl, _⟩ := h
    rfl
  · obtain ⟨x, n, f, rfl, ⟨a, vs, rfl, hs, hl, hi⟩, hn, hn2, k⟩ := h
    refine ⟨_, pss_cons (ps_set (i := 1) scLMost.nd rfl (Or.inl rfl) (pe_ix (ixL K) (pv 0) pe_int (fun _ _ => rfl)))
      (pss_cons (ps_for PassesOwn.never rfl (pi_list (pv 0)) (pg_name (i := 2) scLMost.nd rfl (Or.inl rfl))
        (pss_one (ps_set (i := 1) scLMost.nd rfl (Or.inl rfl) (pe_ifExp (pt_val (pe_call C.ok hr rfl C.hm C.kp C.b .nil pass0 (pa_cons (pv 1) (pa_cons (pv 2) pa_nil)))) (pv 2) (pv 1)))))
      (pss_one (ps_ret (pv 1)))), ?_⟩
    obtain ⟨x0, e0, p0⟩ := hi 0 hn
    refine ⟨_, rfl, _, _, _, _, rfl, rfl, hs, atZ e0, ?_⟩
    refine ⟨_, rfl, a, rfl, ⟨vs, hs⟩, ?_⟩
    refine for_it (walk_listY (K := K) hl) (fun i σ H' => H' = H ∧ ∃ v u q, σ = [some (.ref a), some v, u] ∧ PAt K H v q ∧ (∃ j, j < n ∧ f j = q) ∧ ∀ j, j < i → f j ≤ q)
      ⟨rfl, x0, none, f 0, rfl, p0, ⟨0, hn, rfl⟩, fun j hj => absurd hj (Nat.not_lt_zero _)⟩ (fun _ _ _ _ h => by rw [h.1]; exact hs) ?_ ?_
    · rintro i y σ H1 H' hi' ⟨rfl, v, u, q, rfl, pq, ⟨j, hj, ej⟩, hq⟩ ⟨rfl, hy⟩
      obtain ⟨y', ey, py⟩ := hi i hi'
      rw [hy] at ey; cases ey
      refine ⟨_, rfl, _, rfl, _, _, q, f i, rfl, pq, py, ?_⟩
      by_cases h : q < f i
      · rw [decide_eq_true h]
        refine ⟨_, rfl, iteT ⟨_, rfl, rfl, _, _, f i, rfl, py, ⟨i, hi', rfl⟩, fun l hl' => ?_⟩⟩
        by_cases z : l < i
        · exact Rat.le_trans (hq l z) (Rat.le_of_lt h)
        · have : l = i := by omega
          subst this; exact Rat.le_refl
      · rw [decide_eq_false h]
        refine ⟨_, rfl, iteF ⟨_, rfl, rfl, _, _, q, rfl, pq, ⟨j, hj, ej⟩, fun l hl' => ?_⟩⟩
        by_cases z : l < i
        · exact hq l z
        · have : l = i := by omega
          subst this; exact Rat.not_lt.mp h
    · rintro σ H1 ⟨rfl, v, u, q, rfl, pq, ex, hq⟩
      exact ⟨_, rfl, k _ _ (Gw.refl _) ⟨q, pq, ex, hq⟩⟩
theorem flat_oneI {z : Int} (n : Nat) : (List.replicate n [V.int z]).flatten = List.replicate n (V.int z) := flat_one n
theorem rowF_take {ps : List (Nat × Int)} {i : Nat} {pr : Nat × Int} (h : ps[i]? = some pr) (k : Nat) : rowF (ps.take (i + 1)) k = rowF (ps.take i) k + if pr.1 = k then pr.2 else 0 := by
  unfold rowF
  rw [List.take_succ, h, List.map_append, List.sum_append]
  simp
theorem ok_lRow {f : Addr} {fd : FuncData} (F : Fun K "_law_row" "_law_row" sLRow f fd) (T : Txt K mg) : FnOk P w K mg base CX0 1 f fd ["many", "pairs"] (spRow K) := by
  refine F.ok scLRow (fun vs H Q E h => ?_) (fun cdv A outer s H vs Q E hr h => ?_)
  · obtain ⟨n, x, ps, rfl, _⟩ := h
    rfl
  · obtain ⟨n, x, ps, rfl, ⟨a, vs, rfl, hs, hl, hi⟩, hn, hN, hlt, hb, k⟩ := h
    refine ⟨_, pss_cons (ps_set (i := 2) scLRow.nd rfl (Or.inl rfl) (pe_op op_rep (pe_lst (pa_cons pe_int pa_nil)) (pv 0)))
      (pss_cons (ps_for PassesOwn.never rfl (pi_list (pv 1)) (pg_tup rfl (pgs_cons (pg_name (i := 3) scLRow.nd rfl (Or.inl rfl)) (pgs_cons (pg_name (i := 4) scLRow.nd rfl (Or.inl rfl)) pgs_nil)))
        (pss_one (ps_asg (pe_op op_add (pe_ix (ixL K) (pv 2) (pv 3) (fun _ _ => rfl)) (pv 4)) (pg_sub (pv 2) (pv 3) set_list))))
      (pss_one (ps_ret (pe_callTy call_tuple_of (by rfl) T.tuple (by decide +kernel) (pa_cons (pe_lc (own := [("number", 4)]) (g := gName 4) (tt := tYes) rfl scLRow.nd (listK K (pv 2)) (blkOk_by (N := ["many", "pairs", "found", "place", "number"]) (by kernel_rfl))
          (fun _ _ _ _ _ => pg_name (i := 4) scLRow.nd rfl (Or.inl rfl)) (fun _ _ _ _ _ => pts_nil) (fun _ _ _ _ _ => pe_tup (pa_cons (pv 4) (pa_cons pe_int pa_nil)))) pa_nil))))), ?_⟩
    refine ⟨(show 1 ≤ sizeLine by decide), fun L0 hL0 => ⟨_, rfl, L0, n, _, rfl, rfl, upd_same, by omega, by omega, ?_, fun L hL => ?_⟩⟩
    · show 1 * ((n : Int)).toNat ≤ sizeLine
      exact Nat.le_trans (show 1 * ((n : Int)).toNat ≤ 1000 by omega) (by decide)
    rw [flat_oneI]
    have g00 : Gw H (upd H L0 (.lst [.int 0])) := Gw.new _ hL0
    have g0 : Gw H (rm (upd (upd H L0 (.lst [.int 0])) L (.lst (List.replicate ((n : Int)).toNat (.int 0)))) L) := by
      rw [rm_upd, rm_none hL]; exact g00
    have x0 : upd (upd H L0 (.lst [.int 0])) L (.lst (List.replicate ((n : Int)).toNat (.int 0))) L = some (.lst (List.replicate ((n : Int)).toNat (.int 0))) := upd_same
    generalize upd (upd H L0 (.lst [.int 0])) L (.lst (List.replicate ((n : Int)).toNat (.int 0))) = H1 at g0 x0 ⊢
    refine ⟨_, rfl, a, rfl, ⟨vs, (g0.trans Gw.rm_le).sqL hs⟩, ?_⟩
    refine for_it (walk_listY (K := K) hl) (fun i σ H' => (∃ xs, H' L = some (.lst xs) ∧ xs.length = n ∧ Gw H (rm H' L) ∧ ∀ j, j < n → xs[j]? = some (.int (rowF (ps.take i) j))) ∧ ∃ u3 u4, σ = [some (.int n), some (.ref a), some (.ref L), u3, u4])
      ⟨⟨_, x0, by rw [List.length_replicate]; omega, g0, fun j hj => by rw [List.getElem?_replicate, if_pos (by omega)]; rfl⟩, none, none, rfl⟩ (fun i σ H' _ ⟨⟨xs, _, _, g, _⟩, _⟩ => (g.trans Gw.rm_le).sqL hs) ?_ ?_
    · rintro i y σ H2 H' hi' ⟨⟨xs, hx, lx, g1, ix⟩, u3, u4, rfl⟩ ⟨rfl, hy⟩
      have hp : ps[i]? = some ps[i] := List.getElem?_eq_getElem (by omega)
      generalize ps[i] = pr at hp
      obtain ⟨t, et, st⟩ := hi i pr hp
      rw [hy] at et; cases et
      have hpl := hlt pr (List.mem_of_getElem? hp)
      refine ⟨t, _, rfl, (g1.trans Gw.rm_le).sqT st, rfl, _, _, rfl, _, _, rfl, rfl, ?_⟩
      refine ⟨_, rfl, _, rfl, _, _, _, _, rfl, rfl, SqL.of hx, at_of rfl (ix pr.1 hpl), _, rfl, _, _, rfl, rfl, _, rfl, _, rfl, L, xs, _, pr.1, rfl, rfl, hx, by rw [lx]; exact ixNat hpl, ?_⟩
      refine ⟨⟨_, upd_same, by rw [List.length_set]; exact lx, by rw [rm_upd]; exact g1, fun j hj => ?_⟩, _, _, rfl⟩
      rw [rowF_take hp]
      by_cases q : j = pr.1
      · subst q
        rw [List.getElem?_set_self (by omega), if_pos rfl]
      · rw [List.getElem?_set_ne (Ne.symm q), if_neg (Ne.symm q), Int.add_zero]
        exact ix j hj
    · rintro σ H2 ⟨⟨xs, hx, lx, g1, ix⟩, u3, u4, rfl⟩
      have g2 := g1.trans Gw.rm_le
      rw [← hl, show List.take vs.length ps = ps from by rw [hl]; exact List.take_length] at ix
      refine ⟨_, rfl, L, rfl, ⟨xs, SqL.of hx⟩, fun D1 hD1 => lc_grow (walk_listY (K := K) lx) hD1 (by omega) (fun j v H => PAt K H v ((rowF ps j : Int) : Rat)) (fun _ _ _ _ g r => r.gw g) (fun H3 g3 => SqL.of (g3.at hx)) (fun j x H3 H4 hj _ g3 ⟨zs, hz⟩ hY C4 hC4 => ?_) (fun H3 zs g3 g4 hz hlen hit => ?_)⟩
      · obtain ⟨rfl, hx'⟩ := hY
        rw [ix j hj] at hx'; cases hx'
        refine ⟨rfl, _, rfl, (show 2 ≤ sizeLine by decide), fun t ht => ?_⟩
        have gt := Gw.new (.tup [V.int (rowF ps j), V.int 1]) ht
        exact hC4 _ _ gt ((PAt.int (SqT.of upd_same) (hb j hj)).rm (gt.at hz))
      · refine ⟨D1, zs, rfl, .inl ⟨SqL.of hz, fun l hl => k _ _ ((g2.trans g3).trans (Gw.new _ hl)) ⟨l, zs, rfl, SqT.of upd_same, hlen, fun i hi => ?_⟩⟩⟩
        obtain ⟨y, e, r⟩ := hit i hi
        exact ⟨y, e, (r.gw Gw.rm_le).gw (Gw.new _ hl)⟩
theorem ok_lParts {f : Addr} {fd : FuncData} (F : Fun K "_law_parts" "_law_parts" sLParts f fd) (T : Txt K mg) : FnOk P w K mg base CX0 1 f fd ["numbers"] (spParts K) := by
  refine F.ok scLParts (fun vs H Q E h => ?_) (fun cdv A outer s H vs Q E hr h => ?_)
  · obtain ⟨a, ns, rfl, _⟩ := h
    rfl
  · obtain ⟨a, ns, rfl, hs, hn, hb, k⟩ := h
    refine ⟨_, pss_one (ps_ret (pe_callTy call_tuple_of (by rfl) T.tuple (by decide +kernel) (pa_cons (pe_lc (own := [("number", 1)]) (g := gName 1) (tt := tYes) rfl scLParts.nd (listK K (pv 0)) (blkOk_by (N := ["numbers", "number"]) (by kernel_rfl))
          (fun _ _ _ _ _ => pg_name (i := 1) scLParts.nd rfl (Or.inl rfl)) (fun _ _ _ _ _ => pts_nil) (fun _ _ _ _ _ => pe_tup (pa_cons (pv 1) (pa_cons pe_int pa_nil)))) pa_nil))), ?_⟩
    have ix : ∀ j, j < ns.length → (ns.map V.int)[j]? = some (V.int (ns.getD j 0)) := fun j hj => by
      rw [List.getElem?_map, List.getD_eq_getElem?_getD, List.getElem?_eq_getElem hj]; rfl
    refine ⟨_, rfl, a, rfl, ⟨_, hs⟩, fun D1 hD1 => lc_grow (walk_listY (K := K) (List.length_map (as := ns) V.int)) hD1 (by omega) (fun j v H => PAt K H v ((ns.getD j 0 : Int) : Rat)) (fun _ _ _ _ g r => r.gw g) (fun H3 g3 => g3.sqL hs) (fun j x H3 H4 hj _ g3 ⟨zs, hz⟩ hY C4 hC4 => ?_) (fun H3 zs g3 g4 hz hlen hit => ?_)⟩
    · obtain ⟨rfl, hx'⟩ := hY
      rw [ix j hj] at hx'; cases hx'
      refine ⟨rfl, _, rfl, (show 2 ≤ sizeLine by decide), fun t ht => ?_⟩
      have gt := Gw.new (.tup [V.int (ns.getD j 0), V.int 1]) ht
      refine hC4 _ _ gt ((PAt.int (SqT.of upd_same) (hb _ ?_)).rm (gt.at hz))
      rw [List.getD_eq_getElem?_getD, List.getElem?_eq_getElem hj]
      exact List.getElem_mem hj
    · refine ⟨D1, zs, rfl, .inl ⟨SqL.of hz, fun l hl => k _ _ (g3.trans (Gw.new _ hl)) ⟨l, zs, rfl, SqT.of upd_same, hlen, fun i hi => ?_⟩⟩⟩
      obtain ⟨y, e, r⟩ := hit i hi
      exact ⟨y, e, (r.gw Gw.rm_le).gw (Gw.new _ hl)⟩
end
end K44


set_option Elab.async false
set_option linter.all false
set_option maxRecDepth 100000
set_option maxHeartbeats 4000000
set_option exponentiation.threshold 3000
/-! The law's telling. -/
namespace K44
open PySem L2
open LP (Fit lim S Sm)
abbrev sLTold : Stmt := top 56
def Due (K : PySem.W.Frag) (H : Hp) (v : V) (q : Rat) : Prop := (∃ z : Int, v = .int z ∧ q = (z : Rat)) ∨ PAt K H v q
def spTold (K : PySem.W.Frag) (t : Tabs) : Sp := fun vs H Q _ => ∃ (R r g dv : V) (m n : Nat) (col : Nat → Nat → Rat) (c want : Nat → Rat), vs = [R, r, g, dv] ∧ SysAt K H R r g m n col c want ∧ 0 < m ∧ m ≤ 59 ∧ LP.Bnds n m col want ∧ (∀ j, j < m → LP.IsI (c j) ∧ LP.Bd 10 (c j)) ∧ TabsOk t H ∧
  ((dv = .non ∧ LP.Unb n m col want c) ∨ ∃ q : Rat, Due K H dv q ∧ q.den ≤ 100 ∧ q.num.natAbs ≤ 1000 ∧ LP.Opt n m col want c q) ∧ Ans H (fun v _ => v = .bl true) Q
section
variable {P : Program} {w : World} {K : PySem.W.Frag} {mg : Str → Option Value} {base : Heap}
theorem third : ((1 : Rat) / 3).num = 1 ∧ ((1 : Rat) / 3).den = 3 := by decide +kernel
theorem fifth : ((1 : Rat) / 5).num = 1 ∧ ((1 : Rat) / 5).den = 5 := by decide +kernel
theorem fit_small {q : Rat} (h1 : q.den ≤ 100) (h2 : q.num.natAbs ≤ 1000) : Fit q := ⟨Nat.le_trans h2 (by decide +kernel), Nat.le_trans h1 (by decide +kernel)⟩
theorem fit_shift {q : Rat} (h1 : q.den ≤ 100) (h2 : q.num.natAbs ≤ 1000) {e : Rat} {k : Nat} (hk : e.den = k) (hn : e.num = 1) (hk0 : k ≤ 5) : Fit (q - e) ∧ Fit (e - q) := by
  have he : Fit e := ⟨by rw [hn]; decide +kernel, by rw [hk]; exact Nat.le_trans hk0 (by decide +kernel)⟩
  have a1 : LP.Hd (q.den : Rat) ((1000 : Nat) : Rat) q := LP.hd_part h2
  have a2 : LP.Hd (e.den : Rat) ((1 : Nat) : Rat) e := LP.hd_part (by rw [hn]; decide)
  have i1 := LP.isI_nat q.den
  have i2 := LP.isI_nat e.den
  have b1 : LP.Bd ((100 : Nat) : Rat) (q.den : Rat) := LP.bd_nat h1
  have b2 : LP.Bd ((5 : Nat) : Rat) (e.den : Rat) := LP.bd_nat (by rw [hk]; exact hk0)
  have p1 := LP.den_pos_rat q
  have p2 := LP.den_pos_rat e
  have c1 := a1.scale (D := (q.den : Rat)) i2 b2
  have c2 := a2.scale' (D := (e.den : Rat)) i1 b1
  have ne : (e.den : Rat) * (q.den : Rat) ≠ 0 := fun z => by
    have := Rat.mul_pos p2 p1
    rw [z] at this
    exact Rat.lt_irrefl this
  exact ⟨LP.fitH (i2.mul i1) ne (LP.bd_mul b2 b1) (by decide +kernel) (by decide +kernel) (c1.sub c2), LP.fitH (i2.mul i1) ne (LP.bd_mul b2 b1) (by decide +kernel) (by decide +kernel) (c2.sub c1)⟩
theorem third_ne {q : Rat} : decide (q = q - 1 / 3) = false := decide_eq_false (by grind)
theorem third_part {K : PySem.W.Frag} {H : Hp} {t : Addr} (h : H t = some (.tup [.int 1, .int 3])) : PAt K H (.ref t) ((1 : Rat) / 3) := ⟨⟨t, rfl, by rw [third.1, third.2]; exact SqT.of h⟩, ⟨by rw [third.1]; decide +kernel, by rw [third.2]; decide +kernel⟩⟩
theorem fifth_part {K : PySem.W.Frag} {H : Hp} {t : Addr} (h : H t = some (.tup [.int 1, .int 5])) : PAt K H (.ref t) ((1 : Rat) / 5) := ⟨⟨t, rfl, by rw [fifth.1, fifth.2]; exact SqT.of h⟩, ⟨by rw [fifth.1]; decide +kernel, by rw [fifth.2]; decide +kernel⟩⟩
theorem op_catTK {X : Cx} (K : PySem.W.Frag) (h : X.K = K := by rfl) : OpR X (binaryOp .Add) (rCatT K) := by subst h; exact op_catT
theorem scLTold : FnScope ["rows", "right", "goal", "due", "told", "more", "less", "none", "part_v"] ["rows", "right", "goal", "due"] (defScope sLTold) := ⟨rfl, rfl, rfl, by decide +kernel, rfl, by decide +kernel, by decide +kernel⟩
theorem ok_lTold {t : Tabs} {f : Addr} {fd : FuncData} (F : Fun K "_law_told" "_law_told" sLTold f fd) (T : Txt K mg) (C1 : Cal P w K mg base "least" 8 ["rows", "right", "goal"] (spLeast K t)) (C2 : CIsSystem P w K mg base t)
    (C3 : Cal P w K mg base "_law_says" 1 ["found", "due"] spSays) (C4 : Cal P w K mg base "_law_alike" 2 ["found", "due"] (spAlikeP K)) (C5 : Cal P w K mg base "_law_minus" 3 ["one", "other"] (sp2 K (· - ·)))
    (C6 : Cal P w K mg base "proves_least" 7 ["rows", "right", "goal", "worth", "places", "weights"] (spProvesLeast K t)) (C7 : Cal P w K mg base "proves_none" 7 ["rows", "right", "goal", "weights"] (spProvesNone K t)) (C8 : Cal P w K mg base "proves_endless" 7 ["rows", "right", "goal", "places", "way"] (spProvesEndless K t)) :
    FnOk P w K mg base CX0 9 f fd ["rows", "right", "goal", "due"] (spTold K t) := by
  refine F.ok scLTold (fun vs H Q E h => ?_) (fun cdv A outer s H vs Q E hr h => ?_)
  · obtain ⟨R, r, g, dv, m, n, col, c, want, rfl, _⟩ := h
    rfl
  · obtain ⟨R, r, g, dv, m, n, col, c, want, rfl, sys, hm0, hm, bn, hc, ht, hdue, k⟩ := h


    refine ⟨_, pss_cons (ps_set (i := 4) scLTold.nd rfl (Or.inl rfl) (pe_call C1.ok hr rfl C1.hm C1.kp C1.b .nil pass0 (pa_cons (pv 0) (pa_cons (pv 1) (pa_cons (pv 2) pa_nil)))))
      (pss_cons (ps_if (pt_not (pt_val (pe_call C3.ok (hr.mono (by decide)) rfl C3.hm C3.kp C3.b .nil pass0 (pa_cons (pe_call C2.ok (hr.mono (by decide)) rfl C2.hm C2.kp C2.b .nil pass0 (pa_cons (pv 0) (pa_cons (pv 1) (pa_cons (pv 2) pa_nil)))) (pa_cons pe_bl pa_nil))))) (pss_one ps_never) pss_nil)
      (pss_cons (ps_if (pt_cmp (pc_isN (pv 3))) (pss_one (ps_ret (pe_and (pe_cmpR op_eq (pe_ix (ixT K) (pv 4) pe_int (fun _ _ => rfl)) pe_str (nomark _)) (pe_one (pe_call C3.ok (hr.mono (by decide)) rfl C3.hm C3.kp C3.b .nil pass0 (pa_cons
            (pe_call C8.ok (hr.mono (by decide)) rfl C8.hm C8.kp C8.b .nil pass0 (pa_cons (pv 0) (pa_cons (pv 1) (pa_cons (pv 2) (pa_cons (pe_ix (ixT K) (pv 4) pe_int (fun _ _ => rfl)) (pa_cons (pe_ix (ixT K) (pv 4) pe_int (fun _ _ => rfl)) pa_nil)))))) (pa_cons pe_bl pa_nil))))))) pss_nil)
      (pss_cons (ps_set (i := 3) scLTold.nd rfl (Or.inl rfl) (pe_ifExp (pt_val (pe_callB (isiK K) (by rfl) T.isi (by decide +kernel) (pa_cons (pv 3) (pa_cons (pe_bltn (v := .ty "tuple") (by rfl) T.tuple (by decide +kernel) rfl) pa_nil)))) (pv 3) (pe_tup (pa_cons (pv 3) (pa_cons pe_int pa_nil)))))
      (pss_cons (ps_if (PW.pt (pw_or (pt_cmpR op_ne (pe_ix (ixT K) (pv 4) pe_int (fun _ _ => rfl)) pe_str (nomark _)) (pw_or (pt_not (pt_val (pe_call C4.ok (hr.mono (by decide)) rfl C4.hm C4.kp C4.b .nil pass0 (pa_cons (pe_ix (ixT K) (pv 4) pe_int (fun _ _ => rfl)) (pa_cons (pv 3) pa_nil)))))
          (pw_or1 (pt_not (pt_val (pe_call C3.ok (hr.mono (by decide)) rfl C3.hm C3.kp C3.b .nil pass0 (pa_cons
            (pe_call C6.ok (hr.mono (by decide)) rfl C6.hm C6.kp C6.b .nil pass0 (pa_cons (pv 0) (pa_cons (pv 1) (pa_cons (pv 2) (pa_cons (pv 3) (pa_cons (pe_ix (ixT K) (pv 4) pe_int (fun _ _ => rfl)) (pa_cons (pe_ix (ixT K) (pv 4) pe_int (fun _ _ => rfl)) pa_nil))))))) (pa_cons pe_bl pa_nil))))))))) (pss_one ps_never) pss_nil)
      (pss_cons (ps_if (pt_not (pt_val (pe_call C3.ok (hr.mono (by decide)) rfl C3.hm C3.kp C3.b .nil pass0 (pa_cons
            (pe_call C6.ok (hr.mono (by decide)) rfl C6.hm C6.kp C6.b .nil pass0 (pa_cons (pv 0) (pa_cons (pv 1) (pa_cons (pv 2) (pa_cons (pe_call C5.ok (hr.mono (by decide)) rfl C5.hm C5.kp C5.b .nil pass0 (pa_cons (pv 3) (pa_cons (pe_tup (pa_cons pe_int (pa_cons pe_int pa_nil))) pa_nil))) (pa_cons (pe_ix (ixT K) (pv 4) pe_int (fun _ _ => rfl)) (pa_cons (pe_ix (ixT K) (pv 4) pe_int (fun _ _ => rfl)) pa_nil))))))) (pa_cons pe_bl pa_nil))))) (pss_one ps_never) pss_nil)
      (pss_cons (ps_par (i := 5) (j := 6) rfl scLTold.nd rfl rfl (by decide) rfl rfl (pa_cons
            (pe_op (op_catTK K) (pv 0) (pe_tup (pa_cons (pe_callTy call_tuple_of (by rfl) T.tuple (by decide +kernel) (pa_cons (pe_lc (own := [("part_v", 8)]) (g := gName 8) (tt := tYes) rfl scLTold.nd (tupK K (pv 2)) (blkOk_by (N := ["rows", "right", "goal", "due", "told", "more", "less", "none", "part_v"]) (by kernel_rfl))
              (fun _ _ _ _ _ => pg_name (i := 8) scLTold.nd rfl (Or.inl rfl)) (fun _ _ _ _ _ => pts_nil) (fun _ _ _ _ _ => pe_tup (pa_cons (pe_op op_sub pe_int (pe_ix (ixT K) (pv 8) pe_int (fun _ _ => rfl))) (pa_cons (pe_ix (ixT K) (pv 8) pe_int (fun _ _ => rfl)) pa_nil)))) pa_nil)) pa_nil))) (pa_cons
            (pe_op (op_catTK K) (pv 1) (pe_tup (pa_cons (pe_call C5.ok (hr.mono (by decide)) rfl C5.hm C5.kp C5.b .nil pass0 (pa_cons (pe_tup (pa_cons pe_int (pa_cons pe_int pa_nil))) (pa_cons (pv 3) pa_nil))) pa_nil))) pa_nil)) rfl)
      (pss_cons (ps_set (i := 7) scLTold.nd rfl (Or.inl rfl) (pe_call C1.ok hr rfl C1.hm C1.kp C1.b .nil pass0 (pa_cons (pv 5) (pa_cons (pv 6) (pa_cons (pv 2) pa_nil)))))
      (pss_one (ps_ret (pe_and (pe_cmpR op_eq (pe_ix (ixT K) (pv 7) pe_int (fun _ _ => rfl)) pe_str (nomark _)) (pe_one (pe_call C3.ok (hr.mono (by decide)) rfl C3.hm C3.kp C3.b .nil pass0 (pa_cons
            (pe_call C7.ok (hr.mono (by decide)) rfl C7.hm C7.kp C7.b .nil pass0 (pa_cons (pv 5) (pa_cons (pv 6) (pa_cons (pv 2) (pa_cons (pe_ix (ixT K) (pv 7) pe_int (fun _ _ => rfl)) pa_nil))))) (pa_cons pe_bl pa_nil)))))))))))))), ?_⟩
    obtain ⟨ag, vg, rfl, hg, lg, ig⟩ := id sys.goal
    obtain ⟨aR, vR, rfl, hR, lR, iR⟩ := id sys.rows
    obtain ⟨ar, vr, rfl, hrr, lr, ir⟩ := id sys.right
    have n9 := bn.n9
    have n1000 := sys.n1
    have m1000 := sys.m1
    have str_ne : ∀ {x y : Str}, x ≠ y → decide (V.str x = V.str y) = false := fun h => decide_eq_false fun z => h (V.str.inj z)
    have smc : ∀ j, j < m → Sm n (col j) := fun j hj => Sm.int fun k hk => ⟨(bn.col j k hj hk).1, LP.bd_mono (by decide +kernel) (bn.col j k hj hk).2⟩
    have smr : ∀ k, k < n → Sm m (fun j => col j k) := fun k hk => Sm.int fun j hj => ⟨(bn.col j k hj hk).1, LP.bd_mono (by decide +kernel) (bn.col j k hj hk).2⟩
    have smw : Sm n want := Sm.int fun k hk => ⟨(bn.want k hk).1, LP.bd_mono (by decide +kernel) (bn.want k hk).2⟩
    have smv : Sm m c := (LP.cb_int hc).sm
    refine ⟨_, rfl, _, rfl, _, rfl, _, _, _, m, n, col, c, want, 1, rfl, sys, by omega, bn, LP.cb_int hc, ht, fun v1 H1 g1 r1 => ?_⟩
    refine ⟨_, rfl, _, rfl, _, rfl, _, _, _, m, n, col, c, want, rfl, (sys.gw g1).rows, (sys.gw g1).right, (sys.gw g1).goal, sys.pos, sys.m1, sys.n1, ht.gw g1, fun v H2 g2 e => ?_⟩
    subst e
    refine ⟨true, true, rfl, _, rfl, iteF ?_⟩
    have g2' := g1.trans g2
    rcases hdue with ⟨rfl, un⟩ | ⟨q, hdv, hqd, hqn, op⟩
    · refine ⟨_, rfl, _, rfl, iteT ?_⟩
      cases r1 with
      | none e s hd sd d0 dw dc => exact (LP.not_none un.ex.choose_spec d0 dw dc).elim
      | least e s hq hx hy sx sy x0 xw yc qx qy => exact (un.not_least x0 xw).elim
      | endless e s hy hz sy sz yc zc zw =>
        subst e
        have s2 := g2.sqT s
        refine ⟨_, rfl, _, _, _, _, rfl, rfl, s2, atZ rfl, rfl, _, rfl, ?_⟩
        rw [decide_eq_true rfl]
        refine iteT ?_
        refine ⟨_, rfl, _, rfl, _, rfl, _, rfl, _, _, _, _, rfl, rfl, s2, atI_nat (j := 1) rfl, _, rfl, _, _, _, _, rfl, rfl, s2, atI_nat (j := 2) rfl, ?_⟩
        refine ⟨_, _, _, _, _, m, n, col, c, want, _, _, rfl, sys.gw g2', hy.gw g2, hz.gw g2, ht.gw g2', yc, zc, zw, fun j hj => (smc j hj).fits n1000 sy, fun j hj => (smc j hj).fits n1000 sz, smw.fits n1000 sz, hm0, fun v H3 g3 e => ?_⟩
        subst e
        exact ⟨true, true, rfl, k _ _ (g2'.trans g3) rfl⟩
    · have hz : ∀ z : Int, q = (z : Rat) → z.natAbs ≤ lim := fun z e => by
        rw [e, Rat.num_intCast] at hqn
        exact Nat.le_trans hqn (by decide +kernel)
      rcases hdv with ⟨z, rfl, eq⟩ | pd
      case' inl =>
        refine ⟨_, rfl, _, rfl, iteF ?_⟩
        refine ⟨_, rfl, _, _, _, _, _, rfl, .ty _, .base (.int _), kit_ty (r := false) (by decide +kernel), _, rfl, iteF ?_⟩
        refine ⟨_, rfl, (show 2 ≤ sizeLine by decide), fun p hp => ?_⟩
        have gp := Gw.new (.tup [V.int z, V.int 1]) hp
        have pd : PAt K (upd H2 p (.tup [V.int z, V.int 1])) (.ref p) q := by rw [eq]; exact PAt.int (SqT.of upd_same) (hz z eq)
      case' inr =>
        obtain ⟨⟨p, rfl, hp⟩, fq⟩ := id pd
        refine ⟨_, rfl, _, rfl, iteF ?_⟩
        refine ⟨_, rfl, _, _, _, _, _, rfl, .ty _, tyx_tup (g2'.sqT hp), kit_ty (r := true) (by decide +kernel), _, rfl, iteT ?_⟩
        refine ⟨_, rfl, ?_⟩
        have gp := Gw.refl H2
        have pd := pd.gw g2'
      all_goals
        have gq := g2'.trans gp
        have g12 := g2.trans gp
        cases r1 with
        | none e s hd sd d0 dw dc => exact (LP.not_none op.ex.choose_spec d0 dw dc).elim
        | endless e s hy hz sy sz yc zc zw => exact (op.not_endless yc zc zw).elim
        | least e s hq hx hy sx sy x0 xw yc qx qy =>
          have eq' := op.eq x0 xw yc qx qy
          subst eq'
          subst e
          have s2 := g12.sqT s
          have sys2 := sys.gw gq
          refine ⟨_, rfl, _, _, _, _, rfl, rfl, s2, atZ rfl, rfl, _, rfl, ?_⟩
          rw [decide_eq_true rfl]
          refine iteF ?_
          refine ⟨_, rfl, _, _, _, _, rfl, rfl, s2, atI_nat (j := 1) rfl, _, rfl, _, _, _, _, rfl, hq.gw g12, pd, fun v H5 g5 e => ?_⟩
          subst e
          rw [decide_eq_true rfl]
          refine ⟨_, rfl, iteF ?_⟩
          have s5 := g5.sqT s2
          have sys5 := sys2.gw g5
          have pd5 := pd.gw g5
          refine ⟨_, rfl, _, rfl, _, rfl, _, rfl, _, rfl, _, _, _, _, rfl, rfl, s5, atI_nat (j := 2) rfl, _, rfl, _, _, _, _, rfl, rfl, s5, atI_nat (j := 3) rfl, ?_⟩
          refine ⟨_, _, _, _, _, _, m, n, col, c, want, _, _, _, rfl, sys5, pd5, hy.gw (g12.trans g5), hx.gw (g12.trans g5), ht.gw (gq.trans g5), x0, yc, xw, fun j hj => (smc j hj).fits n1000 sy, fun k hk => sx.fits m1000 (smr k hk), smw.fits n1000 sy, smv.fits m1000 sx, fun v H6 g6 e => ?_⟩
          rw [decide_eq_true qy, decide_eq_true qx.symm] at e
          subst e
          refine ⟨true, true, rfl, _, rfl, iteF ?_⟩
          have s6 := g6.sqT s5
          have sys6 := sys5.gw g6
          have pd6 := pd5.gw g6
          have g16 := g12.trans (g5.trans g6)
          have gq6 := gq.trans (g5.trans g6)
          obtain ⟨fs1, _⟩ := fit_shift hqd hqn third.2 third.1 (by decide)
          obtain ⟨_, fs2⟩ := fit_shift hqd hqn fifth.2 fifth.1 (by decide)
          refine ⟨_, rfl, _, rfl, _, rfl, _, rfl, (show 2 ≤ sizeLine by decide), fun t3 ht3 => ?_⟩
          have gt3 := Gw.new (.tup [V.int 1, V.int 3]) ht3
          refine ⟨_, _, _, _, rfl, pd6.gw gt3, third_part upd_same, fs1, fun v7 H7 g7 p7 => ?_⟩
          have g17 := g16.trans (gt3.trans g7)
          have gq7 := gq6.trans (gt3.trans g7)
          have s7 := (gt3.trans g7).sqT s6
          have sys7 := sys.gw gq7
          refine ⟨_, rfl, _, _, _, _, rfl, rfl, s7, atI_nat (j := 2) rfl, _, rfl, _, _, _, _, rfl, rfl, s7, atI_nat (j := 3) rfl, ?_⟩
          refine ⟨_, _, _, _, _, _, m, n, col, c, want, _, _, _, rfl, sys7, p7, hy.gw g17, hx.gw g17, ht.gw gq7, x0, yc, xw, fun j hj => (smc j hj).fits n1000 sy, fun k hk => sx.fits m1000 (smr k hk), smw.fits n1000 sy, smv.fits m1000 sx, fun v H8 g8 e => ?_⟩
          rw [qy, third_ne, Bool.false_and] at e
          subst e
          refine ⟨false, false, rfl, _, rfl, iteF ?_⟩
          have gq8 := gq7.trans g8
          have sys8 := sys.gw gq8
          have pd8 := pd6.gw (gt3.trans (g7.trans g8))
          -- more, less
          obtain ⟨ag8, vg8, e8, hg8, lg8, ig8⟩ := sys8.goal
          cases e8
          refine ⟨_, rfl, _, rfl, ag, rfl, ⟨_, hg8⟩, fun D1 hD1 => lc_grow (walk_tupY lg8) hD1 (by omega) (fun i v H => PAt K H v (0 - want i)) (fun _ _ _ _ g r => r.gw g) (fun H9 g9 => g9.sqT hg8) (fun i x H9 H10 hi _ g9 ⟨zs, hzs⟩ hY C9 hC9 => ?_) (fun H9 zs g9 g9' hzs lzs izs => ?_)⟩
          · obtain ⟨rfl, hx'⟩ := hY
            obtain ⟨x', ex, ⟨⟨ax, rfl, hax⟩, fx⟩⟩ := ig8 i hi
            rw [hx'] at ex; cases ex
            have hax := g9.sqT hax
            refine ⟨rfl, _, rfl, _, _, _, _, rfl, rfl, hax, atI_nat (j := 0) rfl, _, _, rfl, rfl, _, rfl, _, _, _, _, rfl, rfl, hax, atI_nat (j := 1) rfl, (show 2 ≤ sizeLine by decide), fun p hp => ?_⟩
            have gp := Gw.new (.tup [V.int (0 - (want i).num), V.int ((want i).den : Int)]) hp
            refine hC9 _ _ gp (PAt.rm (ys := zs) ⟨⟨p, rfl, ?_⟩, ?_⟩ (gp.at hzs))
            · rw [show (0 : Rat) - want i = - want i by grind, Rat.neg_num, Rat.neg_den, ← Int.zero_sub]
              exact SqT.of upd_same
            · rw [show (0 : Rat) - want i = - want i by grind]; exact fit_negR fx
          refine ⟨D1, zs, rfl, .inl ⟨SqL.of hzs, fun l1 hl1 => ⟨(show 1 ≤ sizeLine by decide), fun l2 hl2 => ?_⟩⟩⟩
          have gl1 := Gw.new (.tup zs) hl1
          have gl2 := Gw.new (.tup [V.ref l1]) hl2
          have vneg : VT K (upd (upd H9 l1 (.tup zs)) l2 (.tup [V.ref l1])) (.ref l1) n (fun i => 0 - want i) := VT.gw ⟨l1, zs, rfl, SqT.of upd_same, lzs, fun i hi => let ⟨y, e, r⟩ := izs i hi; ⟨y, e, (r.gw Gw.rm_le).gw gl1⟩⟩ gl2
          have gqa := gq8.trans (g9.trans (gl1.trans gl2))
          refine ⟨aR, l2, vR, _, rfl, rfl, gqa.sqT hR, SqT.of upd_same, (fun z => by rw [z] at lR; simp at lR; omega), ?_, (fun z => nomatch z), fun _ l3 hl3 => ?_⟩
          · rw [lR]; exact Nat.le_trans (show m + 1 ≤ 60 by omega) (by decide)
          have gl3 := Gw.new (.tup (vR ++ [V.ref l1])) hl3
          have gqb := gqa.trans gl3
          refine ⟨_, rfl, (show 2 ≤ sizeLine by decide), fun t5 ht5 => ⟨_, rfl, ?_⟩⟩
          have gt5 := Gw.new (.tup [V.int 1, V.int 5]) ht5
          refine ⟨_, _, _, _, rfl, fifth_part upd_same, pd8.gw ((g9.trans (gl1.trans gl2)).trans (gl3.trans gt5)), fs2, fun v10 H11 g11 p11 => ⟨(show 1 ≤ sizeLine by decide), fun l4 hl4 => ?_⟩⟩
          have gl4 := Gw.new (.tup [v10]) hl4
          have gqc := gqb.trans (gt5.trans (g11.trans gl4))
          refine ⟨ar, l4, vr, _, rfl, rfl, gqc.sqT hrr, SqT.of upd_same, (fun z => by rw [z] at lr; simp at lr; omega), ?_, (fun z => nomatch z), fun _ l5 hl5 => ⟨_, _, rfl, ?_⟩⟩
          · rw [lr]; exact Nat.le_trans (show m + 1 ≤ 60 by omega) (by decide)
          have gl5 := Gw.new (.tup (vr ++ [v10])) hl5
          have gqd := gqc.trans gl5
          have sysM : SysAt K _ (.ref l3) (.ref l5) (.ref ag) (m + 1) n (LP.colM m col want) (LP.cM m c _) want := {
            rows := ⟨l3, vR ++ [V.ref l1], rfl, (gt5.trans (g11.trans (gl4.trans gl5))).sqT (SqT.of upd_same), by rw [List.length_append, lR]; rfl, fun j hj => by
              by_cases h : j < m
              · obtain ⟨y, e, r⟩ := iR j h
                refine ⟨y, by rw [List.getElem?_append_left (by omega)]; exact e, (r.gw gqd).congr fun k _ => ?_⟩
                unfold LP.colM; rw [if_pos h]
              · have : j = m := by omega
                subst this
                refine ⟨.ref l1, by rw [List.getElem?_append_right (by omega), lR, Nat.sub_self]; rfl, (vneg.gw (gl3.trans (gt5.trans (g11.trans (gl4.trans gl5))))).congr fun k _ => ?_⟩
                unfold LP.colM; rw [if_neg (Nat.lt_irrefl _)]⟩
            right := ⟨l5, vr ++ [v10], rfl, SqT.of upd_same, by rw [List.length_append, lr]; rfl, fun j hj => by
              by_cases h : j < m
              · obtain ⟨y, e, r⟩ := ir j h
                refine ⟨y, by rw [List.getElem?_append_left (by omega)]; exact e, ?_⟩
                unfold LP.cM; rw [if_pos h]
                exact r.gw gqd
              · have : j = m := by omega
                subst this
                refine ⟨v10, by rw [List.getElem?_append_right (by omega), lr, Nat.sub_self]; rfl, ?_⟩
                unfold LP.cM; rw [if_neg (Nat.lt_irrefl _)]
                exact p11.gw (gl4.trans gl5)⟩
            goal := sys.goal.gw gqd
            pos := sys.pos
            m1 := by omega
            n1 := sys.n1 }
          have bM := LP.colM_bnds bn
          have cbM := LP.cM_cb hc hqd hqn
          refine ⟨_, rfl, _, rfl, _, rfl, _, _, _, m + 1, n, _, _, want, _, rfl, sysM, by omega, bM, cbM, ht.gw gqd, fun v12 H12 g12' r12 => ?_⟩
          have gqe := gqd.trans g12'
          cases r12 with
          | endless e s3 hy3 hz3 sy3 sz3 yc3 zc3 zw3 => exact (op.more yc3).elim
          | least e s3 hq3 hx3 hy3 sx3 sy3 x03 xw3 yc3 qx3 qy3 => exact (op.more yc3).elim
          | none e s3 hd3 sd3 d03 dw3 dc3 =>
            subst e
            refine ⟨_, rfl, _, _, _, _, rfl, rfl, s3, atZ rfl, rfl, _, rfl, ?_⟩
            rw [decide_eq_true rfl]
            refine iteT ?_
            refine ⟨_, rfl, _, rfl, _, rfl, _, rfl, _, _, _, _, rfl, rfl, s3, atI_nat (j := 1) rfl, ?_⟩
            refine ⟨_, _, _, _, m + 1, n, _, _, want, _, rfl, sysM.gw g12', hd3, ht.gw gqe, d03, dw3, dc3, fun k hk => ?_, cbM.sm.fits (by omega) sd3, fun v H13 g13 e => ?_⟩
            · refine sd3.fits (by omega) (Sm.int fun j hj => ?_)
              exact ⟨(bM.col j k hj hk).1, LP.bd_mono (by decide +kernel) (bM.col j k hj hk).2⟩
            · subst e
              exact ⟨true, true, rfl, k _ _ (gqe.trans g13) rfl⟩
end
end K44


set_option Elab.async false
set_option linter.all false
set_option maxRecDepth 100000
set_option maxHeartbeats 4000000
set_option exponentiation.threshold 3000
/-! The law's draws. -/
namespace K44
open PySem L2
open LP (Fit lim S)
abbrev sLDraws : Stmt := top 37
def spDraws (K : PySem.W.Frag) : Sp := fun vs H Q _ => ∃ (a : Addr) (ns : List Int), vs = [.ref a] ∧ SqL K H a (ns.map V.int) ∧ ns.length ≤ 1000 ∧ ∀ (D : Addr) (H' : Hp), H D = none → Gw H (rm H' D) → Draws H' D → Q (.ref D) H'
/-- a list of at most N whole numbers at L, the rest grown -/
def Nums (H0 : Hp) (L : Addr) (N : Nat) (H : Hp) : Prop := ∃ ns : List Int, H L = some (.lst (ns.map V.int)) ∧ ns.length ≤ N ∧ Gw H0 (rm H L)
theorem Nums.app {H0 H : Hp} {L : Addr} {N : Nat} {ns : List Int} {z : Int} (h1 : H L = some (.lst (ns.map V.int))) (h2 : ns.length ≤ N) (h3 : Gw H0 (rm H L)) : Nums H0 L (N + 1) (upd H L (.lst (ns.map V.int ++ [V.int z]))) :=
  ⟨ns ++ [z], by rw [List.map_append]; exact upd_same, by rw [List.length_append]; exact Nat.add_le_add h2 (Nat.le_refl 1), by rw [rm_upd]; exact h3⟩
theorem Nums.mono {H0 H : Hp} {L : Addr} {N M : Nat} (h : Nums H0 L N H) (hm : N ≤ M) : Nums H0 L M H := let ⟨ns, a, b, c⟩ := h; ⟨ns, a, Nat.le_trans b hm, c⟩
section
variable {P : Program} {w : World} {K : PySem.W.Frag} {mg : Str → Option Value} {base : Heap}
theorem scLDraws : FnScope ["script", "draws", "cell", "number", "first", "k", "seed"] ["script"] (defScope sLDraws) := ⟨rfl, rfl, rfl, by decide +kernel, rfl, by decide +kernel, by decide +kernel⟩
theorem mulR {i j : Int} (h : -(2 ^ 64) < j ∧ j < 2 ^ 64) : CMul i j := .inr h
theorem ok_lDraws {f : Addr} {fd : FuncData} (F : Fun K "_law_draws" "_law_draws" sLDraws f fd) (T : Txt K mg) : FnOk P w K mg base CX0 1 f fd ["script"] (spDraws K) := by
  refine F.ok scLDraws (fun vs H Q E h => ?_) (fun cdv A outer s H vs Q E hr h => ?_)
  · obtain ⟨a, ns, rfl, _⟩ := h
    rfl
  · obtain ⟨a, ns, rfl, hs, hn, k⟩ := h
    refine ⟨_, pss_cons (ps_set (i := 1) scLDraws.nd rfl (Or.inl rfl) (pe_lst pa_nil))
      (pss_cons (ps_for PassesOwn.never rfl (pi_list (pv 0)) (pg_name (i := 2) scLDraws.nd rfl (Or.inl rfl))
        (pss_cons (ps_set (i := 3) scLDraws.nd rfl (Or.inl rfl) (pe_callB call_abs (by rfl) T.abs (by decide +kernel) (pa_cons (pv 2) pa_nil)))
        (pss_cons (ps_if (pt_cmpR op_lt (pv 3) (pe_op op_pow pe_int pe_int) (nomark _))
          (pss_cons (ps_set (i := 4) scLDraws.nd rfl (Or.inl rfl) (pe_op op_mod (pe_callTy call_int1 (by rfl) T.int (by decide +kernel) (pa_cons (pe_op op_add (pe_op op_mul (pv 3) pe_int) pe_int) pa_nil)) pe_int))
          (pss_cons (ps_expr (pe_bm PySem.F.plainAttrs_list PySem.F.slot_list_append PySem.F.type_list_append mt_append (pv 1) (pa_cons (pe_op op_mod (pe_callTy call_int1 (by rfl) T.int (by decide +kernel) (pa_cons (pe_op op_add (pe_op op_mul (pv 4) pe_int) (pv 3)) pa_nil)) pe_int) pa_nil)))
          (pss_cons (ps_expr (pe_bm PySem.F.plainAttrs_list PySem.F.slot_list_append PySem.F.type_list_append mt_append (pv 1) (pa_cons (pe_op op_mod (pe_callTy call_int1 (by rfl) T.int (by decide +kernel) (pa_cons (pe_op op_add (pv 4) (pe_op op_fdiv (pv 3) pe_int)) pa_nil)) pe_int) pa_nil)))
          (pss_one (ps_set (i := 3) scLDraws.nd rfl (Or.inl rfl) pe_int))))) pss_nil)
        (pss_one (ps_for PassesOwn.never rfl (pi_range1 rfl T.range (pa_cons pe_int pa_nil)) (pg_name (i := 5) scLDraws.nd rfl (Or.inl rfl))
          (pss_one (ps_if (pt_cmpR op_gt (pv 3) pe_int (nomark _))
            (pss_cons (ps_expr (pe_bm PySem.F.plainAttrs_list PySem.F.slot_list_append PySem.F.type_list_append mt_append (pv 1) (pa_cons (pe_op op_mod (pe_callTy call_int1 (by rfl) T.int (by decide +kernel) (pa_cons (pv 3) pa_nil)) pe_int) pa_nil)))
            (pss_one (ps_set (i := 3) scLDraws.nd rfl (Or.inl rfl) (pe_op op_fdiv (pv 3) pe_int)))) pss_nil)))))))
      (pss_cons (ps_set (i := 6) scLDraws.nd rfl (Or.inl rfl) pe_int)
      (pss_cons (ps_if (pt_cmpR op_gt (pe_callB (lenK K) (by rfl) T.len PySem.boot_len (pa_cons (pv 0) pa_nil)) pe_int (nomark _))
        (pss_one (ps_set (i := 6) scLDraws.nd rfl (Or.inl rfl) (pe_op op_add pe_int (pe_callB call_abs (by rfl) T.abs (by decide +kernel) (pa_cons (pe_ix (ixL K) (pv 0) pe_int (fun _ _ => rfl)) pa_nil))))) pss_nil)
      (pss_cons (ps_for PassesOwn.never rfl (pi_range1 rfl T.range (pa_cons pe_int pa_nil)) (pg_name (i := 5) scLDraws.nd rfl (Or.inl rfl))
        (pss_cons (ps_set (i := 6) scLDraws.nd rfl (Or.inl rfl) (pe_op op_mod (pe_callTy call_int1 (by rfl) T.int (by decide +kernel) (pa_cons (pe_op op_add (pe_op op_mul (pv 6) pe_int) pe_int) pa_nil)) pe_int))
        (pss_one (ps_expr (pe_bm PySem.F.plainAttrs_list PySem.F.slot_list_append PySem.F.type_list_append mt_append (pv 1) (pa_cons (pe_op op_fdiv (pv 6) pe_int) pa_nil))))))
      (pss_one (ps_ret (LRev.pe_lstRev rfl rfl T.list rfl T.rev (pv 1)))))))), ?_⟩
    have szl : ∀ n : Nat, n ≤ 100000 → n < sizeLine := fun n h => Nat.lt_of_le_of_lt h (by decide)
    refine ⟨(show 0 ≤ sizeLine by decide), fun L hL => ?_⟩
    have n0 : Nums H L 0 (upd H L (.lst [])) := ⟨[], upd_same, Nat.le_refl _, by rw [rm_upd, rm_none hL]; exact Gw.refl _⟩
    refine ⟨_, rfl, a, rfl, ⟨_, (Gw.new _ hL).sqL hs⟩, ?_⟩
    refine for_it (walk_listY (K := K) (List.length_map (as := ns) V.int)) (fun i σ H' => Nums H L (62 * i) H' ∧ ∃ u2 u3 u4 u5 u6, σ = [some (.ref a), some (.ref L), u2, u3, u4, u5, u6])
      ⟨n0, none, none, none, none, none, rfl⟩ (fun i σ H' _ h => let ⟨_, _, _, g⟩ := h.1; (g.trans Gw.rm_le).sqL hs) ?_ ?_
    · rintro i x σ H1 H' hi ⟨⟨ms, m1, m2, m3⟩, u2, u3, u4, u5, u6, rfl⟩ ⟨rfl, hx⟩
      obtain ⟨z, rfl⟩ : ∃ z, x = V.int z := by
        rw [List.getElem?_map] at hx
        cases e : ns[i]? with
        | none => rw [e] at hx; cases hx
        | some z => rw [e] at hx; exact ⟨z, (Option.some.inj hx).symm⟩
      refine ⟨_, rfl, _, rfl, _, rfl, _, _, rfl, rfl, (show CPow 10 18 from ⟨by decide, by decide, by decide⟩), _, _, rfl, rfl, _, rfl, ?_⟩
      generalize (if z < 0 then -z else z) = nz
      by_cases hb : nz < 10 ^ 18
      case' pos =>
        rw [decide_eq_true (show nz < (10 : Int) ^ (18 : Int).toNat from hb)]
        refine iteT ?_
        refine ⟨_, rfl, _, _, rfl, rfl, mulR (by decide), _, _, rfl, rfl, .inl ⟨_, rfl, _, _, rfl, rfl, (show (0 : Int) < 2147483647 by decide), ?_⟩⟩
        refine ⟨_, rfl, .inl ⟨rfl, _, SqL.of m1⟩, _, rfl, _, _, rfl, rfl, mulR (by decide), _, rfl, _, _, rfl, rfl, .inl ⟨_, rfl, _, _, rfl, rfl, (show (0 : Int) < 2147483629 by decide), L, _, _, rfl, rfl, m1, szl _ (by rw [List.length_map]; omega), ?_⟩⟩
        obtain ⟨ms', m1', m2', m3'⟩ := Nums.app m1 m2 m3
        refine ⟨_, rfl, .inl ⟨rfl, _, SqL.of m1'⟩, _, rfl, _, rfl, _, _, rfl, rfl, ⟨by decide, by decide⟩, _, _, rfl, rfl, .inl ⟨_, rfl, _, _, rfl, rfl, (show (0 : Int) < 1000003 by decide), L, _, _, rfl, rfl, m1', szl _ (by rw [List.length_map]; omega), ?_⟩⟩
        have nm := Nums.app (z := ((nz * 48271 + 11) % 2147483647 + nz / 7) % 1000003) m1' m2' m3'
      case' neg =>
        rw [decide_eq_false (show ¬ nz < (10 : Int) ^ (18 : Int).toNat from hb)]
        refine iteF ?_
        have nm : Nums H L (62 * i + 2) _ := Nums.mono ⟨ms, m1, m2, m3⟩ (by omega)
      all_goals
        refine ⟨60, rfl, by decide, by decide, ?_⟩
        refine for_it (walk_rangeN (N := 60) rfl) (fun j σ H' => Nums H L (62 * i + 2 + j) H' ∧ ∃ u2 nz u4 u5 u6, σ = [some (.ref a), some (.ref L), u2, some (.int nz), u4, u5, u6])
          ⟨nm, _, _, _, _, _, rfl⟩ (fun _ _ _ _ _ => True.intro) ?_ (fun σ H' ⟨h, u2, nz, u4, u5, u6, e⟩ => ⟨h.mono (by omega), u2, _, u4, u5, u6, e⟩)
        rintro j y σ H2 H3 hj ⟨⟨ms, m1, m2, m3⟩, u2, nz, u4, u5, u6, rfl⟩ ⟨rfl, rfl⟩
        refine ⟨_, rfl, _, _, rfl, rfl, _, rfl, ?_⟩
        by_cases h : 0 < nz
        · rw [decide_eq_true h]
          refine iteT ?_
          refine ⟨_, rfl, .inl ⟨rfl, _, SqL.of m1⟩, _, rfl, .inl ⟨_, rfl, _, _, rfl, rfl, (show (0 : Int) < 997 by decide), L, _, _, rfl, rfl, m1, szl _ (by rw [List.length_map]; omega), ?_⟩⟩
          exact ⟨_, rfl, _, _, rfl, rfl, ⟨by decide, by decide⟩, Nums.app m1 m2 m3, _, _, _, _, _, rfl⟩
        · rw [decide_eq_false h]
          exact iteF ⟨Nums.mono ⟨ms, m1, m2, m3⟩ (by omega), _, _, _, _, _, rfl⟩
    · rintro σ H1 ⟨nm, u2, u3, u4, u5, u6, rfl⟩
      obtain ⟨ms, m1, m2, m3⟩ := id nm
      have g3 := m3.trans Gw.rm_le
      refine ⟨_, rfl, a, _, rfl, .inl (g3.sqL hs), _, _, rfl, rfl, _, rfl, ?_⟩
      rw [List.length_map]
      by_cases h : 0 < ns.length
      case' pos =>
        rw [decide_eq_true (show (0 : Int) < ((ns.length : Nat) : Int) by omega)]
        refine iteT ?_
        have e0 : (ns.map V.int)[0]? = some (V.int ns[0]) := by rw [List.getElem?_map, List.getElem?_eq_getElem h]; rfl
        refine ⟨_, rfl, _, _, _, _, rfl, rfl, g3.sqL hs, atZ e0, _, rfl, _, _, rfl, rfl, ?_⟩
      case' neg =>
        rw [decide_eq_false (show ¬ (0 : Int) < ((ns.length : Nat) : Int) by omega)]
        refine iteF ?_
      all_goals
        refine ⟨900, rfl, by decide, by decide, ?_⟩
        refine for_it (walk_rangeN (N := 900) rfl) (fun j σ H' => Nums H L (62 * ns.length + j) H' ∧ ∃ u2 u3 u4 u5 sd, σ = [some (.ref a), some (.ref L), u2, u3, u4, u5, some (.int sd)])
          ⟨nm, _, _, _, _, _, rfl⟩ (fun _ _ _ _ _ => True.intro) ?_ ?_
        · rintro j y σ H2 H3 hj ⟨⟨ms, m1, m2, m3⟩, u2, u3, u4, u5, sd, rfl⟩ ⟨rfl, rfl⟩
          refine ⟨_, rfl, _, _, rfl, rfl, mulR (by decide), _, _, rfl, rfl, .inl ⟨_, rfl, _, _, rfl, rfl, (show (0 : Int) < 2147483647 by decide), ?_⟩⟩
          refine ⟨_, rfl, .inl ⟨rfl, _, SqL.of m1⟩, _, rfl, _, _, rfl, rfl, ⟨by decide, by decide⟩, L, _, _, rfl, rfl, m1, szl _ (by rw [List.length_map]; omega), ?_⟩
          exact ⟨Nums.app m1 m2 m3, _, _, _, _, _, rfl⟩
        · rintro σ H2 ⟨⟨ms, m1, m2, m3⟩, u2, u3, u4, u5, sd, rfl⟩
          refine ⟨_, rfl, L, _, rfl, SqL.of m1, fun q hq => ?_⟩
          have gq := m3.trans Gw.rm_le
          refine k q _ (gq.free hq) (by rw [rm_upd, rm_none hq]; exact gq) ⟨ms.reverse, by rw [List.map_reverse]; exact upd_same⟩
end
end K44


set_option Elab.async false
set_option linter.all false
set_option maxRecDepth 100000
set_option maxHeartbeats 4000000
set_option exponentiation.threshold 3000
/-! The systems' builders: what they give; what a share secures. -/
namespace K44
open PySem L2
open LP (Fit lim S)
/-- a system, told with what is due -/
def BuildR (K : PySem.W.Frag) (H : Hp) (v : V) : Prop := ∃ (a : Addr) (R r g dv : V) (m n : Nat) (col : Nat → Nat → Rat) (c want : Nat → Rat), v = .ref a ∧ SqT K H a [R, r, g, dv] ∧ SysAt K H R r g m n col c want ∧ 0 < m ∧ m ≤ 59 ∧ LP.Bnds n m col want ∧ (∀ j, j < m → LP.IsI (c j) ∧ LP.Bd 10 (c j)) ∧
  ((dv = .non ∧ LP.Unb n m col want c) ∨ ∃ q : Rat, Due K H dv q ∧ q.den ≤ 100 ∧ q.num.natAbs ≤ 1000 ∧ LP.Opt n m col want c q)
def spBuild (K : PySem.W.Frag) : Sp := fun vs H Q _ => ∃ D : Addr, vs = [.ref D] ∧ Draws H D ∧ ∀ v H', Gw (rm H D) (rm H' D) → Draws H' D → BuildR K H' v → Q v H'
/-! ### lists made while draws are taken -/
theorem draws_upd {H : Hp} {D L : Addr} {o : HO} (h : Draws H D) (ne : L ≠ D) : Draws (upd H L o) D := let ⟨ns, e⟩ := h; ⟨ns, by rw [upd_ne ne.symm]; exact e⟩
theorem draws_ne {H : Hp} {D L : Addr} (h : Draws H D) (hL : H L = none) : L ≠ D := fun z => by
  obtain ⟨ns, e⟩ := h
  rw [← z, hL] at e; cases e
theorem rm_comm_upd {H : Hp} {D L : Addr} {o : HO} : rm (rm (upd H L o) D) L = rm (rm H D) L := by
  funext b
  show (if b = L then none else if b = D then none else if b = L then some o else H b) = (if b = L then none else if b = D then none else H b)
  by_cases h : b = L
  · rw [if_pos h, if_pos h]
  · rw [if_neg h, if_neg h, if_neg h]
/-- a comprehension, its elements taking draws -/
theorem lc_growD {J : It} {n : Nat} {G : Hp → Prop} {Y : Nat → Hp → V → Hp → Prop} (w : Walk J n G Y) {g : TG} {te : TE} {vs : List Nat} {σ : L2.St} {H1 : Hp} {L D : Addr} {Qd : Hp → Prop} (nL : H1 L = none) (hD : Draws H1 D) (hn : n ≤ 100000)
    (R : Nat → V → Hp → Prop) (monoR : ∀ i v H H', Gw H H' → R i v H → R i v H') (hG : ∀ H, Gw (rm H1 D) (rm H D) → G H)
    (step : ∀ i x H H', i < n → Gw (rm H1 D) (rm H D) → Draws H D → (∃ xs, H L = some (.lst xs)) → Y i H x H' → ∀ C : VK, (∀ y H4, Gw (rm H D) (rm H4 D) → Draws H4 D → R i y (rm (rm H4 D) L) → C y H4) → g x (wipe σ vs) H' fun σ2 H2 => wipe σ2 vs = wipe σ vs ∧ te σ2 H2 C)
    (hd : ∀ H xs, Gw (rm H1 D) (rm H D) → Draws H D → H L = some (.lst xs) → L ≠ D → xs.length = n → (∀ i, i < n → ∃ y, xs[i]? = some y ∧ R i y (rm (rm H D) L)) → Qd H) :
    ∃ W : Nat → Nat → Hp → Prop, (∃ m, W 0 m (upd H1 L (.lst []))) ∧ ∀ i m H, W i m H →
      (J.stop i H ∧ Qd H) ∨ (J.go i H ∧ ∃ Nx : Hp → Prop, (∀ H', Nx H' → ∃ m', m' < m ∧ W (i + 1) m' H') ∧ ∀ x H', J.yld i H x H' → g x (wipe σ vs) H' fun σ2 H2 => wipe σ2 vs = wipe σ vs ∧ tYes σ2 H2 fun b H3 =>
        if b = true then te σ2 H3 fun y H4 => ∃ acc, H4 L = some (.lst acc) ∧ acc.length < sizeLine ∧ Nx (upd H4 L (.lst (acc ++ [y]))) else Nx H3) := by
  have ne := draws_ne hD nL
  have nL1 : rm H1 D L = none := by rw [rm_ne ne]; exact nL
  refine lc_it w (fun i H => ∃ xs, H L = some (.lst xs) ∧ xs.length = i ∧ Gw (rm H1 D) (rm (rm H D) L) ∧ Draws H D ∧ ∀ j, j < i → ∃ y, xs[j]? = some y ∧ R j y (rm (rm H D) L))
    ⟨[], upd_same, rfl, by rw [rm_comm_upd, rm_none nL1]; exact Gw.refl _, draws_upd hD ne, fun j hj => absurd hj (Nat.not_lt_zero _)⟩ (fun i H _ ⟨xs, _, _, g1, _⟩ => hG H (g1.trans Gw.rm_le)) ?_ (fun H ⟨xs, h1, h2, h3, h5, h4⟩ => hd H xs (h3.trans Gw.rm_le) h5 h1 ne h2 h4)
  rintro i x H H' hi ⟨xs, h1, h2, h3, h5, h4⟩ y
  refine step i x H H' hi (h3.trans Gw.rm_le) h5 ⟨xs, h1⟩ y _ (fun z H4 g4 d4 r4 => ⟨xs, ?_, by rw [h2]; exact Nat.lt_of_lt_of_le hi (Nat.le_trans hn (by decide)), xs ++ [z], upd_same, by simp [h2], ?_, draws_upd d4 ne, fun j hj => ?_⟩)
  · have : rm H D L = some (.lst xs) := by rw [rm_ne ne]; exact h1
    exact Gw.rm_le.at (g4.at this)
  · rw [rm_comm_upd]; exact h3.trans g4.rm
  · rw [rm_comm_upd]
    by_cases e : j < i
    · obtain ⟨u, e1, r⟩ := h4 j e
      exact ⟨u, by rw [List.getElem?_append_left (by omega)]; exact e1, monoR _ _ _ _ g4.rm r⟩
    · have : j = i := by omega
      subst this
      exact ⟨z, by rw [List.getElem?_append_right (by omega), h2, Nat.sub_self]; rfl, r4⟩
/-- a list of the whole numbers f 0, f 1, .. -/
def IntsL (K : PySem.W.Frag) (H : Hp) (v : V) (n : Nat) (f : Nat → Int) : Prop := ∃ a vs, v = .ref a ∧ SqL K H a vs ∧ vs.length = n ∧ ∀ i, i < n → vs[i]? = some (V.int (f i))
theorem IntsL.gw {K : PySem.W.Frag} {H H' : Hp} {v : V} {n : Nat} {f : Nat → Int} (h : IntsL K H v n f) (g : Gw H H') : IntsL K H' v n f := let ⟨a, vs, e, s, r⟩ := h; ⟨a, vs, e, g.sqL s, r⟩
/-! ### what a share secures -/
def Tbl (K : PySem.W.Frag) (H : Hp) (v : V) (s : Nat) (a b : Nat → Int) : Prop := ∃ t x y, v = .ref t ∧ SqL K H t [x, y] ∧ IntsL K H x s a ∧ IntsL K H y s b
theorem Tbl.gw {K : PySem.W.Frag} {H H' : Hp} {v : V} {s : Nat} {a b : Nat → Int} (h : Tbl K H v s a b) (g : Gw H H') : Tbl K H' v s a b := let ⟨t, x, y, e, h1, h2, h3⟩ := h; ⟨t, x, y, e, g.sqL h1, h2.gw g, h3.gw g⟩
def spSecured (K : PySem.W.Frag) : Sp := fun vs H Q _ => ∃ (tv sv : V) (s : Nat) (a b : Nat → Int) (p : Rat), vs = [tv, sv] ∧ Tbl K H tv s a b ∧ PAt K H sv p ∧ 0 < s ∧ s ≤ 100 ∧ p.den ≤ 100 ∧ p.num.natAbs ≤ 100 ∧ (∀ j, j < s → (a j).natAbs ≤ 10 ∧ (b j).natAbs ≤ 10) ∧
  Ans H (fun v H' => ∃ q, PAt K H' v q ∧ LP.IsMin s a b p q) Q
abbrev sLSecured : Stmt := top 55
theorem fitD {p q B : Rat} (hd : p.den ≤ 100) (h : LP.Hd (p.den : Rat) B q) (hB : B ≤ 10 ^ 60) : Fit q := by
  have := LP.den_pos_rat p
  exact LP.fitH (LP.isI_nat _) (by grind) (LP.bd_nat hd) (by decide +kernel) hB h
theorem PAt.intT {K : PySem.W.Frag} {H : Hp} {t : Addr} {z : Int} (h : H t = some (.tup [.int z, .int 1])) (hz : z.natAbs ≤ 10) : PAt K H (.ref t) (z : Rat) := PAt.int (SqT.of h) (Nat.le_trans hz (by decide +kernel))
section
variable {P : Program} {w : World} {K : PySem.W.Frag} {mg : Str → Option Value} {base : Heap}
abbrev CLPlus (P : Program) (w : World) (K : PySem.W.Frag) (mg : Str → Option Value) (base : Heap) := Cal P w K mg base "_law_plus" 2 ["one", "other"] (sp2 K (· + ·))
abbrev CLTimes (P : Program) (w : World) (K : PySem.W.Frag) (mg : Str → Option Value) (base : Heap) := Cal P w K mg base "_law_times" 2 ["one", "other"] (sp2 K (· * ·))
abbrev CLMinus (P : Program) (w : World) (K : PySem.W.Frag) (mg : Str → Option Value) (base : Heap) := Cal P w K mg base "_law_minus" 3 ["one", "other"] (sp2 K (· - ·))
abbrev CLMost (P : Program) (w : World) (K : PySem.W.Frag) (mg : Str → Option Value) (base : Heap) := Cal P w K mg base "_law_most" 2 ["rows"] (spLMost K)
theorem scLSecured : FnScope ["table", "share", "rows", "low", "j", "row"] ["table", "share"] (defScope sLSecured) := ⟨rfl, rfl, rfl, by decide +kernel, rfl, by decide +kernel, by decide +kernel⟩
theorem ok_lSecured {f : Addr} {fd : FuncData} (F : Fun K "_law_secured" "_law_secured" sLSecured f fd) (T : Txt K mg) (C1 : CLPlus P w K mg base) (C2' : CLTimes P w K mg base) (C3 : CLMinus P w K mg base) (C4 : CLMost P w K mg base) :
    FnOk P w K mg base CX0 4 f fd ["table", "share"] (spSecured K) := by
  refine F.ok scLSecured (fun vs H Q E h => ?_) (fun cdv A outer s H vs Q E hr h => ?_)
  · obtain ⟨tv, sv, s, a, b, p, rfl, _⟩ := h
    rfl
  · obtain ⟨tv, sv, s, a, b, p, rfl, ⟨t, x, y, rfl, hts, ⟨l0, v0, rfl, hs0, len0, i0⟩, ⟨l1, v1, rfl, hs1, len1, i1⟩⟩, hp, s0, s100, hd, hpn, hab, k⟩ := h
    refine ⟨_, pss_cons (ps_setLc (i := 2) (own := [("j", 4)]) (g := gName 4) (tt := tYes) rfl scLSecured.nd rfl rfl (sw_true rfl rfl rfl rfl) (pi_range1 rfl T.range (pa_cons (pe_callB (lenK K) (by rfl) T.len PySem.boot_len (pa_cons (pe_ix (ixL K) (pv 0) pe_int (fun _ _ => rfl)) pa_nil)) pa_nil)) (blkOk_by (N := ["table", "share", "rows", "low", "j", "row"]) (by kernel_rfl))
          (fun _ _ _ _ _ => pg_name (i := 4) scLSecured.nd rfl (Or.inl rfl)) (fun _ _ _ _ _ => pts_nil)
          (fun _ _ _ _ _ => pe_call C1.ok (hr.mono (by decide)) rfl C1.hm C1.kp C1.b .nil pass0 (pa_cons (pe_call C2'.ok (hr.mono (by decide)) rfl C2'.hm C2'.kp C2'.b .nil pass0 (pa_cons (pv 1) (pa_cons (pe_tup (pa_cons (pe_ix (ixL K) (pe_ix (ixL K) (pv 0) pe_int (fun _ _ => rfl)) (pv 4) (fun _ _ => rfl)) (pa_cons pe_int pa_nil))) pa_nil)))
            (pa_cons (pe_call C2'.ok (hr.mono (by decide)) rfl C2'.hm C2'.kp C2'.b .nil pass0 (pa_cons (pe_call C3.ok hr rfl C3.hm C3.kp C3.b .nil pass0 (pa_cons (pe_tup (pa_cons pe_int (pa_cons pe_int pa_nil))) (pa_cons (pv 1) pa_nil))) (pa_cons (pe_tup (pa_cons (pe_ix (ixL K) (pe_ix (ixL K) (pv 0) pe_int (fun _ _ => rfl)) (pv 4) (fun _ _ => rfl)) (pa_cons pe_int pa_nil))) pa_nil))) pa_nil))))
      (pss_cons (ps_set (i := 3) scLSecured.nd rfl (Or.inl rfl) (pe_call C4.ok (hr.mono (by decide)) rfl C4.hm C4.kp C4.b .nil pass0 (pa_cons (pe_lc (own := [("row", 5)]) (g := gName 5) (tt := tYes) rfl scLSecured.nd (listK K (pv 2)) (blkOk_by (N := ["table", "share", "rows", "low", "j", "row"]) (by kernel_rfl))
          (fun _ _ _ _ _ => pg_name (i := 5) scLSecured.nd rfl (Or.inl rfl)) (fun _ _ _ _ _ => pts_nil) (fun _ _ _ _ _ => pe_call C3.ok hr rfl C3.hm C3.kp C3.b .nil pass0 (pa_cons (pe_tup (pa_cons pe_int (pa_cons pe_int pa_nil))) (pa_cons (pv 5) pa_nil)))) pa_nil)))
      (pss_one (ps_ret (pe_call C3.ok hr rfl C3.hm C3.kp C3.b .nil pass0 (pa_cons (pe_tup (pa_cons pe_int (pa_cons pe_int pa_nil))) (pa_cons (pv 3) pa_nil)))))), ?_⟩
    have hp1 : LP.Hd (p.den : Rat) (100 : Rat) p := LP.hd_part (B := 100) hpn
    have hI := LP.isI_nat p.den
    have hB : LP.Bd (100 : Rat) (p.den : Rat) := LP.bd_nat (B := 100) hd
    have h1 : LP.Hd (p.den : Rat) (200 : Rat) (1 - p) := by
      have : LP.Hd (p.den : Rat) (100 : Rat) 1 := by
        unfold LP.Hd; rw [Rat.mul_one]; exact ⟨hI, hB⟩
      exact (this.sub hp1).mono (by decide +kernel)
    have hz : ∀ z : Int, z.natAbs ≤ 10 → LP.Hd 1 (10 : Rat) (z : Rat) := fun z h => LP.hd_int (LP.bd_int (B := 10) h)
    have ha : ∀ j, j < s → LP.Hd (p.den : Rat) (1000 : Rat) (p * (a j : Rat)) := fun j hj => by
      have := hp1.mul (hz _ (hab j hj).1)
      rw [Rat.mul_one] at this
      exact this.mono (by decide +kernel)
    have hb : ∀ j, j < s → LP.Hd (p.den : Rat) (2000 : Rat) ((1 - p) * (b j : Rat)) := fun j hj => by
      have := h1.mul (hz _ (hab j hj).2)
      rw [Rat.mul_one] at this
      exact this.mono (by decide +kernel)
    have hl : ∀ j, j < s → LP.Hd (p.den : Rat) (3000 : Rat) (LP.ln a b j p) := fun j hj => ((ha j hj).add (hb j hj)).mono (by decide +kernel)
    have hl0 : ∀ j, j < s → LP.Hd (p.den : Rat) (3000 : Rat) (0 - LP.ln a b j p) := fun j hj => by
      rw [show (0 : Rat) - LP.ln a b j p = - LP.ln a b j p by grind]; exact (hl j hj).neg
    have e0 : atI [V.ref l0, V.ref l1] 0 = some (V.ref l0) := atI_nat (j := 0) rfl
    have e1 : atI [V.ref l0, V.ref l1] 1 = some (V.ref l1) := atI_nat (j := 1) rfl
    refine ⟨_, rfl, _, _, _, _, rfl, rfl, hts, e0, l0, v0, rfl, .inl hs0, _, rfl, by omega, by omega, fun D1 hD1 => lc_grow (walk_rangeN (N := s) (by omega)) hD1 (by omega) (fun j v H => PAt K H v (LP.ln a b j p)) (fun _ _ _ _ g r => r.gw g)
      (fun _ _ => True.intro) (fun j x H1 H' hj _ g1 ⟨zs, hzs⟩ hY C9 hC9 => ?_) (fun H1 zs g1 _ hzs lzs izs => ?_)⟩
    · obtain ⟨rfl, rfl⟩ := hY
      refine ⟨rfl, _, rfl, _, rfl, _, _, _, _, rfl, rfl, g1.sqL hts, e0, _, rfl, _, _, _, _, rfl, rfl, g1.sqL hs0, at_of rfl (i0 j hj), (show 2 ≤ sizeLine by decide), fun t1 ht1 => ?_⟩
      have gt1 := Gw.new (.tup [V.int (a j), V.int 1]) ht1
      refine ⟨_, _, p, (a j : Rat), rfl, (hp.gw g1).gw gt1, PAt.intT upd_same (hab j hj).1, fitD hd (ha j hj) (by decide +kernel), fun v2 H2 g2 r2 => ?_⟩
      have g12 := g1.trans (gt1.trans g2)
      refine ⟨(show 2 ≤ sizeLine by decide), fun t2 ht2 => ⟨_, rfl, ?_⟩⟩
      have gt2 := Gw.new (.tup [V.int 1, V.int 1]) ht2
      refine ⟨_, _, 1, p, rfl, ⟨⟨t2, rfl, SqT.of upd_same⟩, fit_one⟩, (hp.gw g12).gw gt2, fitD hd h1 (by decide +kernel), fun v3 H3 g3 r3 => ?_⟩
      have g13 := g12.trans (gt2.trans g3)
      refine ⟨_, rfl, _, _, _, _, rfl, rfl, g13.sqL hts, e1, _, rfl, _, _, _, _, rfl, rfl, g13.sqL hs1, at_of rfl (i1 j hj), (show 2 ≤ sizeLine by decide), fun t4 ht4 => ?_⟩
      have gt4 := Gw.new (.tup [V.int (b j), V.int 1]) ht4
      refine ⟨_, _, 1 - p, (b j : Rat), rfl, PAt.gw r3 gt4, PAt.intT upd_same (hab j hj).2, fitD hd (hb j hj) (by decide +kernel), fun v4 H4 g4 r4 => ?_⟩
      refine ⟨_, _, p * (a j : Rat), (1 - p) * (b j : Rat), rfl, PAt.gw r2 (gt2.trans (g3.trans (gt4.trans g4))), r4, fitD hd (hl j hj) (by decide +kernel), fun v5 H5 g5 r5 => ?_⟩
      have g15 := (gt1.trans g2).trans ((gt2.trans g3).trans ((gt4.trans g4).trans g5))
      exact hC9 v5 H5 g15 (PAt.rm r5 (g15.at hzs))
    · refine ⟨_, rfl, D1, rfl, ⟨zs, SqL.of hzs⟩, fun D2 hD2 => lc_grow (walk_listY lzs) hD2 (by omega) (fun j v H => PAt K H v (0 - LP.ln a b j p)) (fun _ _ _ _ g r => r.gw g) (fun H3 g3 => SqL.of (g3.at hzs)) (fun j x H2 H' hj _ g2 ⟨ws, hws⟩ hY C9 hC9 => ?_) (fun H2 ws g2 _ hws lws iws => ?_)⟩
      · obtain ⟨rfl, hx⟩ := hY
        obtain ⟨y, ey, py⟩ := izs j hj
        rw [hx] at ey; cases ey
        refine ⟨rfl, (show 2 ≤ sizeLine by decide), fun t2 ht2 => ⟨_, rfl, ?_⟩⟩
        have gt2 := Gw.new (.tup [V.int 0, V.int 1]) ht2
        refine ⟨_, _, 0, LP.ln a b j p, rfl, ⟨⟨t2, rfl, SqT.of upd_same⟩, fit_zero⟩, (((py.gw Gw.rm_le).gw g2)).gw gt2, fitD hd (hl0 j hj) (by decide +kernel), fun v3 H3 g3 r3 => ?_⟩
        exact hC9 v3 H3 (gt2.trans g3) (PAt.rm r3 ((gt2.trans g3).at hws))
      · refine ⟨_, s, fun j => 0 - LP.ln a b j p, rfl, ⟨D2, ws, rfl, SqL.of hws, lws, fun j hj => let ⟨y, e, r⟩ := iws j hj; ⟨y, e, r.gw Gw.rm_le⟩⟩, s0, by omega, fun v3 H3 g3 ⟨q, pq, ⟨j, hj, ej⟩, hq⟩ => ?_⟩
        refine ⟨(show 2 ≤ sizeLine by decide), fun t2 ht2 => ⟨_, rfl, ?_⟩⟩
        have gt2 := Gw.new (.tup [V.int 0, V.int 1]) ht2
        have ej : 0 - LP.ln a b j p = q := ej
        have eq : 0 - q = LP.ln a b j p := by rw [← ej]; grind
        refine ⟨_, _, 0, q, rfl, ⟨⟨t2, rfl, SqT.of upd_same⟩, fit_zero⟩, pq.gw gt2, ?_, fun v4 H4 g4 r4 => ?_⟩
        · show Fit (0 - q)
          rw [eq]; exact fitD hd (hl j hj) (by decide +kernel)
        · refine k _ _ (g1.trans (g2.trans (g3.trans (gt2.trans g4)))) ⟨0 - q, r4, ⟨j, hj, eq.symm⟩, fun i hi => ?_⟩
          have : 0 - LP.ln a b i p ≤ q := hq i hi
          grind
end
end K44


set_option Elab.async false
set_option linter.all false
set_option maxRecDepth 100000
set_option maxHeartbeats 4000000
set_option exponentiation.threshold 3000
/-! The game. -/
namespace K44
open PySem L2
open LP (Fit lim S)
abbrev sLGame : Stmt := top 54
theorem ints_of {xs : List V} {n : Nat} {Pz : Int → Prop} (h : ∀ i, i < n → ∃ y, xs[i]? = some y ∧ ∃ z : Int, y = .int z ∧ Pz z) : ∃ f : Nat → Int, (∀ i, i < n → xs[i]? = some (.int (f i))) ∧ ∀ i, i < n → Pz (f i) := by
  let f : Nat → Int := fun i => match xs[i]? with | some (.int z) => z | _ => 0
  have hf : ∀ i, i < n → xs[i]? = some (.int (f i)) ∧ Pz (f i) := fun i hi => by
    obtain ⟨y, e, z, rfl, p⟩ := h i hi
    show xs[i]? = some (.int (match xs[i]? with | some (.int z) => z | _ => 0)) ∧ Pz (match xs[i]? with | some (.int z) => z | _ => 0)
    rw [e]
    exact ⟨rfl, p⟩
  exact ⟨f, fun i hi => (hf i hi).1, fun i hi => (hf i hi).2⟩
theorem div_small {a d : Int} (hd : d ≠ 0) : (Rat.divInt a d).num.natAbs ≤ a.natAbs ∧ (Rat.divInt a d).den ≤ d.natAbs := by
  have e := Rat.num_divInt a d
  have e2 := Rat.den_divInt a d
  constructor
  · rw [e]
    rw [Int.natAbs_ediv_of_dvd (by
      first
        | exact Int.dvd_mul_of_dvd_right (Int.gcd_dvd_left ..)
        | exact Int.dvd_trans (Int.gcd_dvd_right ..) (Int.dvd_mul_left _ _))]
    refine Nat.le_trans (Nat.div_le_self _ _) ?_
    rw [Int.natAbs_mul]
    have hs : d.sign.natAbs = 1 := by
      rcases Int.lt_trichotomy d 0 with h | h | h
      · rw [Int.sign_eq_neg_one_of_neg h]; decide
      · exact absurd h hd
      · rw [Int.sign_eq_one_of_pos h]; decide
    rw [hs, Nat.one_mul]; exact Nat.le_refl _
  · rw [e2, if_neg hd]
    exact Nat.div_le_self _ _
/-- (x, 1), (y, 1), (z, 1) -/
def f3 (x y z : Int) (k : Nat) : Int := if k = 0 then x else if k = 1 then y else z
theorem three {K : PySem.W.Frag} {σ : L2.St} {H : Hp} {Q : VK} {te1 te2 te3 : TE} {x y z : Int} (h1 : ∀ H', Gw H H' → ∀ Q : VK, Q (.int x) H' → te1 σ H' Q) (h2 : ∀ H', Gw H H' → ∀ Q : VK, Q (.int y) H' → te2 σ H' Q) (h3 : ∀ H', Gw H H' → ∀ Q : VK, Q (.int z) H' → te3 σ H' Q)
    (b1 : x.natAbs ≤ 10) (b2 : y.natAbs ≤ 10) (b3 : z.natAbs ≤ 10) (k : ∀ r H', Gw H H' → VT K H' (.ref r) 3 (fun k => ((f3 x y z k : Int) : Rat)) → Q (.ref r) H') :
    tTup (tCons (tTup (tCons te1 (tCons (tC (.int 1)) tNil))) (tCons (tTup (tCons te2 (tCons (tC (.int 1)) tNil))) (tCons (tTup (tCons te3 (tCons (tC (.int 1)) tNil))) tNil))) σ H Q := by
  refine h1 H (Gw.refl _) _ ⟨(show 2 ≤ sizeLine by decide), fun t1 e1 => ?_⟩
  have g1 := Gw.new (.tup [V.int x, V.int 1]) e1
  refine h2 _ g1 _ ⟨(show 2 ≤ sizeLine by decide), fun t2 e2 => ?_⟩
  have g2 := Gw.new (.tup [V.int y, V.int 1]) e2
  refine h3 _ (g1.trans g2) _ ⟨(show 2 ≤ sizeLine by decide), fun t3 e3 => ⟨(show 3 ≤ sizeLine by decide), fun r er => ?_⟩⟩
  have g3 := Gw.new (.tup [V.int z, V.int 1]) e3
  have g4 := Gw.new (.tup [V.ref t1, V.ref t2, V.ref t3]) er
  refine k r _ (g1.trans (g2.trans (g3.trans g4))) ⟨r, _, rfl, SqT.of upd_same, rfl, fun i hi => ?_⟩
  have hi : i = 0 ∨ i = 1 ∨ i = 2 := by omega
  rcases hi with rfl | rfl | rfl
  · exact ⟨.ref t1, rfl, ((PAt.intT upd_same b1).gw (g2.trans (g3.trans g4)))⟩
  · exact ⟨.ref t2, rfl, ((PAt.intT upd_same b2).gw (g3.trans g4))⟩
  · exact ⟨.ref t3, rfl, ((PAt.intT upd_same b3).gw g4)⟩
theorem VT.rm {K : PySem.W.Frag} {H : Hp} {D : Addr} {v : V} {n : Nat} {f : Nat → Rat} {ys : List V} (h : VT K H v n f) (hD : H D = some (.lst ys)) : VT K (K44.rm H D) v n f := by
  obtain ⟨a, vs, e, s, l, i⟩ := h
  exact ⟨a, vs, e, sqT_rm s hD, l, fun j hj => let ⟨x, e, p⟩ := i j hj; ⟨x, e, p.rm hD⟩⟩
/-- what has been found: f i, secured by the share cc i -/
def FoundAt (K : PySem.W.Frag) (H0 : Hp) (L : Addr) (s : Nat) (a b : Nat → Int) (N : Nat) (done : Rat → Prop) (H : Hp) : Prop := ∃ (xs : List V) (f cc : Nat → Rat), H L = some (.lst xs) ∧ xs.length ≤ N ∧ 0 < xs.length ∧ Gw H0 (K44.rm H L) ∧
  (∀ i, i < xs.length → (∃ y, xs[i]? = some y ∧ PAt K (K44.rm H L) y (f i)) ∧ LP.Cand s a b (cc i) ∧ LP.IsMin s a b (cc i) (f i)) ∧ ∀ c, done c → ∃ i, i < xs.length ∧ cc i = c
theorem FoundAt.gw {K : PySem.W.Frag} {H0 H H' : Hp} {L : Addr} {s : Nat} {a b : Nat → Int} {N : Nat} {done : Rat → Prop} (h : FoundAt K H0 L s a b N done H) (g : Gw H H') : FoundAt K H0 L s a b N done H' := by
  obtain ⟨xs, f, cc, h1, h2, h3, h4, h5, h6⟩ := h
  exact ⟨xs, f, cc, g.at h1, h2, h3, h4.trans g.rm, fun i hi => let ⟨⟨y, e, p⟩, c⟩ := h5 i hi; ⟨⟨y, e, p.gw g.rm⟩, c⟩, h6⟩
theorem FoundAt.mono {K : PySem.W.Frag} {H0 H : Hp} {L : Addr} {s : Nat} {a b : Nat → Int} {N M : Nat} {done done' : Rat → Prop} (h : FoundAt K H0 L s a b N done H) (hN : N ≤ M) (hd : ∀ c, done' c → done c) : FoundAt K H0 L s a b M done' H := by
  obtain ⟨xs, f, cc, h1, h2, h3, h4, h5, h6⟩ := h
  exact ⟨xs, f, cc, h1, Nat.le_trans h2 hN, h3, h4, h5, fun c hc => h6 c (hd c hc)⟩
theorem FoundAt.app {K : PySem.W.Frag} {H0 H : Hp} {L : Addr} {s : Nat} {a b : Nat → Int} {N : Nat} {done : Rat → Prop} {y : V} {c0 q : Rat} (h : FoundAt K H0 L s a b N done H) (py : PAt K H y q) (hc : LP.Cand s a b c0) (hm : LP.IsMin s a b c0 q) (hN : N ≤ 1000) :
    ∃ xs, H L = some (.lst xs) ∧ xs.length < sizeLine ∧ FoundAt K H0 L s a b (N + 1) (fun c => done c ∨ c = c0) (upd H L (.lst (xs ++ [y]))) := by
  obtain ⟨xs, f, cc, h1, h2, h3, h4, h5, h6⟩ := h
  refine ⟨xs, h1, Nat.lt_of_le_of_lt (Nat.le_trans h2 hN) (by decide), xs ++ [y], fun i => if i = xs.length then q else f i, fun i => if i = xs.length then c0 else cc i, upd_same, by rw [List.length_append]; exact Nat.add_le_add h2 (Nat.le_refl 1), by rw [List.length_append]; omega, by rw [rm_upd]; exact h4, fun i hi => ?_, fun c hc' => ?_⟩
  · rw [List.length_append] at hi
    simp only [List.length_cons, List.length_nil] at hi
    rw [rm_upd]
    dsimp only
    by_cases e : i = xs.length
    · subst e
      rw [if_pos rfl, if_pos rfl]
      exact ⟨⟨y, by rw [List.getElem?_append_right (Nat.le_refl _), Nat.sub_self]; rfl, py.rm h1⟩, hc, hm⟩
    · rw [if_neg e, if_neg e]
      obtain ⟨⟨z, ez, pz⟩, r⟩ := h5 i (by omega)
      exact ⟨⟨z, by rw [List.getElem?_append_left (by omega)]; exact ez, pz⟩, r⟩
  · rcases hc' with hc' | rfl
    · obtain ⟨i, hi, e⟩ := h6 c hc'
      exact ⟨i, by rw [List.length_append]; omega, by dsimp only; rw [if_neg (by omega)]; exact e⟩
    · exact ⟨xs.length, by rw [List.length_append]; simp, if_pos rfl⟩
theorem gr0 {s : Nat} {a b : Nat → Int} {k : Nat} (hk : k < 3) : f3 1 0 0 k = LP.gcol s a b s k := by
  unfold f3 LP.gcol
  repeat' split
  all_goals first | rfl | omega
theorem gr1 {s : Nat} {a b : Nat → Int} {k : Nat} (hk : k < 3) : f3 0 1 0 k = LP.gcol s a b (s + 1) k := by
  unfold f3 LP.gcol
  repeat' split
  all_goals first | rfl | omega
theorem gr2 {s : Nat} {a b : Nat → Int} {k : Nat} (hk : k < 3) : f3 1 1 0 k = LP.gcol s a b (s + 2) k := by
  unfold f3 LP.gcol
  repeat' split
  all_goals first | rfl | omega
theorem gr3 {s : Nat} {a b : Nat → Int} {k : Nat} (hk : k < 3) : f3 (-1) (-1) 0 k = LP.gcol s a b (s + 3) k := by
  unfold f3 LP.gcol
  repeat' split
  all_goals first | rfl | omega
theorem lst_in {σ : L2.St} {H : Hp} {Q : VK} {a : TE} {t : TA} (h : a σ H fun x H1 => t σ H1 fun xs H2 => ((x :: xs).length ≤ sizeLine ∧ ∀ p, H2 p = none → Q (.ref p) (upd H2 p (.lst (x :: xs))))) : tLst (tCons a t) σ H Q := h
theorem cons_in {σ : L2.St} {H : Hp} {Q : List V → Hp → Prop} {a : TE} {t : TA} (h : a σ H fun x H1 => t σ H1 fun xs H2 => Q (x :: xs) H2) : tCons a t σ H Q := h
theorem two_list {xs : List V} {x y : V} (h : xs.length = 2) (e0 : xs[0]? = some x) (e1 : xs[1]? = some y) : xs = [x, y] := by
  match xs, h with
  | [u, v], _ =>
    cases e0; cases e1; rfl
/-- best is small -/
theorem best_small {s : Nat} {a b : Nat → Int} {c v : Rat} (hc : LP.Cand s a b c) (hm : LP.IsMin s a b c v) (hab : ∀ j, j < s → (a j).natAbs ≤ 9 ∧ (b j).natAbs ≤ 9) : v.den ≤ 100 ∧ v.num.natAbs ≤ 1000 := by
  -- a whole denominator of c
  have hd : ∃ D : Nat, 0 < D ∧ D ≤ 36 ∧ LP.IsI ((D : Rat) * c) := by
    rcases hc with h | h | ⟨j, k, hj, hk, ⟨c1, _, _⟩, h⟩
    · exact ⟨1, by decide, by decide, by rw [h]; exact ⟨0, by decide +kernel⟩⟩
    · exact ⟨1, by decide, by decide, by rw [h]; exact ⟨1, by decide +kernel⟩⟩
    · refine ⟨(LP.slp a b j k).natAbs, by omega, ?_, ?_⟩
      · have := hab j hj
        have := hab k hk
        unfold LP.slp; omega
      · rw [h]
        unfold LP.crp
        have hs : ((LP.slp a b j k : Int) : Rat) ≠ 0 := fun z => c1 (Rat.intCast_inj.mp (z.trans Rat.intCast_zero.symm))
        have e : (((LP.slp a b j k).natAbs : Nat) : Rat) = ((LP.slp a b j k : Int) : Rat) ∨ (((LP.slp a b j k).natAbs : Nat) : Rat) = - ((LP.slp a b j k : Int) : Rat) := by
          rcases Int.natAbs_eq (LP.slp a b j k) with z | z
          · left; rw [← Rat.intCast_natCast, ← z]
          · right
            have : (((LP.slp a b j k).natAbs : Nat) : Int) = - LP.slp a b j k := by omega
            rw [← Rat.intCast_natCast, this, Rat.intCast_neg]
        rcases e with e | e
        · rw [e]; exact ⟨LP.mch b j k, by grind⟩
        · rw [e]; exact ⟨- LP.mch b j k, by rw [Rat.intCast_neg]; grind⟩
  obtain ⟨D, d0, d1, z, hz⟩ := hd
  obtain ⟨c0, c1⟩ := LP.cand01 hc
  obtain ⟨⟨j, hj, ej⟩, _⟩ := hm
  obtain ⟨ha, hb⟩ := hab j hj
  have hDp : (0 : Rat) < (D : Rat) := by
    have := Rat.natCast_lt_natCast.mpr d0
    simpa using this
  have hv : LP.Hd (D : Rat) (324 : Rat) v := by
    obtain ⟨a1, a2⟩ := LP.bd_int (B := 9) ha
    obtain ⟨b1, b2⟩ := LP.bd_int (B := 9) hb
    have a1 : (-9 : Rat) ≤ (a j : Rat) := a1
    have a2 : (a j : Rat) ≤ 9 := a2
    have b1 : (-9 : Rat) ≤ (b j : Rat) := b1
    have b2 : (b j : Rat) ≤ 9 := b2
    unfold LP.ln at ej
    constructor
    · refine ⟨z * a j + (D - z) * b j, ?_⟩
      rw [← ej, Rat.intCast_add, Rat.intCast_mul, Rat.intCast_mul, Rat.intCast_sub, ← hz, Rat.intCast_natCast]
      grind
    · have m1 := Rat.mul_nonneg c0 (show 0 ≤ 9 - (a j : Rat) by grind)
      have m2 := Rat.mul_nonneg (show 0 ≤ 1 - c by grind) (show 0 ≤ 9 - (b j : Rat) by grind)
      have m3 := Rat.mul_nonneg c0 (show 0 ≤ 9 + (a j : Rat) by grind)
      have m4 := Rat.mul_nonneg (show 0 ≤ 1 - c by grind) (show 0 ≤ 9 + (b j : Rat) by grind)
      have v1 : v ≤ 9 := by rw [← ej]; grind
      have v2 : -9 ≤ v := by rw [← ej]; grind
      have hD : (D : Rat) ≤ 36 := by
        have := Rat.natCast_le_natCast.mpr d1
        exact this
      have n1 := Rat.mul_nonneg (Rat.le_of_lt hDp) (show 0 ≤ 9 - v by grind)
      have n2 := Rat.mul_nonneg (Rat.le_of_lt hDp) (show 0 ≤ 9 + v by grind)
      constructor <;> grind
  obtain ⟨⟨y, hy⟩, hb2⟩ := hv
  rw [hy] at hb2
  have hyn : y.natAbs ≤ 324 := LP.natAbs_of_bd (N := 324) hb2
  have e : v = Rat.divInt y (D : Int) := by
    rw [Rat.divInt_eq_div, ← hy, Rat.intCast_natCast]; grind
  obtain ⟨s1, s2⟩ := div_small (a := y) (d := (D : Int)) (by omega)
  rw [e]
  exact ⟨by omega, by omega⟩
section
variable {P : Program} {w : World} {K : PySem.W.Frag} {mg : Str → Option Value} {base : Heap}
abbrev CTake (P : Program) (w : World) (K : PySem.W.Frag) (mg : Str → Option Value) (base : Heap) := Cal P w K mg base "_law_take" 1 ["draws", "bound"] spTake
abbrev CParts (P : Program) (w : World) (K : PySem.W.Frag) (mg : Str → Option Value) (base : Heap) := Cal P w K mg base "_law_parts" 1 ["numbers"] (spParts K)
abbrev CRow (P : Program) (w : World) (K : PySem.W.Frag) (mg : Str → Option Value) (base : Heap) := Cal P w K mg base "_law_row" 1 ["many", "pairs"] (spRow K)
abbrev CLOver (P : Program) (w : World) (K : PySem.W.Frag) (mg : Str → Option Value) (base : Heap) := Cal P w K mg base "_law_over" 2 ["one", "other"] (sp2o K)
abbrev nmG : List Str := ["draws", "columns", "j", "table", "rows", "right", "found", "k", "slope", "much", "best", "i"]
theorem scLGame : FnScope nmG ["draws"] (defScope sLGame) := ⟨rfl, rfl, rfl, by decide +kernel, rfl, by decide +kernel, by decide +kernel⟩
theorem ok_lGame {f : Addr} {fd : FuncData} (F : Fun K "_law_game" "_law_game" sLGame f fd) (T : Txt K mg) (C1 : CTake P w K mg base) (C2' : CParts P w K mg base) (C3 : Cal P w K mg base "_law_secured" 4 ["table", "share"] (spSecured K)) (C4 : CLOver P w K mg base) (C5 : CLMost P w K mg base) :
    FnOk P w K mg base CX0 5 f fd ["draws"] (spBuild K) := by
  refine F.ok scLGame (fun vs H Q E h => ?_) (fun cdv A outer s H vs Q E hr h => ?_)
  · obtain ⟨D, rfl, _⟩ := h
    rfl
  · obtain ⟨D, rfl, hD, k⟩ := h
    refine ⟨_, pss_cons (ps_set (i := 1) scLGame.nd rfl (Or.inr rfl) (pe_op op_add pe_int (pe_call C1.ok (hr.mono (by decide)) rfl C1.hm C1.kp C1.b .nil pass0 (pa_cons (pv 0) (pa_cons pe_int pa_nil)))))
      (pss_cons (ps_set (i := 3) scLGame.nd rfl (Or.inr rfl) (pe_lc (own := [("i", 11)]) (g := gName 11) (tt := tYes) rfl scLGame.nd (pi_range1 rfl T.range (pa_cons pe_int pa_nil)) (blkOk_by (N := nmG) (by kernel_rfl))
          (fun _ _ _ _ _ => pg_name (i := 11) scLGame.nd rfl (Or.inl rfl)) (fun _ _ _ _ _ => pts_nil)
          (fun _ _ _ _ _ => pe_lc (own := [("j", 2)]) (g := gName 2) (tt := tYes) rfl scLGame.nd (pi_range1 rfl T.range (pa_cons (pv 1) pa_nil)) (blkOk_by (N := nmG) (by kernel_rfl))
            (fun _ _ _ _ _ => pg_name (i := 2) scLGame.nd rfl (Or.inl rfl)) (fun _ _ _ _ _ => pts_nil)
            (fun _ _ _ _ _ => pe_op op_sub (pe_call C1.ok (hr.mono (by decide)) rfl C1.hm C1.kp C1.b .nil pass0 (pa_cons (pv 0) (pa_cons pe_int pa_nil))) pe_int))))
      (pss_cons (ps_setLc (i := 4) (own := [("j", 2)]) (g := gName 2) (tt := tYes) rfl scLGame.nd rfl rfl (sw_true rfl rfl rfl rfl) (pi_range1 rfl T.range (pa_cons (pv 1) pa_nil)) (blkOk_by (N := nmG) (by kernel_rfl))
          (fun _ _ _ _ _ => pg_name (i := 2) scLGame.nd rfl (Or.inl rfl)) (fun _ _ _ _ _ => pts_nil)
          (fun _ _ _ _ _ => pe_tup (pa_cons (pe_tup (pa_cons (pe_ix (ixL K) (pe_ix (ixL K) (pv 3) pe_int (fun _ _ => rfl)) (pv 2) (fun _ _ => rfl)) (pa_cons pe_int pa_nil))) (pa_cons (pe_tup (pa_cons (pe_ix (ixL K) (pe_ix (ixL K) (pv 3) pe_int (fun _ _ => rfl)) (pv 2) (fun _ _ => rfl)) (pa_cons pe_int pa_nil)))
            (pa_cons (pe_tup (pa_cons (pe_un un_neg pe_int) (pa_cons pe_int pa_nil))) pa_nil)))))
      (pss_cons (ps_set (i := 4) scLGame.nd rfl (Or.inl rfl) (pe_op op_cat (pv 4) (pe_lst
          (pa_cons (pe_tup (pa_cons (pe_tup (pa_cons pe_int (pa_cons pe_int pa_nil))) (pa_cons (pe_tup (pa_cons pe_int (pa_cons pe_int pa_nil))) (pa_cons (pe_tup (pa_cons pe_int (pa_cons pe_int pa_nil))) pa_nil))))
          (pa_cons (pe_tup (pa_cons (pe_tup (pa_cons pe_int (pa_cons pe_int pa_nil))) (pa_cons (pe_tup (pa_cons pe_int (pa_cons pe_int pa_nil))) (pa_cons (pe_tup (pa_cons pe_int (pa_cons pe_int pa_nil))) pa_nil))))
          (pa_cons (pe_tup (pa_cons (pe_tup (pa_cons pe_int (pa_cons pe_int pa_nil))) (pa_cons (pe_tup (pa_cons pe_int (pa_cons pe_int pa_nil))) (pa_cons (pe_tup (pa_cons pe_int (pa_cons pe_int pa_nil))) pa_nil))))
          (pa_cons (pe_tup (pa_cons (pe_tup (pa_cons (pe_un un_neg pe_int) (pa_cons pe_int pa_nil))) (pa_cons (pe_tup (pa_cons (pe_un un_neg pe_int) (pa_cons pe_int pa_nil))) (pa_cons (pe_tup (pa_cons pe_int (pa_cons pe_int pa_nil))) pa_nil)))) pa_nil)))))))
      (pss_cons (ps_set (i := 5) scLGame.nd rfl (Or.inl rfl) (pe_call C2'.ok (hr.mono (by decide)) rfl C2'.hm C2'.kp C2'.b .nil pass0 (pa_cons (pe_op op_cat (pe_op op_rep (pe_lst (pa_cons pe_int pa_nil)) (pv 1)) (pe_lst (pa_cons pe_int (pa_cons pe_int (pa_cons pe_int (pa_cons (pe_un un_neg pe_int) pa_nil)))))) pa_nil)))
      (pss_cons (ps_set (i := 6) scLGame.nd rfl (Or.inl rfl) (pe_lst (pa_cons (pe_call C3.ok hr rfl C3.hm C3.kp C3.b .nil pass0 (pa_cons (pv 3) (pa_cons (pe_tup (pa_cons pe_int (pa_cons pe_int pa_nil))) pa_nil))) (pa_cons (pe_call C3.ok hr rfl C3.hm C3.kp C3.b .nil pass0 (pa_cons (pv 3) (pa_cons (pe_tup (pa_cons pe_int (pa_cons pe_int pa_nil))) pa_nil))) pa_nil))))
      (pss_cons (ps_for PassesOwn.never rfl (pi_range1 rfl T.range (pa_cons (pv 1) pa_nil)) (pg_name (i := 2) scLGame.nd rfl (Or.inl rfl))
        (pss_one (ps_for PassesOwn.never rfl (pi_range1 rfl T.range (pa_cons (pv 1) pa_nil)) (pg_name (i := 7) scLGame.nd rfl (Or.inl rfl))
          (pss_cons (ps_set (i := 8) scLGame.nd rfl (Or.inl rfl) (pe_op op_add (pe_op op_sub (pe_op op_sub (pe_ix (ixL K) (pe_ix (ixL K) (pv 3) pe_int (fun _ _ => rfl)) (pv 2) (fun _ _ => rfl)) (pe_ix (ixL K) (pe_ix (ixL K) (pv 3) pe_int (fun _ _ => rfl)) (pv 2) (fun _ _ => rfl)))
              (pe_ix (ixL K) (pe_ix (ixL K) (pv 3) pe_int (fun _ _ => rfl)) (pv 7) (fun _ _ => rfl))) (pe_ix (ixL K) (pe_ix (ixL K) (pv 3) pe_int (fun _ _ => rfl)) (pv 7) (fun _ _ => rfl))))
          (pss_cons (ps_set (i := 9) scLGame.nd rfl (Or.inl rfl) (pe_op op_sub (pe_ix (ixL K) (pe_ix (ixL K) (pv 3) pe_int (fun _ _ => rfl)) (pv 7) (fun _ _ => rfl)) (pe_ix (ixL K) (pe_ix (ixL K) (pv 3) pe_int (fun _ _ => rfl)) (pv 2) (fun _ _ => rfl))))
          (pss_one (ps_if (PW.pt (pw_and (pt_cmpR op_ne (pv 8) pe_int (nomark _)) (pw_and1 (pt_chain op_le op_le pe_int (pe_op op_mul (pv 9) (pv 8)) (pe_op op_mul (pv 8) (pv 8))))))
            (pss_one (ps_expr (pe_bm PySem.F.plainAttrs_list PySem.F.slot_list_append PySem.F.type_list_append mt_append (pv 6) (pa_cons (pe_call C3.ok hr rfl C3.hm C3.kp C3.b .nil pass0 (pa_cons (pv 3) (pa_cons
              (pe_call C4.ok (hr.mono (by decide)) rfl C4.hm C4.kp C4.b .nil pass0 (pa_cons (pe_tup (pa_cons (pv 9) (pa_cons pe_int pa_nil))) (pa_cons (pe_tup (pa_cons (pv 8) (pa_cons pe_int pa_nil))) pa_nil))) pa_nil))) pa_nil)))) pss_nil)))))))
      (pss_cons (ps_set (i := 10) scLGame.nd rfl (Or.inl rfl) (pe_call C5.ok (hr.mono (by decide)) rfl C5.hm C5.kp C5.b .nil pass0 (pa_cons (pv 6) pa_nil)))
      (pss_one (ps_ret (pe_tup (pa_cons (pe_callTy call_tuple_of (by rfl) T.tuple (by decide +kernel) (pa_cons (pv 4) pa_nil)) (pa_cons (pv 5) (pa_cons (pe_call C2'.ok (hr.mono (by decide)) rfl C2'.hm C2'.kp C2'.b .nil pass0 (pa_cons (pe_lst (pa_cons pe_int (pa_cons pe_int (pa_cons (pe_un un_neg pe_int) pa_nil)))) pa_nil))
        (pa_cons (pe_tup (pa_cons (pe_op op_sub pe_int (pe_ix (ixT K) (pv 10) pe_int (fun _ _ => rfl))) (pa_cons (pe_ix (ixT K) (pv 10) pe_int (fun _ _ => rfl)) pa_nil))) pa_nil)))))))))))))), ?_⟩
    refine ⟨_, rfl, D, 4, rfl, by decide, hD, fun v1 H1 a0 a1 g1 d1 => ⟨_, _, rfl, rfl, ?_⟩⟩
    obtain ⟨s, hs, s1, s4⟩ : ∃ s : Nat, 1 + v1 = (s : Int) ∧ 1 ≤ s ∧ s ≤ 4 := ⟨(1 + v1).toNat, by omega, by omega, by omega⟩
    dsimp only
    rw [hs]
    -- table
    refine ⟨2, rfl, by decide, by decide, fun L hL => lc_growD (walk_rangeN (N := 2) rfl) hL d1 (by decide) (fun i v H => ∃ f, IntsL K H v s f ∧ ∀ j, j < s → (f j).natAbs ≤ 9) (fun _ _ _ _ g ⟨f, h, b⟩ => ⟨f, h.gw g, b⟩)
      (fun _ _ => True.intro) (fun i y H2 H' hi g2 d2 ⟨zs, hz⟩ hY C9 hC9 => ?_) (fun H2 zs g2 d2 hz neL lz iz => ?_)⟩
    · obtain ⟨rfl, rfl⟩ := hY
      refine ⟨rfl, _, rfl, (s : Int), rfl, by omega, by omega, fun L2 hL2 => lc_growD (walk_rangeN (N := s) (by omega)) hL2 d2 (by omega) (fun j v _ => ∃ z : Int, v = .int z ∧ z.natAbs ≤ 9) (fun _ _ _ _ _ h => h)
        (fun _ _ => True.intro) (fun j y H3 H'' hj g3 d3 ⟨ws, hw⟩ hY C3 hC3 => ?_) (fun H3 ws g3 d3 hw neL2 lw iw => ?_)⟩
      · obtain ⟨rfl, rfl⟩ := hY
        exact ⟨rfl, _, rfl, D, 19, rfl, by decide, d3, fun v4 H4 b0 b1 g4 d4 => ⟨_, _, rfl, rfl, hC3 _ _ g4 d4 ⟨v4 - 9, rfl, by omega⟩⟩⟩
      · obtain ⟨f, hf, hb⟩ := ints_of (Pz := fun z => z.natAbs ≤ 9) iw
        have ne2 : L2 ≠ L := fun z => by rw [z, hz] at hL2; cases hL2
        exact hC9 _ _ g3 d3 ⟨f, ⟨L2, ws, rfl, SqL.of (by rw [rm_ne ne2, rm_ne neL2]; exact hw), lw, hf⟩, hb⟩
    obtain ⟨x0, ex0, a, ha, hab⟩ := iz 0 (by omega)
    obtain ⟨x1, ex1, b, hb, hbb⟩ := iz 1 (by omega)
    have ez := two_list lz ex0 ex1
    subst ez
    have tb : Tbl K H2 (.ref L) s a b := ⟨L, x0, x1, rfl, SqL.of hz, (ha.gw Gw.rm_le).gw Gw.rm_le, (hb.gw Gw.rm_le).gw Gw.rm_le⟩
    have g02 := g1.trans g2
    clear iz ha hb lz ex0 ex1 g1 g2 d1
    have fin : ∀ {H'}, Gw H2 H' → Gw (rm H D) (rm H' D) ∧ Draws H' D := fun g => ⟨g02.trans g.rm, let ⟨ns, e⟩ := d2; ⟨ns, g.at e⟩⟩
    have cab : ∀ j, j < s → (a j).natAbs ≤ 9 ∧ (b j).natAbs ≤ 9 := fun j hj => ⟨hab j hj, hbb j hj⟩
    have cab10 : ∀ j, j < s → (a j).natAbs ≤ 10 ∧ (b j).natAbs ≤ 10 := fun j hj => ⟨by have := hab j hj; omega, by have := hbb j hj; omega⟩
    -- reading the table
    have rd0 : ∀ {H' : Hp} {i : Nat} {j : Nat} {σ : L2.St} {Q1 : VK}, Gw H2 H' → σ[3]? = some (some (.ref L)) → σ[i]? = some (some (.int (j : Nat))) → j < s → Q1 (.int (a j)) H' → tOp (rIxL K) (tOp (rIxL K) (tVar 3) (tC (.int 0))) (tVar i) σ H' Q1 := fun g e3 ei hj q => by
      obtain ⟨t, x, y, et, ht, ⟨l0, v0, ex, hs0, len0, i0⟩, _⟩ := tb.gw g
      cases et
      subst ex
      exact ⟨_, e3, _, _, _, _, rfl, rfl, ht, atI_nat (j := 0) rfl, _, ei, _, _, _, _, rfl, rfl, hs0, at_of rfl (i0 _ hj), q⟩
    have rd1 : ∀ {H' : Hp} {i : Nat} {j : Nat} {σ : L2.St} {Q1 : VK}, Gw H2 H' → σ[3]? = some (some (.ref L)) → σ[i]? = some (some (.int (j : Nat))) → j < s → Q1 (.int (b j)) H' → tOp (rIxL K) (tOp (rIxL K) (tVar 3) (tC (.int 1))) (tVar i) σ H' Q1 := fun g e3 ei hj q => by
      obtain ⟨t, x, y, et, ht, _, ⟨l1, v1, ex, hs1, len1, i1⟩⟩ := tb.gw g
      cases et
      subst ex
      exact ⟨_, e3, _, _, _, _, rfl, rfl, ht, atI_nat (j := 1) rfl, _, ei, _, _, _, _, rfl, rfl, hs1, at_of rfl (i1 _ hj), q⟩
    have cnst : ∀ {σ : L2.St} {H' : Hp} (z : Int) (H'' : Hp), Gw H' H'' → ∀ Q1 : VK, Q1 (.int z) H'' → tC (.int z) σ H'' Q1 := fun _ _ _ _ q => q
    have neg1 : ∀ {σ : L2.St} {H' : Hp} (H'' : Hp), Gw H' H'' → ∀ Q1 : VK, Q1 (.int (-1)) H'' → tUn (rU fun i => V.int (-i)) (tC (.int 1)) σ H'' Q1 := fun _ _ _ q => ⟨1, rfl, q⟩
    -- rows
    refine ⟨_, rfl, (s : Int), rfl, by omega, by omega, fun L3 hL3 => lc_grow (walk_rangeN (N := s) (by omega)) hL3 (by omega) (fun j v H => VT K H v 3 (fun k => ((LP.gcol s a b j k : Int) : Rat))) (fun _ _ _ _ g r => r.gw g)
      (fun _ _ => True.intro) (fun j y H3 H' hj _ g3 ⟨ws, hw⟩ hY C9 hC9 => ?_) (fun H3 ws g3 _ hw lw iw => ?_)⟩
    · obtain ⟨rfl, rfl⟩ := hY
      refine ⟨rfl, three (K := K) (x := a j) (y := b j) (z := -1) (fun H4 g4 Q1 q => rd0 (g3.trans g4) rfl rfl hj q) (fun H4 g4 Q1 q => rd1 (g3.trans g4) rfl rfl hj q) (fun H4 g4 Q1 q => ⟨1, rfl, q⟩) (cab10 j hj).1 (cab10 j hj).2 (by decide) fun r H4 g4 v4 => hC9 _ _ g4 ((v4.rm (g4.at hw)).congr fun k hk => ?_)⟩
      unfold f3 LP.gcol
      rw [if_pos hj]
    refine ⟨_, rfl, lst_in (three (K := K) (x := 1) (y := 0) (z := 0) (fun _ _ _ q => q) (fun _ _ _ q => q) (fun _ _ _ q => q) (by decide) (by decide) (by decide) fun r1 H4 g4 t1 => ?_)⟩
    refine cons_in (three (K := K) (x := 0) (y := 1) (z := 0) (fun _ _ _ q => q) (fun _ _ _ q => q) (fun _ _ _ q => q) (by decide) (by decide) (by decide) fun r2 H5 g5 t2 => ?_)
    refine cons_in (three (K := K) (x := 1) (y := 1) (z := 0) (fun _ _ _ q => q) (fun _ _ _ q => q) (fun _ _ _ q => q) (by decide) (by decide) (by decide) fun r3 H6 g6 t3 => ?_)
    refine cons_in (three (K := K) (x := -1) (y := -1) (z := 0) (fun _ _ _ q => ⟨1, rfl, q⟩) (fun _ _ _ q => ⟨1, rfl, q⟩) (fun _ _ _ q => q) (by decide) (by decide) (by decide) fun r4 H7 g7 t4 => ?_)
    refine ⟨(show 4 ≤ sizeLine by decide), fun p hp => ?_⟩
    have g8 := Gw.new (.lst [V.ref r1, V.ref r2, V.ref r3, V.ref r4]) hp
    have g38 := g4.trans (g5.trans (g6.trans (g7.trans g8)))
    refine ⟨L3, p, _, _, rfl, rfl, g38.at hw, upd_same, ?_, fun p2 hp2 => ?_⟩
    · rw [lw]; exact Nat.le_trans (show s + 4 ≤ 100 by omega) (by decide)
    have g9 := Gw.new (.lst (ws ++ [V.ref r1, V.ref r2, V.ref r3, V.ref r4])) hp2
    have g39 := g38.trans g9
    have g29 := g3.trans g39
    have rows : VTT K (upd (upd H7 p (.lst [V.ref r1, V.ref r2, V.ref r3, V.ref r4])) p2 (.lst (ws ++ [V.ref r1, V.ref r2, V.ref r3, V.ref r4]))) (.ref p2) (s + 4) 3 (fun j k => ((LP.gcol s a b j k : Int) : Rat)) ∨ True := .inr trivial
    have rit : ∀ j, j < s + 4 → ∃ x, (ws ++ [V.ref r1, V.ref r2, V.ref r3, V.ref r4])[j]? = some x ∧ VT K (upd (upd H7 p (.lst [V.ref r1, V.ref r2, V.ref r3, V.ref r4])) p2 (.lst (ws ++ [V.ref r1, V.ref r2, V.ref r3, V.ref r4]))) x 3 (fun k => ((LP.gcol s a b j k : Int) : Rat)) := fun j hj => by
      by_cases c : j < s
      · obtain ⟨y, e, r⟩ := iw j c
        exact ⟨y, by rw [List.getElem?_append_left (by omega)]; exact e, (r.gw Gw.rm_le).gw g39⟩
      · have c2 : j = s ∨ j = s + 1 ∨ j = s + 2 ∨ j = s + 3 := by omega
        rcases c2 with rfl | rfl | rfl | rfl
        · refine ⟨.ref r1, by rw [List.getElem?_append_right (by omega), lw, Nat.sub_self]; rfl, (t1.gw (g5.trans (g6.trans (g7.trans (g8.trans g9))))).congr fun k hk => ?_⟩
          rw [gr0 hk]
        · refine ⟨.ref r2, by rw [List.getElem?_append_right (by omega), lw, Nat.add_sub_cancel_left]; rfl, (t2.gw (g6.trans (g7.trans (g8.trans g9)))).congr fun k hk => ?_⟩
          rw [gr1 hk]
        · refine ⟨.ref r3, by rw [List.getElem?_append_right (by omega), lw, Nat.add_sub_cancel_left]; rfl, (t3.gw (g7.trans (g8.trans g9))).congr fun k hk => ?_⟩
          rw [gr2 hk]
        · refine ⟨.ref r4, by rw [List.getElem?_append_right (by omega), lw, Nat.add_sub_cancel_left]; rfl, (t4.gw (g8.trans g9)).congr fun k hk => ?_⟩
          rw [gr3 hk]
    have rx : upd (upd H7 p (.lst [V.ref r1, V.ref r2, V.ref r3, V.ref r4])) p2 (.lst (ws ++ [V.ref r1, V.ref r2, V.ref r3, V.ref r4])) p2 = some (.lst (ws ++ [V.ref r1, V.ref r2, V.ref r3, V.ref r4])) := upd_same
    generalize upd (upd H7 p (.lst [V.ref r1, V.ref r2, V.ref r3, V.ref r4])) p2 (.lst (ws ++ [V.ref r1, V.ref r2, V.ref r3, V.ref r4])) = Ha at g29 rit rx ⊢
    have lrows : (ws ++ [V.ref r1, V.ref r2, V.ref r3, V.ref r4]).length = s + 4 := by rw [List.length_append, lw]; rfl
    generalize ws ++ [V.ref r1, V.ref r2, V.ref r3, V.ref r4] = rws at rit rx lrows
    clear g39 g38 g9 g8 t1 t2 t3 t4 hw iw lw g3 g4 g5 g6 g7 rows
    -- right
    refine ⟨(show 1 ≤ sizeLine by decide), fun L5 h5 => ⟨_, rfl, L5, s, _, rfl, rfl, upd_same, by omega, by omega, ?_, fun L6 h6 => ⟨1, rfl, (show 4 ≤ sizeLine by decide), fun L7 h7 => ?_⟩⟩⟩
    · show 1 * ((s : Int)).toNat ≤ sizeLine
      exact Nat.le_trans (show 1 * ((s : Int)).toNat ≤ 1000 by omega) (by decide)
    rw [flat_oneI] at h7 ⊢
    have k5 := Gw.new (.lst [V.int 0]) h5
    have k6 := Gw.new (.lst (List.replicate ((s : Int)).toNat (V.int 0))) h6
    have k7 := Gw.new (.lst [V.int 0, V.int 0, V.int 1, V.int (-1)]) h7
    refine ⟨L6, L7, _, _, rfl, rfl, k7.at upd_same, upd_same, ?_, fun L8 h8 => ?_⟩
    · rw [List.length_replicate]; exact Nat.le_trans (show ((s : Int)).toNat + 4 ≤ 100 by omega) (by decide)
    have k8 := Gw.new (.lst (List.replicate ((s : Int)).toNat (V.int 0) ++ [V.int 0, V.int 0, V.int 1, V.int (-1)])) h8
    have k58 := k5.trans (k6.trans (k7.trans k8))
    have hns : List.replicate ((s : Int)).toNat (V.int 0) ++ [V.int 0, V.int 0, V.int 1, V.int (-1)] = (List.replicate s (0 : Int) ++ [0, 0, 1, -1]).map V.int := by
      rw [List.map_append, List.map_replicate, show ((s : Int)).toNat = s by omega]; rfl
    have lns : (List.replicate s (0 : Int) ++ [0, 0, 1, -1]).length = s + 4 := by rw [List.length_append, List.length_replicate]; rfl
    refine ⟨L8, List.replicate s (0 : Int) ++ [0, 0, 1, -1], rfl, by rw [← hns]; exact SqL.of upd_same, by rw [lns]; omega, ?_, fun v9 Hb g9 r9 => ?_⟩
    · intro z hz
      rcases List.mem_append.mp hz with h | h
      · rw [List.eq_of_mem_replicate h]; decide
      · simp only [List.mem_cons, List.not_mem_nil, or_false] at h
        rcases h with h | h | h | h <;> rw [h] <;> decide +kernel
    rw [lns] at r9
    have right : VT K Hb v9 (s + 4) (fun j => ((LP.gc s j : Int) : Rat)) := r9.congr fun j hj => by
      congr 1
      rw [List.getD_eq_getElem?_getD]
      unfold LP.gc
      by_cases c : j < s
      · rw [List.getElem?_append_left (by rw [List.length_replicate]; exact c), List.getElem?_replicate, if_pos c, if_pos (by omega)]; rfl
      · rw [List.getElem?_append_right (by rw [List.length_replicate]; omega), List.length_replicate]
        have c2 : j = s ∨ j = s + 1 ∨ j = s + 2 ∨ j = s + 3 := by omega
        rcases c2 with rfl | rfl | rfl | rfl
        · rw [Nat.sub_self, if_pos (by omega)]; rfl
        · rw [Nat.add_sub_cancel_left, if_pos (by omega)]; rfl
        · rw [Nat.add_sub_cancel_left, if_neg (by omega), if_pos rfl]; rfl
        · rw [Nat.add_sub_cancel_left, if_neg (by omega), if_neg (by omega)]; rfl
    have gab := k58.trans g9
    have g2b := g29.trans gab
    have rx := gab.at rx
    have rit : ∀ j, j < s + 4 → ∃ x, rws[j]? = some x ∧ VT K Hb x 3 (fun k => ((LP.gcol s a b j k : Int) : Rat)) := fun j hj => let ⟨x, e, v⟩ := rit j hj; ⟨x, e, v.gw gab⟩
    clear k5 k6 k7 k8 k58 r9 gab g29 hns lns
    -- found
    refine ⟨_, rfl, (show 2 ≤ sizeLine by decide), fun t0 e0 => ?_⟩
    have q0 := Gw.new (.tup [V.int 0, V.int 1]) e0
    refine ⟨_, _, s, a, b, 0, rfl, tb.gw (g2b.trans q0), ⟨⟨t0, rfl, SqT.of upd_same⟩, fit_zero⟩, by omega, by omega, by decide, by decide, cab10, fun u0 Hc gc0 ⟨f0, pf0, m0⟩ => ?_⟩
    refine ⟨_, rfl, (show 2 ≤ sizeLine by decide), fun t1 e1 => ?_⟩
    have q1 := Gw.new (.tup [V.int 1, V.int 1]) e1
    refine ⟨_, _, s, a, b, 1, rfl, tb.gw (g2b.trans (q0.trans (gc0.trans q1))), ⟨⟨t1, rfl, SqT.of upd_same⟩, fit_one⟩, by omega, by omega, by decide, by decide, cab10, fun u1 Hd gd0 ⟨f1, pf1, m1⟩ => ⟨(show 2 ≤ sizeLine by decide), fun Lf ef => ?_⟩⟩
    have qf := Gw.new (.lst [u0, u1]) ef
    have gbd := q0.trans (gc0.trans (q1.trans gd0))
    have fd : FoundAt K Hb Lf s a b 2 (fun c => c = 0 ∨ c = 1) (upd Hd Lf (.lst [u0, u1])) := by
      have w1 : Gw Hb (rm (upd Hd Lf (.lst [u0, u1])) Lf) := by rw [rm_upd, rm_none ef]; exact gbd
      have w2 : Gw Hd (rm (upd Hd Lf (.lst [u0, u1])) Lf) := by rw [rm_upd, rm_none ef]; exact Gw.refl _
      refine ⟨[u0, u1], fun i => if i = 0 then f0 else f1, fun i => if i = 0 then 0 else 1, upd_same, Nat.le_refl _, (show 0 < 2 by decide), w1, fun i hi => ?_, fun c hc => ?_⟩
      · have hi : i = 0 ∨ i = 1 := by simp only [List.length_cons, List.length_nil] at hi; omega
        rcases hi with rfl | rfl
        · exact ⟨⟨u0, rfl, (PAt.gw pf0 (q1.trans gd0)).gw w2⟩, .inl rfl, m0⟩
        · exact ⟨⟨u1, rfl, PAt.gw pf1 w2⟩, .inr (.inl rfl), m1⟩
      · rcases hc with rfl | rfl
        · exact ⟨0, (show 0 < 2 by decide), rfl⟩
        · exact ⟨1, (show 1 < 2 by decide), rfl⟩
    clear pf0 pf1 m0 m1 gbd qf
    -- for j
    refine ⟨_, rfl, (s : Int), rfl, by omega, by omega, ?_⟩
    refine for_it (walk_rangeN (N := s) (by omega)) (fun j σ H' => FoundAt K Hb Lf s a b (2 + j * s) (fun c => (c = 0 ∨ c = 1) ∨ ∃ j' k', j' < j ∧ k' < s ∧ LP.Crs a b j' k' ∧ c = LP.crp a b j' k') H' ∧ ∃ uj uk us um, σ = [some (.ref D), some (.int s), uj, some (.ref L), some (.ref p2), some v9, some (.ref Lf), uk, us, um, none, none])
      ⟨fd.mono (by omega) (fun c hc => by rcases hc with h | ⟨_, _, h, _⟩; exact h; exact absurd h (Nat.not_lt_zero _)), _, _, _, _, rfl⟩ (fun _ _ _ _ _ => True.intro) ?_ ?_
    · rintro j y σ H3 H' hj ⟨fj, uj, uk, us, um, rfl⟩ ⟨rfl, rfl⟩
      refine ⟨_, rfl, (s : Int), rfl, by omega, by omega, ?_⟩
      refine for_it (walk_rangeN (N := s) (by omega)) (fun i σ H' => FoundAt K Hb Lf s a b (2 + j * s + i) (fun c => (c = 0 ∨ c = 1) ∨ (∃ j' k', j' < j ∧ k' < s ∧ LP.Crs a b j' k' ∧ c = LP.crp a b j' k') ∨ ∃ k', k' < i ∧ LP.Crs a b j k' ∧ c = LP.crp a b j k') H' ∧ ∃ uk us um, σ = [some (.ref D), some (.int s), some (.int (j : Nat)), some (.ref L), some (.ref p2), some v9, some (.ref Lf), uk, us, um, none, none])
        ⟨fj.mono (by omega) (fun c hc => by
          rcases hc with h | h | ⟨_, h, _⟩
          · exact .inl h
          · exact .inr h
          · exact absurd h (Nat.not_lt_zero _)), _, _, _, rfl⟩ (fun _ _ _ _ _ => True.intro) ?_ ?_
      · rintro i y σ H4 H' hi ⟨fi, uk, us, um, rfl⟩ ⟨rfl, rfl⟩
        obtain ⟨xs, ff, cc, z1, z2, z3, z4, z5, z6⟩ := id fi
        have gg : Gw H2 _ := g2b.trans (z4.trans Gw.rm_le)
        refine rd0 gg rfl rfl hj (rd1 gg rfl rfl hj ⟨_, _, rfl, rfl, rd0 gg rfl rfl hi ⟨_, _, rfl, rfl, rd1 gg rfl rfl hi ⟨_, _, rfl, rfl, ?_⟩⟩⟩)
        refine rd1 gg rfl rfl hi (rd1 gg rfl rfl hj ⟨_, _, rfl, rfl, ?_⟩)
        dsimp only
        have es : a j - b j - a i + b i = LP.slp a b j i := rfl
        have em : b i - b j = LP.mch b j i := rfl
        rw [es, em]
        have bs : (LP.slp a b j i).natAbs ≤ 36 := by
          have := cab j hj
          have := cab i hi
          unfold LP.slp; omega
        have bm : (LP.mch b j i).natAbs ≤ 18 := by
          have := cab j hj
          have := cab i hi
          unfold LP.mch; omega
        generalize hσ : LP.slp a b j i = sl at bs
        generalize hμ : LP.mch b j i = mu at bm
        have skip : ¬ LP.Crs a b j i → FoundAt K Hb Lf s a b (2 + j * s + (i + 1)) (fun c => (c = 0 ∨ c = 1) ∨ (∃ j' k', j' < j ∧ k' < s ∧ LP.Crs a b j' k' ∧ c = LP.crp a b j' k') ∨ ∃ k', k' < i + 1 ∧ LP.Crs a b j k' ∧ c = LP.crp a b j k') H' := fun hc => fi.mono (by omega) (fun c h => by
          rcases h with h | h | ⟨k', h1, h2, h3⟩
          · exact .inl h
          · exact .inr (.inl h)
          · by_cases q : k' < i
            · exact .inr (.inr ⟨k', q, h2, h3⟩)
            · have : k' = i := by omega
              subst this
              exact absurd h2 hc)
        refine ⟨_, rfl, rfl, _, rfl, ?_⟩
        by_cases c1 : sl = 0
        · rw [decide_eq_true (show V.int sl = V.int 0 by rw [c1])]
          exact iteF (iteF ⟨skip (fun z => z.1 (hσ.trans c1)), _, _, _, rfl⟩)
        rw [decide_eq_false (show ¬ V.int sl = V.int 0 from fun z => c1 (V.int.inj z))]
        refine iteT ?_
        have cm : ∀ x : Int, x.natAbs ≤ 36 → ∀ y, CMul y x := fun x hx y => mulR (by omega)
        refine ⟨_, rfl, _, rfl, _, _, rfl, rfl, cm _ bs _, _, _, rfl, rfl, _, rfl, ?_⟩
        by_cases c2 : 0 ≤ mu * sl
        · rw [decide_eq_true c2]
          refine iteT ⟨_, rfl, _, rfl, _, _, rfl, rfl, cm _ bs _, _, _, rfl, rfl, _, rfl, ?_⟩
          by_cases c3 : mu * sl ≤ sl * sl
          · rw [decide_eq_true c3]
            refine iteT ?_
            have cr : LP.Crs a b j i := by unfold LP.Crs; rw [hσ, hμ]; exact ⟨c1, c2, c3⟩
            have hc : LP.Cand s a b (LP.crp a b j i) := .inr (.inr ⟨j, i, hj, hi, cr, rfl⟩)
            refine ⟨_, rfl, .inl ⟨rfl, xs, SqL.of z1⟩, ?_⟩
            refine ⟨_, rfl, _, rfl, (show 2 ≤ sizeLine by decide), fun t2 e2 => ⟨_, rfl, (show 2 ≤ sizeLine by decide), fun t3 e3 => ?_⟩⟩
            have k2 := Gw.new (.tup [V.int mu, V.int 1]) e2
            have k3 := Gw.new (.tup [V.int sl, V.int 1]) e3
            have hs0 : ((sl : Int) : Rat) ≠ 0 := fun z => c1 (Rat.intCast_inj.mp (z.trans Rat.intCast_zero.symm))
            have ediv : ((mu : Int) : Rat) / ((sl : Int) : Rat) = Rat.divInt mu sl := (Rat.divInt_eq_div mu sl).symm
            obtain ⟨dn, dd⟩ := div_small (a := mu) c1
            refine ⟨_, _, (mu : Rat), (sl : Rat), rfl, (PAt.int (SqT.of upd_same) (Nat.le_trans bm (by decide +kernel))).gw k3, PAt.int (SqT.of upd_same) (Nat.le_trans bs (by decide +kernel)), hs0, ?_, fun u5 H5 k5 p5 => ?_⟩
            · rw [ediv]; exact ⟨Nat.le_trans dn (Nat.le_trans bm (by decide +kernel)), Nat.le_trans dd (Nat.le_trans bs (by decide +kernel))⟩
            have k45 := k2.trans (k3.trans k5)
            have p5 : PAt K H5 u5 (LP.crp a b j i) := by unfold LP.crp; rw [hσ, hμ]; exact p5
            refine ⟨_, _, s, a, b, LP.crp a b j i, rfl, tb.gw (gg.trans k45), p5, by omega, by omega, ?_, ?_, cab10, fun u6 H6 k6 ⟨f6, pf6, m6⟩ => ?_⟩
            · unfold LP.crp; rw [hσ, hμ, ediv]; omega
            · unfold LP.crp; rw [hσ, hμ, ediv]; omega
            have k46 := k45.trans k6
            obtain ⟨ys, y1, y2, y3⟩ := FoundAt.app (fi.gw k46) pf6 hc m6 (by
              have : j * s ≤ 4 * 4 := Nat.mul_le_mul (by omega) s4
              omega)
            refine ⟨Lf, ys, u6, rfl, rfl, y1, y2, y3.mono (by omega) (fun c h => ?_), _, _, _, rfl⟩
            rcases h with h | h | ⟨k', h1, h2, h3⟩
            · exact .inl (.inl h)
            · exact .inl (.inr (.inl h))
            · by_cases q : k' < i
              · exact .inl (.inr (.inr ⟨k', q, h2, h3⟩))
              · have : k' = i := by omega
                subst this
                exact .inr h3
          · rw [decide_eq_false c3]
            exact iteF ⟨skip (fun z => c3 (by have := z.2.2; rw [hσ, hμ] at this; exact this)), _, _, _, rfl⟩
        · rw [decide_eq_false c2]
          exact iteF ⟨_, rfl, iteF ⟨skip (fun z => c2 (by have := z.2.1; rw [hσ, hμ] at this; exact this)), _, _, _, rfl⟩⟩
      · rintro σ H4 ⟨fi, uk, us, um, rfl⟩
        refine ⟨fi.mono (by rw [Nat.succ_mul]; omega) (fun c hc => ?_), _, _, _, _, rfl⟩
        rcases hc with h | ⟨j', k', h1, h2, h3⟩
        · exact .inl h
        · by_cases q : j' < j
          · exact .inr (.inl ⟨j', k', q, h2, h3⟩)
          · have : j' = j := by omega
            subst this
            exact .inr (.inr ⟨k', h2, h3⟩)
    · rintro σ H3 ⟨⟨xs, ff, cc, z1, z2, z3, z4, z5, z6⟩, uj, uk, us, um, rfl⟩
      have gb3 : Gw Hb H3 := z4.trans Gw.rm_le
      refine ⟨_, rfl, ?_⟩
      refine ⟨_, xs.length, ff, rfl, ⟨Lf, xs, rfl, SqL.of z1, rfl, fun i hi => let ⟨⟨y, e, p⟩, _⟩ := z5 i hi; ⟨y, e, p.gw Gw.rm_le⟩⟩, z3, by
        have : s * s ≤ 4 * 4 := Nat.mul_le_mul s4 s4
        omega, fun v10 H4 g4 ⟨best, pb, ⟨ib, hib, eb⟩, hall⟩ => ?_⟩
      obtain ⟨_, hcb, hmb⟩ := z5 ib hib
      rw [eb] at hmb
      have uniq : ∀ {c v v'}, LP.IsMin s a b c v → LP.IsMin s a b c v' → v = v' := fun ⟨⟨j, hj, e⟩, h⟩ ⟨⟨j', hj', e'⟩, h'⟩ => by
        have h1 := h j' hj'
        have h2 := h' j hj
        rw [e'] at h1
        rw [e] at h2
        exact Rat.le_antisymm h1 h2
      have hb : ∀ c v, LP.Cand s a b c → LP.IsMin s a b c v → v ≤ best := fun c v hc hm => by
        have : ∃ i, i < xs.length ∧ cc i = c := by
          rcases hc with h | h | ⟨j, k', hj, hk, hcr, h⟩
          · exact z6 c (.inl (.inl h))
          · exact z6 c (.inl (.inr h))
          · exact z6 c (.inr ⟨j, k', hj, hk, hcr, h⟩)
        obtain ⟨i, hi, e⟩ := this
        obtain ⟨_, _, m⟩ := z5 i hi
        rw [e] at m
        rw [uniq hm m]
        exact hall i hi
      have opt := LP.game_opt (by omega) hcb hmb hb
      obtain ⟨bd, bnm⟩ := best_small hcb hmb cab
      have g24 := g2b.trans (gb3.trans g4)
      -- the answer
      refine ⟨_, rfl, p2, rws, rfl, .inl ⟨SqL.of ((gb3.trans g4).at rx), fun l1 el1 => ?_⟩⟩
      have k1 := Gw.new (.tup rws) el1
      refine ⟨_, rfl, 1, rfl, (show 3 ≤ sizeLine by decide), fun l2 el2 => ?_⟩
      have k2 := Gw.new (.lst [V.int 0, V.int 0, V.int (-1)]) el2
      refine ⟨l2, [0, 0, -1], rfl, SqL.of upd_same, (show 3 ≤ 1000 by decide), ?_, fun v11 H5 g5 r5 => ?_⟩
      · intro z hz
        simp only [List.mem_cons, List.not_mem_nil, or_false] at hz
        rcases hz with h | h | h <;> rw [h] <;> decide +kernel
      have k15 := k1.trans (k2.trans g5)
      obtain ⟨⟨ab, rfl, sb⟩, fb⟩ := PAt.gw pb k15
      refine ⟨_, rfl, _, _, _, _, rfl, rfl, sb, atI_nat (j := 0) rfl, _, _, rfl, rfl, _, rfl, _, _, _, _, rfl, rfl, sb, atI_nat (j := 1) rfl, (show 2 ≤ sizeLine by decide), fun l3 el3 => ⟨(show 4 ≤ sizeLine by decide), fun l4 el4 => ?_⟩⟩
      have k3 := Gw.new (.tup [V.int (0 - best.num), V.int (best.den : Int)]) el3
      have k4 := Gw.new (.tup [V.ref l1, v9, v11, V.ref l3]) el4
      have g2e := g24.trans (k15.trans (k3.trans k4))
      have gbe := (gb3.trans g4).trans (k15.trans (k3.trans k4))
      have nb : (0 : Rat) - best = - best := by grind
      obtain ⟨q1, q2⟩ := fin g2e
      refine k _ _ q1 q2 ⟨l4, .ref l1, v9, v11, .ref l3, s + 4, 3, fun j k => ((LP.gcol s a b j k : Int) : Rat), fun j => ((LP.gc s j : Int) : Rat), fun k => ((LP.gw k : Int) : Rat), rfl, SqT.of upd_same, ⟨?_, right.gw gbe, ?_, by decide, by omega, by decide⟩, by omega, by omega, ⟨by decide, fun j k' hj hk => ?_, fun k' hk => ?_⟩, fun j hj => ?_, .inr ⟨0 - best, .inr ⟨⟨l3, rfl, ?_⟩, ?_⟩, ?_, ?_, opt⟩⟩
      · exact ⟨l1, rws, rfl, (k2.trans (g5.trans (k3.trans k4))).sqT (SqT.of upd_same), lrows, fun j hj => let ⟨x, e, v⟩ := rit j hj; ⟨x, e, v.gw gbe⟩⟩
      · refine (VT.gw r5 (k3.trans k4)).congr fun k' hk => ?_
        have hk : k' = 0 ∨ k' = 1 ∨ k' = 2 := by
          have : k' < 3 := hk
          omega
        rcases hk with rfl | rfl | rfl <;> rfl
      · refine ⟨LP.isI_int _, LP.bd_int (B := 10) ?_⟩
        unfold LP.gcol
        split
        · rename_i hjs
          have := cab j hjs
          repeat' split
          all_goals omega
        · repeat' split
          all_goals decide
      · refine ⟨LP.isI_int _, LP.bd_int (B := 10) ?_⟩
        unfold LP.gw
        split <;> decide
      · refine ⟨LP.isI_int _, LP.bd_int (B := 10) ?_⟩
        unfold LP.gc
        repeat' split
        all_goals decide
      · rw [nb, Rat.neg_num, Rat.neg_den, ← Int.zero_sub]
        exact k4.sqT (SqT.of upd_same)
      · rw [nb]; exact fit_negR fb
      · rw [nb, Rat.neg_den]; exact bd
      · rw [nb, Rat.neg_num, Int.natAbs_neg]; exact bnm
end
end K44


set_option Elab.async false
set_option linter.all false
set_option maxRecDepth 100000
set_option maxHeartbeats 4000000
set_option exponentiation.threshold 3000
/-! The orders. -/
namespace K44
open PySem L2
open LP (Fit lim S)
abbrev sLOrders : Stmt := top 50
abbrev natV (n : Nat) : V := .int (n : Nat)
/-- a list of lists of numbers -/
def LLat (H : Hp) (L : Addr) (os : List (List Nat)) : Prop := ∃ vs, H L = some (.lst vs) ∧ vs.length = os.length ∧ ∀ (i : Nat) (o : List Nat), os[i]? = some o → ∃ b, vs[i]? = some (V.ref b) ∧ H b = some (.lst (o.map natV))
def insAll (k : Nat) (row : List Nat) : List (List Nat) := (List.range (row.length + 1)).map fun p => row.take p ++ [k] ++ row.drop p
def stepO (k : Nat) (os : List (List Nat)) : List (List Nat) := os.flatMap (insAll k)
def ordersF : Nat → List (List Nat)
  | 0 => [[]]
  | k + 1 => stepO k (ordersF k)
theorem orders_perms : ordersF 1 = LP.perms 1 ∧ ordersF 2 = LP.perms 2 ∧ ordersF 3 = LP.perms 3 := by decide
theorem LLat.gw {H H' : Hp} {L : Addr} {os : List (List Nat)} (h : LLat H L os) (g : Gw H H') : LLat H' L os := by
  obtain ⟨vs, h1, h2, h3⟩ := h
  exact ⟨vs, g.at h1, h2, fun i o e => let ⟨b, e1, e2⟩ := h3 i o e; ⟨b, e1, g.at e2⟩⟩
theorem LLat.app {H : Hp} {L1 L2 p : Addr} {o1 o2 : List (List Nat)} {xs ys : List V} (h1 : LLat H L1 o1) (h2 : LLat H L2 o2) (e1 : H L1 = some (.lst xs)) (e2 : H L2 = some (.lst ys)) (hp : H p = none) : LLat (upd H p (.lst (xs ++ ys))) p (o1 ++ o2) := by
  obtain ⟨vs, a1, a2, a3⟩ := h1
  obtain ⟨ws, b1, b2, b3⟩ := h2
  rw [e1] at a1; cases a1
  rw [e2] at b1; cases b1
  have g := Gw.new (.lst (xs ++ ys)) hp
  refine ⟨_, upd_same, by rw [List.length_append, List.length_append, a2, b2], fun i o h => ?_⟩
  by_cases c : i < o1.length
  · rw [List.getElem?_append_left c] at h
    obtain ⟨b, x1, x2⟩ := a3 i o h
    exact ⟨b, by rw [List.getElem?_append_left (by omega)]; exact x1, g.at x2⟩
  · rw [List.getElem?_append_right (by omega)] at h
    obtain ⟨b, x1, x2⟩ := b3 _ o h
    exact ⟨b, by rw [List.getElem?_append_right (by omega), a2]; exact x1, g.at x2⟩
theorem orders_small : ∀ i, i ≤ 3 → (ordersF i).length ≤ 6 ∧ ∀ o, o ∈ ordersF i → o.length ≤ 3 := by decide
theorem take_fm (os : List (List Nat)) (f : List Nat → List (List Nat)) (j : Nat) : ((os.take j).flatMap f).length ≤ (os.flatMap f).length := by
  have e : os.flatMap f = (os.take j).flatMap f ++ (os.drop j).flatMap f := by rw [← List.flatMap_append, List.take_append_drop]
  rw [e, List.length_append]; omega
theorem cut_take (xs : List V) {p : Nat} (h : p ≤ xs.length) : cutV xs none (some (p : Int)) = xs.take p := by
  unfold cutV
  rw [HT.sIx_none, HT.sIx_nat, List.drop_zero, Nat.sub_zero, Nat.min_eq_left h]
theorem cut_drop (xs : List V) {p : Nat} (h : p ≤ xs.length) : cutV xs (some (p : Int)) none = xs.drop p := by
  unfold cutV
  rw [HT.sIx_none, HT.sIx_nat, Nat.min_eq_left h, List.take_of_length_le (by rw [List.length_drop]; exact Nat.le_refl _)]
def spOrders : Sp := fun vs H Q _ => ∃ n : Nat, vs = [.int (n : Nat)] ∧ n ≤ 3 ∧ ∀ L H', Gw H H' → LLat H' L (ordersF n) → Q (.ref L) H'
section
variable {P : Program} {w : World} {K : PySem.W.Frag} {mg : Str → Option Value} {base : Heap}
theorem scLOrders : FnScope ["many", "found", "k", "later", "row", "place"] ["many"] (defScope sLOrders) := ⟨rfl, rfl, rfl, by decide +kernel, rfl, by decide +kernel, by decide +kernel⟩
theorem ok_lOrders {f : Addr} {fd : FuncData} (F : Fun K "_law_orders" "_law_orders" sLOrders f fd) (T : Txt K mg) : FnOk P w K mg base CX0 1 f fd ["many"] spOrders := by
  refine F.ok scLOrders (fun vs H Q E h => ?_) (fun cdv A outer s H vs Q E hr h => ?_)
  · obtain ⟨n, rfl, _⟩ := h
    rfl
  · obtain ⟨n, rfl, hn, k⟩ := h
    refine ⟨_, pss_cons (ps_set (i := 1) scLOrders.nd rfl (Or.inl rfl) (pe_lst (pa_cons (pe_lst pa_nil) pa_nil)))
      (pss_cons (ps_for PassesOwn.never rfl (pi_range1 rfl T.range (pa_cons (pv 0) pa_nil)) (pg_name (i := 2) scLOrders.nd rfl (Or.inr rfl))
        (pss_cons (ps_set (i := 3) scLOrders.nd rfl (Or.inl rfl) (pe_lst pa_nil))
        (pss_cons (ps_for PassesOwn.never rfl (pi_list (pv 1)) (pg_name (i := 4) scLOrders.nd rfl (Or.inr rfl))
          (pss_one (ps_set (i := 3) scLOrders.nd rfl (Or.inl rfl) (pe_op op_cat (pv 3) (pe_lc (own := [("place", 5)]) (g := gName 5) (tt := tYes) rfl scLOrders.nd (pi_range1 rfl T.range (pa_cons (pe_op op_add (pe_callB (lenK K) (by rfl) T.len PySem.boot_len (pa_cons (pv 4) pa_nil)) pe_int) pa_nil)) (blkOk_by (N := ["many", "found", "k", "later", "row", "place"]) (by kernel_rfl))
            (fun _ _ _ _ _ => pg_name (i := 5) scLOrders.nd rfl (Or.inl rfl)) (fun _ _ _ _ _ => pts_nil)
            (fun _ _ _ _ _ => pe_op op_cat (pe_op op_cat (pe_slice (slL K) (pv 4) po_none (po_some (pv 5))) (pe_lst (pa_cons (pv 2) pa_nil))) (pe_slice (slL K) (pv 4) (po_some (pv 5)) po_none)))))))
        (pss_one (ps_set (i := 1) scLOrders.nd rfl (Or.inl rfl) (pv 3))))))
      (pss_one (ps_ret (pv 1)))), ?_⟩
    refine ⟨(show 0 ≤ sizeLine by decide), fun b0 e0 => ⟨(show 1 ≤ sizeLine by decide), fun L0 e1 => ?_⟩⟩
    have q0 := Gw.new (.lst []) e0
    have q1 := Gw.new (.lst [V.ref b0]) e1
    have ll0 : LLat (upd (upd H b0 (.lst [])) L0 (.lst [V.ref b0])) L0 (ordersF 0) := ⟨_, upd_same, rfl, fun i o h => by
      have : i = 0 := by
        have := (List.getElem?_eq_some_iff.mp h).1
        simp only [ordersF, List.length_cons, List.length_nil] at this
        omega
      subst this
      cases h
      exact ⟨b0, rfl, q1.at upd_same⟩⟩
    refine ⟨_, rfl, (n : Int), rfl, by omega, by omega, ?_⟩
    refine for_it (walk_rangeN (N := n) (by omega)) (fun i σ H' => Gw H H' ∧ ∃ L u2 u3 u4, σ = [some (.int (n : Nat)), some (.ref L), u2, u3, u4, none] ∧ LLat H' L (ordersF i)) ⟨q0.trans q1, L0, _, _, _, rfl, ll0⟩ (fun _ _ _ _ _ => True.intro) ?_ ?_
    · rintro i y σ H1 H' hi ⟨g1, L, u2, u3, u4, rfl, ll⟩ ⟨rfl, rfl⟩
      obtain ⟨sm, sml⟩ := orders_small i (by omega)
      obtain ⟨sm', _⟩ := orders_small (i + 1) (by omega)
      refine ⟨(show 0 ≤ sizeLine by decide), fun L1 e2 => ?_⟩
      have q2 := Gw.new (.lst []) e2
      have ll2 := ll.gw q2
      obtain ⟨vs, w1, w2, w3⟩ := id ll2
      refine ⟨_, rfl, L, rfl, ⟨vs, SqL.of w1⟩, ?_⟩
      refine for_it (walk_listY (K := K) w2) (fun j σ H' => Gw (upd _ L1 (.lst [])) H' ∧ ∃ Lj u4, σ = [some (.int (n : Nat)), some (.ref L), some (.int (i : Nat)), some (.ref Lj), u4, none] ∧ LLat H' Lj (((ordersF i).take j).flatMap (insAll i)))
        ⟨Gw.refl _, L1, _, rfl, [], upd_same, rfl, fun i o h => by simp at h⟩ (fun j σ H' _ h => SqL.of (h.1.at w1)) ?_ ?_
      · rintro j y σ H2 H' hj ⟨g2, Lj, u4, rfl, lj⟩ ⟨rfl, hy⟩
        have ho : (ordersF i)[j]? = some (ordersF i)[j] := List.getElem?_eq_getElem (by omega)
        have hom := List.getElem_mem (l := ordersF i) (n := j) (by omega)
        generalize (ordersF i)[j] = o at ho hom
        obtain ⟨b, e3, hb⟩ := w3 j o ho
        rw [hy] at e3; cases e3
        have hb := g2.at hb
        have lo : o.length ≤ 3 := sml o hom
        have lmap : (o.map natV).length = o.length := List.length_map ..
        refine ⟨_, rfl, _, rfl, b, _, rfl, .inl (SqL.of hb), _, _, rfl, rfl, _, rfl, by omega, by omega, fun D1 hD1 => lc_grow (walk_rangeN (N := o.length + 1) (by omega)) hD1 (by omega) (fun p v H => ∃ b', v = .ref b' ∧ H b' = some (.lst ((o.take p ++ [i] ++ o.drop p).map natV)))
          (fun _ _ _ _ g ⟨b', e, h⟩ => ⟨b', e, g.at h⟩) (fun _ _ => True.intro) (fun p y H3 H4 hp _ g3 ⟨zs, hz⟩ hY C9 hC9 => ?_) (fun H3 zs g3 g3' hz lz iz => ?_)⟩
        · obtain ⟨rfl, rfl⟩ := hY
          have hb3 := g3.at hb
          refine ⟨rfl, _, rfl, _, rfl, _, rfl, b, _, rfl, SqL.of hb3, fun p1 f1 => ?_⟩
          have r1 := Gw.new (.lst (cutV (o.map natV) none (some (p : Int)))) f1
          refine ⟨_, rfl, (show 1 ≤ sizeLine by decide), fun p2 f2 => ?_⟩
          have r2 := Gw.new (.lst [V.int (i : Nat)]) f2
          refine ⟨p1, p2, _, _, rfl, rfl, r2.at upd_same, upd_same, ?_, fun p3 f3 => ?_⟩
          · have := cutV_length (o.map natV) none (some (p : Int))
            exact Nat.le_trans (show _ ≤ 4 by rw [lmap] at this; show _ + 1 ≤ 4; omega) (by decide)
          have r3 := Gw.new (.lst (cutV (o.map natV) none (some (p : Int)) ++ [V.int (i : Nat)])) f3
          refine ⟨_, rfl, _, rfl, _, rfl, b, _, rfl, SqL.of ((r1.trans (r2.trans r3)).at hb3), fun p4 f4 => ?_⟩
          have r4 := Gw.new (.lst (cutV (o.map natV) (some (p : Int)) none)) f4
          refine ⟨p3, p4, _, _, rfl, rfl, r4.at upd_same, upd_same, ?_, fun p5 f5 => ?_⟩
          · have h1 := cutV_length (o.map natV) none (some (p : Int))
            have h2 := cutV_length (o.map natV) (some (p : Int)) none
            rw [List.length_append]
            exact Nat.le_trans (show _ ≤ 7 by rw [lmap] at h1 h2; show _ + 1 + _ ≤ 7; omega) (by decide)
          have r5 := Gw.new (.lst ((cutV (o.map natV) none (some (p : Int)) ++ [V.int (i : Nat)]) ++ cutV (o.map natV) (some (p : Int)) none)) f5
          have r15 := r1.trans (r2.trans (r3.trans (r4.trans r5)))
          have hz5 := r15.at hz
          have ne5 : p5 ≠ D1 := fun z => by rw [z] at f5; rw [(r1.trans (r2.trans (r3.trans r4))).at hz] at f5; cases f5
          refine hC9 _ _ r15 ⟨p5, rfl, ?_⟩
          rw [rm_ne ne5, upd_same, cut_take _ (by omega), cut_drop _ (by omega)]
          congr 2
          rw [List.map_append, List.map_append, List.map_take, List.map_drop]
          rfl
        · obtain ⟨xs, x1, x2, x3⟩ := id (lj.gw g3)
          have nl : LLat H3 D1 (insAll i o) := by
            refine ⟨zs, hz, by rw [lz]; unfold insAll; rw [List.length_map, List.length_range], fun p o' ho' => ?_⟩
            unfold insAll at ho'
            rw [List.getElem?_map] at ho'
            have hp : p < o.length + 1 := by
              refine Nat.lt_of_not_le fun z => ?_
              rw [List.getElem?_eq_none (by rw [List.length_range]; exact z)] at ho'
              cases ho'
            rw [List.getElem?_range hp] at ho'
            cases ho'
            obtain ⟨y, e, b', rfl, hb'⟩ := iz p hp
            exact ⟨b', e, Gw.rm_le.at hb'⟩
          have lf := take_fm (ordersF i) (insAll i) j
          have lf2 : ((ordersF i).flatMap (insAll i)).length ≤ 6 := sm'
          refine ⟨Lj, D1, xs, zs, rfl, rfl, x1, hz, ?_, fun p9 f9 => ⟨g2.trans (g3.trans (Gw.new _ f9)), p9, _, rfl, ?_⟩⟩
          · rw [x2, lz]; exact Nat.le_trans (show _ ≤ 20 by omega) (by decide)
          · have := LLat.app (lj.gw g3) nl x1 hz f9
            rw [List.take_succ, ho, List.flatMap_append]
            show LLat _ p9 (_ ++ [o].flatMap (insAll i))
            rw [List.flatMap_singleton]
            exact this
      · rintro σ H2 ⟨g2, Lj, u4, rfl, lj⟩
        rw [List.take_length] at lj
        exact ⟨_, rfl, g1.trans (q2.trans g2), Lj, _, _, _, rfl, lj⟩
    · rintro σ H1 ⟨g1, L, u2, u3, u4, rfl, ll⟩
      exact ⟨_, rfl, k _ _ g1 ll⟩
end
end K44


set_option Elab.async false
set_option linter.all false
set_option maxRecDepth 100000
set_option maxHeartbeats 4000000
set_option exponentiation.threshold 3000
/-! Rows and right sides as they grow. -/
namespace K44
open PySem L2
open LP (Fit lim S)
/-- N rows at Lr, N right sides at Lq, the rest grown from H0 -/
structure RR (K : PySem.W.Frag) (H0 H : Hp) (Lr Lq : Addr) (n N : Nat) (rf : Nat → Nat → Int) (cf : Nat → Int) : Prop where
  ne : Lr ≠ Lq
  g : Gw H0 (R2 H Lr Lq)
  rows : ∃ vs, H Lr = some (.lst vs) ∧ vs.length = N ∧ ∀ i, i < N → ∃ x, vs[i]? = some x ∧ VT K (R2 H Lr Lq) x n (fun k => ((rf i k : Int) : Rat))
  right : ∃ vs, H Lq = some (.lst vs) ∧ vs.length = N ∧ ∀ i, i < N → vs[i]? = some (V.int (cf i))
section
variable {K : PySem.W.Frag} {H0 H H' : Hp} {Lr Lq : Addr} {n N : Nat} {rf : Nat → Nat → Int} {cf : Nat → Int}
theorem RR.gw (h : RR K H0 H Lr Lq n N rf cf) (g : Gw H H') : RR K H0 H' Lr Lq n N rf cf where
  ne := h.ne
  g := h.g.trans (g.r2 Lr Lq)
  rows := let ⟨vs, a, b, c⟩ := h.rows; ⟨vs, g.at a, b, fun i hi => let ⟨x, e, v⟩ := c i hi; ⟨x, e, v.gw (g.r2 Lr Lq)⟩⟩
  right := let ⟨vs, a, b, c⟩ := h.right; ⟨vs, g.at a, b, c⟩
theorem RR.le (h : RR K H0 H Lr Lq n N rf cf) : Gw H0 H := h.g.trans Gw.r2_le
theorem VT.r2 {v : V} {f : Nat → Rat} {xs ys : List V} (h : VT K H v n f) (hR : H Lr = some (.lst xs)) (hB : H Lq = some (.lst ys)) (ne : Lr ≠ Lq) : VT K (R2 H Lr Lq) v n f :=
  (h.rm hR).rm (by rw [rm_ne ne.symm]; exact hB)
/-- two new empty lists -/
theorem RR.new {p q : Addr} (hp : H p = none) (hq : upd H p (.lst []) q = none) : RR K H (upd (upd H p (.lst [])) q (.lst [])) p q n 0 rf cf := by
  have ne : p ≠ q := fun z => by rw [← z, upd_same] at hq; cases hq
  refine ⟨ne, ?_, ⟨[], by rw [upd_ne ne]; exact upd_same, rfl, fun i hi => absurd hi (Nat.not_lt_zero _)⟩, ⟨[], upd_same, rfl, fun i hi => absurd hi (Nat.not_lt_zero _)⟩⟩
  rw [r2_updB ne, r2_updR]
  have hq0 : H q = none := by rwa [upd_ne ne.symm] at hq
  show Gw H (rm (rm H p) q)
  rw [rm_none hp, rm_none hq0]
  exact Gw.refl _
/-- a row is put behind -/
theorem RR.put (h : RR K H0 H Lr Lq n N rf cf) {x : V} (hx : VT K H x n (fun k => ((rf N k : Int) : Rat))) : ∃ xs ys, H Lr = some (.lst xs) ∧ xs.length = N ∧ upd H Lr (.lst (xs ++ [x])) Lq = some (.lst ys) ∧ ys.length = N ∧
    ∀ z, z = cf N → RR K H0 (upd (upd H Lr (.lst (xs ++ [x]))) Lq (.lst (ys ++ [V.int z]))) Lr Lq n (N + 1) rf cf := by
  obtain ⟨xs, a1, a2, a3⟩ := h.rows
  obtain ⟨ys, b1, b2, b3⟩ := h.right
  refine ⟨xs, ys, a1, a2, by rw [upd_ne h.ne.symm]; exact b1, b2, fun z hz => ?_⟩
  have e : R2 (upd (upd H Lr (.lst (xs ++ [x]))) Lq (.lst (ys ++ [V.int z]))) Lr Lq = R2 H Lr Lq := by rw [r2_updB h.ne, r2_updR]
  refine ⟨h.ne, by rw [e]; exact h.g, ⟨xs ++ [x], by rw [upd_ne h.ne]; exact upd_same, by rw [List.length_append, a2]; rfl, fun i hi => ?_⟩, ⟨ys ++ [V.int z], upd_same, by rw [List.length_append, b2]; rfl, fun i hi => ?_⟩⟩
  · rw [e]
    by_cases c : i < N
    · obtain ⟨y, ey, vy⟩ := a3 i c
      exact ⟨y, by rw [List.getElem?_append_left (by omega)]; exact ey, vy⟩
    · have : i = N := by omega
      subst this
      exact ⟨x, by rw [List.getElem?_append_right (by omega), a2, Nat.sub_self]; rfl, hx.r2 a1 b1 h.ne⟩
  · by_cases c : i < N
    · rw [List.getElem?_append_left (by omega)]; exact b3 i c
    · have : i = N := by omega
      subst this
      rw [List.getElem?_append_right (by omega), b2, Nat.sub_self, hz]; rfl
/-- two more, in new lists -/
theorem RR.two (h : RR K H0 H Lr Lq n N rf cf) {x y : V} {p q : Addr} {xs ys : List V} {z1 z2 : Int} (hx : VT K H x n (fun k => ((rf N k : Int) : Rat))) (hy : VT K H y n (fun k => ((rf (N + 1) k : Int) : Rat)))
    (e1 : H Lr = some (.lst xs)) (hp : H p = none) (g : Gw (upd H p (.lst (xs ++ [x, y]))) H') (e2 : H' Lq = some (.lst ys)) (hq : H' q = none) (c1 : z1 = cf N) (c2 : z2 = cf (N + 1)) :
    RR K H0 (upd H' q (.lst (ys ++ [V.int z1, V.int z2]))) p q n (N + 2) rf cf := by
  obtain ⟨xs', a1, a2, a3⟩ := h.rows
  rw [e1] at a1; cases a1
  obtain ⟨ys', b1, b2, b3⟩ := h.right
  have gp := Gw.new (.lst (xs ++ [x, y])) hp
  have gH := gp.trans g
  rw [gH.at b1] at e2; cases e2
  have ne : p ≠ q := fun z => by rw [← z, g.at upd_same] at hq; cases hq
  have gq := Gw.new (.lst (ys ++ [V.int z1, V.int z2])) hq
  -- what stood before stands without the new lists
  have g2 : Gw H (R2 (upd H' q (.lst (ys ++ [V.int z1, V.int z2]))) p q) := by
    have hq0 : H q = none := gH.free hq
    have h1 : Gw (R2 H p q) (R2 H' p q) := gH.r2 p q
    rw [show R2 H p q = H from by show rm (rm H p) q = H; rw [rm_none hp, rm_none hq0]] at h1
    rw [r2_updB ne]; exact h1
  refine ⟨ne, h.le.trans g2, ⟨xs ++ [x, y], by rw [upd_ne ne]; exact g.at upd_same, by rw [List.length_append, a2]; rfl, fun i hi => ?_⟩, ⟨_, upd_same, by rw [List.length_append, b2]; rfl, fun i hi => ?_⟩⟩
  · by_cases c : i < N
    · obtain ⟨y, ey, vy⟩ := a3 i c
      exact ⟨y, by rw [List.getElem?_append_left (by omega)]; exact ey, (vy.gw Gw.r2_le).gw g2⟩
    · have : i = N ∨ i = N + 1 := by omega
      rcases this with rfl | rfl
      · exact ⟨x, by rw [List.getElem?_append_right (by omega), a2, Nat.sub_self]; rfl, hx.gw g2⟩
      · exact ⟨y, by rw [List.getElem?_append_right (by omega), a2, Nat.add_sub_cancel_left]; rfl, hy.gw g2⟩
  · by_cases c : i < N
    · rw [List.getElem?_append_left (by omega)]; exact b3 i c
    · have : i = N ∨ i = N + 1 := by omega
      rcases this with rfl | rfl
      · rw [List.getElem?_append_right (by omega), b2, Nat.sub_self, c1]; rfl
      · rw [List.getElem?_append_right (by omega), b2, Nat.add_sub_cancel_left, c2]; rfl
end
theorem vs_ints {vs : List V} {N : Nat} {cf : Nat → Int} (h : vs.length = N) (e : ∀ i, i < N → vs[i]? = some (V.int (cf i))) : vs = ((List.range N).map cf).map V.int := by
  apply List.ext_getElem?
  intro i
  by_cases c : i < N
  · rw [e i c, List.getElem?_map, List.getElem?_map, List.getElem?_range c]; rfl
  · rw [List.getElem?_eq_none (by omega), List.getElem?_eq_none (by rw [List.length_map, List.length_map, List.length_range]; omega)]
theorem range_getD {N : Nat} {cf : Nat → Int} {i : Nat} (h : i < N) : ((List.range N).map cf).getD i 0 = cf i := by
  rw [List.getD_eq_getElem?_getD, List.getElem?_map, List.getElem?_range h]; rfl
/-- a list of whole numbers, still open -/
def IL (H : Hp) (v : V) (n : Nat) (f : Nat → Int) : Prop := ∃ a vs, v = .ref a ∧ H a = some (.lst vs) ∧ vs.length = n ∧ ∀ i, i < n → vs[i]? = some (V.int (f i))
theorem IL.gw {H H' : Hp} {v : V} {n : Nat} {f : Nat → Int} (h : IL H v n f) (g : Gw H H') : IL H' v n f := let ⟨a, vs, e, s, r⟩ := h; ⟨a, vs, e, g.at s, r⟩
end K44


set_option Elab.async false
set_option linter.all false
set_option maxRecDepth 100000
set_option maxHeartbeats 4000000
set_option exponentiation.threshold 3000
/-! The assignment. -/
namespace K44
open PySem L2
open LP (Fit lim S)
abbrev sLAssign : Stmt := top 51
abbrev nmA : List Str := ["draws", "many", "prices", "rows", "right", "k", "pairs", "goal", "row", "due", "j", "i", "place", "number", "order"]
theorem sumK {X : Cx} (K : PySem.W.Frag) (hc : X.calm = true := by rfl) (h : X.K = K := by rfl) : CallR X (.builtin "sum") (rSum K) := by subst h; exact cr_sum hc
theorem minK' {X : Cx} (K : PySem.W.Frag) (hc : X.calm = true := by rfl) (h : X.K = K := by rfl) : CallR X (.builtin "min") (rMin K) := by subst h; exact cr_min hc
def psA (s k u : Nat) (z : Int) : List (Nat × Int) := (List.range s).map fun j => (if u = 0 then k * s + j else j * s + k, z)
theorem psA_row : ∀ s, s ∈ [1, 2, 3] → ∀ k, k < s → ∀ k', k' < s * s → rowF (psA s k 0 1) k' = LP.acol s (4 * k) k' ∧ rowF (psA s k 0 (-1)) k' = LP.acol s (4 * k + 1) k' ∧ rowF (psA s k 1 1) k' = LP.acol s (4 * k + 2) k' ∧ rowF (psA s k 1 (-1)) k' = LP.acol s (4 * k + 3) k' := by decide +kernel
theorem one_row : ∀ s, s ∈ [1, 2, 3] → ∀ k, k < s * s → ∀ k', k' < s * s → rowF [(k, 1)] k' = LP.acol s (4 * s + k) k' := by decide +kernel
theorem psA_lt : ∀ s, s ∈ [1, 2, 3] → ∀ k, k < s → ∀ u, u < 2 → ∀ z, z ∈ [(1 : Int), -1] → ∀ pr, pr ∈ psA s k u z → pr.1 < s * s := by decide +kernel
theorem acol_small : ∀ s, s ∈ [1, 2, 3] → ∀ i, i < 4 * s + s * s → ∀ k, k < s * s → (LP.acol s i k).natAbs ≤ 1 := by decide +kernel
theorem ac_small (s i : Nat) : (LP.ac s i).natAbs ≤ 1 := by
  unfold LP.ac
  repeat' split
  all_goals decide
theorem ac_at (s k : Nat) (hk : k < s) : LP.ac s (4 * k) = 1 ∧ LP.ac s (4 * k + 1) = -1 ∧ LP.ac s (4 * k + 2) = 1 ∧ LP.ac s (4 * k + 3) = -1 := by
  unfold LP.ac
  refine ⟨?_, ?_, ?_, ?_⟩
  · rw [if_pos (by omega), if_pos (by omega)]
  · rw [if_pos (by omega), if_neg (by omega)]
  · rw [if_pos (by omega), if_pos (by omega)]
  · rw [if_pos (by omega), if_neg (by omega)]
theorem SI_sum (f : Nat → Int) : ∀ n, ((List.range n).map f).sum = LP.SI n f
  | 0 => rfl
  | n + 1 => by
    rw [List.range_succ, List.map_append, List.sum_append, SI_sum f n]
    show LP.SI n f + (f n + 0) = LP.SI n f + f n
    omega
section
variable {P : Program} {w : World} {K : PySem.W.Frag} {mg : Str → Option Value} {base : Heap}
theorem scLAssign : FnScope nmA ["draws"] (defScope sLAssign) := ⟨rfl, rfl, rfl, by decide +kernel, rfl, by decide +kernel, by decide +kernel⟩
theorem ok_lAssign {f : Addr} {fd : FuncData} (F : Fun K "_law_assignment" "_law_assignment" sLAssign f fd) (T : Txt K mg) (C1 : CTake P w K mg base) (C2' : CParts P w K mg base) (C3 : CRow P w K mg base) (C4 : Cal P w K mg base "_law_orders" 1 ["many"] spOrders) :
    FnOk P w K mg base CX0 2 f fd ["draws"] (spBuild K) := by
  refine F.ok scLAssign (fun vs H Q E h => ?_) (fun cdv A outer s H vs Q E hr h => ?_)
  · obtain ⟨D, rfl, _⟩ := h
    rfl
  · obtain ⟨D, rfl, hD, k⟩ := h
    refine ⟨_, pss_cons (ps_set (i := 1) scLAssign.nd rfl (Or.inr rfl) (pe_op op_add pe_int (pe_call C1.ok hr rfl C1.hm C1.kp C1.b .nil pass0 (pa_cons (pv 0) (pa_cons pe_int pa_nil)))))
      (pss_cons (ps_set (i := 2) scLAssign.nd rfl (Or.inr rfl) (pe_lc (own := [("i", 11)]) (g := gName 11) (tt := tYes) rfl scLAssign.nd (pi_range1 rfl T.range (pa_cons (pv 1) pa_nil)) (blkOk_by (N := nmA) (by kernel_rfl))
          (fun _ _ _ _ _ => pg_name (i := 11) scLAssign.nd rfl (Or.inl rfl)) (fun _ _ _ _ _ => pts_nil)
          (fun _ _ _ _ _ => pe_lc (own := [("j", 10)]) (g := gName 10) (tt := tYes) rfl scLAssign.nd (pi_range1 rfl T.range (pa_cons (pv 1) pa_nil)) (blkOk_by (N := nmA) (by kernel_rfl))
            (fun _ _ _ _ _ => pg_name (i := 10) scLAssign.nd rfl (Or.inl rfl)) (fun _ _ _ _ _ => pts_nil)
            (fun _ _ _ _ _ => pe_op op_sub (pe_call C1.ok hr rfl C1.hm C1.kp C1.b .nil pass0 (pa_cons (pv 0) (pa_cons pe_int pa_nil))) pe_int))))
      (pss_cons (ps_par (i := 3) (j := 4) rfl scLAssign.nd rfl rfl (by decide) rfl rfl (pa_cons (pe_lst pa_nil) (pa_cons (pe_lst pa_nil) pa_nil)) rfl)
      (pss_cons (ps_for PassesOwn.never rfl (pi_range1 rfl T.range (pa_cons (pv 1) pa_nil)) (pg_name (i := 5) scLAssign.nd rfl (Or.inr rfl))
        (pss_one (ps_for PassesOwn.never rfl (pi_list (pe_lst (pa_cons
              (pe_lc (own := [("j", 10)]) (g := gName 10) (tt := tYes) rfl scLAssign.nd (pi_range1 rfl T.range (pa_cons (pv 1) pa_nil)) (blkOk_by (N := nmA) (by kernel_rfl))
                (fun _ _ _ _ _ => pg_name (i := 10) scLAssign.nd rfl (Or.inl rfl)) (fun _ _ _ _ _ => pts_nil) (fun _ _ _ _ _ => pe_tup (pa_cons (pe_op op_add (pe_op op_mul (pv 5) (pv 1)) (pv 10)) (pa_cons pe_int pa_nil)))) (pa_cons
              (pe_lc (own := [("j", 10)]) (g := gName 10) (tt := tYes) rfl scLAssign.nd (pi_range1 rfl T.range (pa_cons (pv 1) pa_nil)) (blkOk_by (N := nmA) (by kernel_rfl))
                (fun _ _ _ _ _ => pg_name (i := 10) scLAssign.nd rfl (Or.inl rfl)) (fun _ _ _ _ _ => pts_nil) (fun _ _ _ _ _ => pe_tup (pa_cons (pe_op op_add (pe_op op_mul (pv 10) (pv 1)) (pv 5)) (pa_cons pe_int pa_nil)))) pa_nil)))) (pg_name (i := 6) scLAssign.nd rfl (Or.inl rfl))
          (pss_cons (ps_set (i := 3) scLAssign.nd rfl (Or.inl rfl) (pe_op op_cat (pv 3) (pe_lst (pa_cons
              (pe_call C3.ok hr rfl C3.hm C3.kp C3.b .nil pass0 (pa_cons (pe_op op_mul (pv 1) (pv 1)) (pa_cons (pv 6) pa_nil))) (pa_cons
              (pe_call C3.ok hr rfl C3.hm C3.kp C3.b .nil pass0 (pa_cons (pe_op op_mul (pv 1) (pv 1)) (pa_cons (pe_lc (own := [("place", 12), ("number", 13)]) (g := gTup K 2 (gCons (gName 12) (gCons (gName 13) gNil))) (tt := tYes) rfl scLAssign.nd (listK K (pv 6)) (blkOk_by (N := nmA) (by kernel_rfl))
                (fun _ _ _ _ _ => pg_tup rfl (pgs_cons (pg_name (i := 12) scLAssign.nd rfl (Or.inl rfl)) (pgs_cons (pg_name (i := 13) scLAssign.nd rfl (Or.inl rfl)) pgs_nil))) (fun _ _ _ _ _ => pts_nil) (fun _ _ _ _ _ => pe_tup (pa_cons (pv 12) (pa_cons (pe_un un_neg pe_int) pa_nil)))) pa_nil))) pa_nil)))))
          (pss_one (ps_set (i := 4) scLAssign.nd rfl (Or.inl rfl) (pe_op op_cat (pv 4) (pe_lst (pa_cons pe_int (pa_cons (pe_un un_neg pe_int) pa_nil))))))))))
      (pss_cons (ps_for PassesOwn.never rfl (pi_range1 rfl T.range (pa_cons (pe_op op_mul (pv 1) (pv 1)) pa_nil)) (pg_name (i := 5) scLAssign.nd rfl (Or.inr rfl))
        (pss_cons (ps_expr (pe_bm PySem.F.plainAttrs_list PySem.F.slot_list_append PySem.F.type_list_append mt_append (pv 3) (pa_cons (pe_call C3.ok hr rfl C3.hm C3.kp C3.b .nil pass0 (pa_cons (pe_op op_mul (pv 1) (pv 1)) (pa_cons (pe_lst (pa_cons (pe_tup (pa_cons (pv 5) (pa_cons pe_int pa_nil))) pa_nil)) pa_nil))) pa_nil)))
        (pss_one (ps_expr (pe_bm PySem.F.plainAttrs_list PySem.F.slot_list_append PySem.F.type_list_append mt_append (pv 4) (pa_cons pe_int pa_nil))))))
      (pss_cons (ps_set (i := 7) scLAssign.nd rfl (Or.inl rfl) (pe_lst pa_nil))
      (pss_cons (ps_for PassesOwn.never rfl (pi_list (pv 2)) (pg_name (i := 8) scLAssign.nd rfl (Or.inl rfl)) (pss_one (ps_set (i := 7) scLAssign.nd rfl (Or.inl rfl) (pe_op op_cat (pv 7) (pv 8)))))
      (pss_cons (ps_set (i := 9) scLAssign.nd rfl (Or.inl rfl) (pe_callB (minK' K) rfl T.min (by decide +kernel) (pa_cons
          (pe_lc (own := [("order", 14)]) (g := gName 14) (tt := tYes) rfl scLAssign.nd (listK K (pe_call C4.ok hr rfl C4.hm C4.kp C4.b .nil pass0 (pa_cons (pv 1) pa_nil))) (blkOk_by (N := nmA) (by kernel_rfl))
            (fun _ _ _ _ _ => pg_name (i := 14) scLAssign.nd rfl (Or.inr rfl)) (fun _ _ _ _ _ => pts_nil)
            (fun _ _ _ _ _ => pe_callB (sumK K) rfl T.sum (by decide +kernel) (pa_cons
              (pe_lc (own := [("i", 11)]) (g := gName 11) (tt := tYes) rfl scLAssign.nd (pi_range1 rfl T.range (pa_cons (pv 1) pa_nil)) (blkOk_by (N := nmA) (by kernel_rfl))
                (fun _ _ _ _ _ => pg_name (i := 11) scLAssign.nd rfl (Or.inl rfl)) (fun _ _ _ _ _ => pts_nil)
                (fun _ _ _ _ _ => pe_ix (ixL K) (pe_ix (ixL K) (pv 2) (pv 11) (fun _ _ => rfl)) (pe_ix (ixL K) (pv 14) (pv 11) (fun _ _ => rfl)) (fun _ _ => rfl))) pa_nil))) pa_nil)))
      (pss_one (ps_ret (pe_tup (pa_cons (pe_callTy call_tuple_of (by rfl) T.tuple (by decide +kernel) (pa_cons (pv 3) pa_nil)) (pa_cons (pe_call C2'.ok hr rfl C2'.hm C2'.kp C2'.b .nil pass0 (pa_cons (pv 4) pa_nil))
        (pa_cons (pe_call C2'.ok hr rfl C2'.hm C2'.kp C2'.b .nil pass0 (pa_cons (pv 7) pa_nil)) (pa_cons (pv 9) pa_nil)))))))))))))), ?_⟩
    refine ⟨_, rfl, D, 3, rfl, by decide, hD, fun v1 H1 a0 a1 g1 d1 => ⟨_, _, rfl, rfl, ?_⟩⟩
    obtain ⟨s, hs, s1, s3⟩ : ∃ s : Nat, 1 + v1 = (s : Int) ∧ 1 ≤ s ∧ s ≤ 3 := ⟨(1 + v1).toNat, by omega, by omega, by omega⟩
    dsimp only
    rw [hs]
    have sm : s ∈ [1, 2, 3] := by
      simp only [List.mem_cons, List.not_mem_nil, or_false]; omega
    have ss9 : s * s ≤ 9 := Nat.mul_le_mul s3 s3
    -- prices
    refine ⟨_, rfl, (s : Int), rfl, by omega, by omega, fun L hL => lc_growD (walk_rangeN (N := s) (by omega)) hL d1 (by omega) (fun i v H => ∃ f : Nat → Int, IL H v s f ∧ ∀ j, j < s → -4 ≤ f j ∧ f j ≤ 10) (fun _ _ _ _ g ⟨f, h, b⟩ => ⟨f, h.gw g, b⟩)
      (fun _ _ => True.intro) (fun i y H2 H' hi g2 d2 ⟨zs, hz⟩ hY C9 hC9 => ?_) (fun H2 zs g2 d2 hz neL lz iz => ?_)⟩
    · obtain ⟨rfl, rfl⟩ := hY
      refine ⟨rfl, _, rfl, (s : Int), rfl, by omega, by omega, fun L2 hL2 => lc_growD (walk_rangeN (N := s) (by omega)) hL2 d2 (by omega) (fun j v _ => ∃ z : Int, v = .int z ∧ -4 ≤ z ∧ z ≤ 10) (fun _ _ _ _ _ h => h)
        (fun _ _ => True.intro) (fun j y H3 H'' hj g3 d3 ⟨ws, hw⟩ hY C3 hC3 => ?_) (fun H3 ws g3 d3 hw neL2 lw iw => ?_)⟩
      · obtain ⟨rfl, rfl⟩ := hY
        exact ⟨rfl, _, rfl, D, 15, rfl, by decide, d3, fun v4 H4 b0 b1 g4 d4 => ⟨_, _, rfl, rfl, hC3 _ _ g4 d4 ⟨v4 - 4, rfl, by omega, by omega⟩⟩⟩
      · obtain ⟨f, hf, hb⟩ := ints_of (Pz := fun z => -4 ≤ z ∧ z ≤ 10) iw
        have ne2 : L2 ≠ L := fun z => by rw [z, hz] at hL2; cases hL2
        exact hC9 _ _ g3 d3 ⟨f, ⟨L2, ws, rfl, by rw [rm_ne ne2, rm_ne neL2]; exact hw, lw, hf⟩, hb⟩
    obtain ⟨p, hp⟩ : ∃ p : Nat → Nat → Int, ∀ i, i < s → (∃ y, zs[i]? = some y ∧ IL H2 y s (p i)) ∧ ∀ j, j < s → -4 ≤ p i j ∧ p i j ≤ 10 := by
      refine ⟨fun i => if h : i < s then Classical.choose (iz i h).choose_spec.2 else fun _ => 0, fun i hi => ?_⟩
      obtain ⟨h1, h2⟩ := (iz i hi).choose_spec
      have h3 := Classical.choose_spec h2
      simp only [dif_pos hi]
      exact ⟨⟨_, h1, (h3.1.gw Gw.rm_le).gw Gw.rm_le⟩, h3.2⟩
    have g02 := g1.trans g2
    clear iz g1 g2 d1
    have fin : ∀ {H'}, Gw H2 H' → Gw (rm H D) (rm H' D) ∧ Draws H' D := fun g => ⟨g02.trans g.rm, let ⟨ns, e⟩ := d2; ⟨ns, g.at e⟩⟩
    have cm : ∀ (x : Nat) (y : Int), x ≤ 3 → CMul y (x : Int) := fun x y h => mulR (by omega)
    have rb : ∀ {ps : List (Nat × Int)} {i : Nat}, i < 4 * s + s * s → (∀ k', k' < s * s → rowF ps k' = LP.acol s i k') → ∀ k', k' < s * s → (rowF ps k').natAbs ≤ lim := fun hi h k' hk' => by
      rw [h k' hk']
      exact Nat.le_trans (acol_small s sm _ hi k' hk') (by decide +kernel)
    -- rows, right = [], []
    refine ⟨(show 0 ≤ sizeLine by decide), fun p1 e1 => ⟨(show 0 ≤ sizeLine by decide), fun p2 e2 => ⟨_, _, rfl, ?_⟩⟩⟩
    have rr0 : RR K H2 _ p1 p2 (s * s) 0 (LP.acol s) (LP.ac s) := RR.new e1 e2
    refine ⟨_, rfl, (s : Int), rfl, by omega, by omega, ?_⟩
    refine for_it (walk_rangeN (N := s) (by omega)) (fun i σ H' => ∃ Lr Lq u5 u6, σ = [some (.ref D), some (.int (s : Nat)), some (.ref L), some (.ref Lr), some (.ref Lq), u5, u6, none, none, none, none, none, none, none, none] ∧ RR K H2 H' Lr Lq (s * s) (4 * i) (LP.acol s) (LP.ac s))
      ⟨p1, p2, _, _, rfl, rr0⟩ (fun _ _ _ _ _ => True.intro) ?_ ?_
    · rintro i y σ H3 H' hi ⟨Lr, Lq, u5, u6, rfl, rr⟩ ⟨rfl, rfl⟩
      obtain ⟨ca0, ca1, ca2, ca3⟩ := ac_at s i hi
      -- the two lists of pairs
      refine ⟨_, rfl, (s : Int), rfl, by omega, by omega, fun D1 hD1 => lc_grow (walk_rangeN (N := s) (by omega)) hD1 (by omega) (fun j v H => ∃ t, v = .ref t ∧ SqT K H t [.int ((i * s + j : Nat) : Int), .int 1]) (fun _ _ _ _ g ⟨t, e, h⟩ => ⟨t, e, g.sqT h⟩)
        (fun _ _ => True.intro) (fun j y H4 H5 hj _ g4 ⟨ws, hw⟩ hY C9 hC9 => ?_) (fun H4 zs0 g4 _ hz0 lz0 iz0 => ?_)⟩
      · obtain ⟨rfl, rfl⟩ := hY
        refine ⟨rfl, _, rfl, _, rfl, _, _, rfl, rfl, cm s _ s3, _, rfl, _, _, rfl, rfl, (show 2 ≤ sizeLine by decide), fun t ht => ?_⟩
        have gt := Gw.new (.tup [V.int ((i : Int) * (s : Int) + (j : Int)), V.int 1]) ht
        exact hC9 _ _ gt ⟨t, rfl, sqT_rm (SqT.of (by rw [show ((i * s + j : Nat) : Int) = (i : Int) * (s : Int) + (j : Int) by rw [Int.natCast_add, Int.natCast_mul]]; exact upd_same)) (gt.at hw)⟩
      refine ⟨_, rfl, (s : Int), rfl, by omega, by omega, fun D2 hD2 => lc_grow (walk_rangeN (N := s) (by omega)) hD2 (by omega) (fun j v H => ∃ t, v = .ref t ∧ SqT K H t [.int ((j * s + i : Nat) : Int), .int 1]) (fun _ _ _ _ g ⟨t, e, h⟩ => ⟨t, e, g.sqT h⟩)
        (fun _ _ => True.intro) (fun j y H5 H6 hj _ g5 ⟨ws, hw⟩ hY C9 hC9 => ?_) (fun H5 zs1 g5 _ hz1 lz1 iz1 => ?_)⟩
      · obtain ⟨rfl, rfl⟩ := hY
        refine ⟨rfl, _, rfl, _, rfl, _, _, rfl, rfl, cm s _ s3, _, rfl, _, _, rfl, rfl, (show 2 ≤ sizeLine by decide), fun t ht => ?_⟩
        have gt := Gw.new (.tup [V.int ((j : Int) * (s : Int) + (i : Int)), V.int 1]) ht
        exact hC9 _ _ gt ⟨t, rfl, sqT_rm (SqT.of (by rw [show ((j * s + i : Nat) : Int) = (j : Int) * (s : Int) + (i : Int) by rw [Int.natCast_add, Int.natCast_mul]]; exact upd_same)) (gt.at hw)⟩
      refine ⟨(show 2 ≤ sizeLine by decide), fun P hP => ⟨P, rfl, ⟨_, SqL.of upd_same⟩, ?_⟩⟩
      have gP := Gw.new (.lst [V.ref D1, V.ref D2]) hP
      have prs : ∀ u, u < 2 → ∃ a, [V.ref D1, V.ref D2][u]? = some (V.ref a) ∧ Prs K (upd H5 P (.lst [V.ref D1, V.ref D2])) (.ref a) (psA s i u 1) := fun u hu => by
        have hu : u = 0 ∨ u = 1 := by omega
        rcases hu with rfl | rfl
        · refine ⟨D1, rfl, D1, zs0, rfl, SqL.of ((g5.trans gP).at hz0), by unfold psA; rw [List.length_map, List.length_range, lz0], fun j pr hj => ?_⟩
          unfold psA at hj
          rw [List.getElem?_map] at hj
          have hjs : j < s := by
            refine Nat.lt_of_not_le fun z => ?_
            rw [List.getElem?_eq_none (by rw [List.length_range]; exact z)] at hj
            cases hj
          rw [List.getElem?_range hjs] at hj
          cases hj
          obtain ⟨y, e, t, rfl, ht⟩ := iz0 j hjs
          exact ⟨t, e, (Gw.rm_le.trans (g5.trans gP)).sqT ht⟩
        · refine ⟨D2, rfl, D2, zs1, rfl, SqL.of (gP.at hz1), by unfold psA; rw [List.length_map, List.length_range, lz1], fun j pr hj => ?_⟩
          unfold psA at hj
          rw [List.getElem?_map] at hj
          have hjs : j < s := by
            refine Nat.lt_of_not_le fun z => ?_
            rw [List.getElem?_eq_none (by rw [List.length_range]; exact z)] at hj
            cases hj
          rw [List.getElem?_range hjs] at hj
          cases hj
          obtain ⟨y, e, t, rfl, ht⟩ := iz1 j hjs
          exact ⟨t, e, (Gw.rm_le.trans gP).sqT ht⟩
      have rr := rr.gw (g4.trans (g5.trans gP))
      have xP : upd H5 P (.lst [V.ref D1, V.ref D2]) P = some (.lst [V.ref D1, V.ref D2]) := upd_same
      generalize upd H5 P (.lst [V.ref D1, V.ref D2]) = H6 at prs rr xP ⊢
      refine for_it (walk_listY (K := K) (xs := [V.ref D1, V.ref D2]) rfl) (fun u σ H' => Gw H6 H' ∧ ∃ Lr Lq u6, σ = [some (.ref D), some (.int (s : Nat)), some (.ref L), some (.ref Lr), some (.ref Lq), some (.int (i : Nat)), u6, none, none, none, none, none, none, none, none] ∧ RR K H2 H' Lr Lq (s * s) (4 * i + 2 * u) (LP.acol s) (LP.ac s))
        ⟨Gw.refl _, Lr, Lq, _, rfl, rr⟩ (fun u σ H' _ h => SqL.of (h.1.at xP)) ?_ ?_
      · rintro u y σ H7 H' hu ⟨g7, Lr, Lq, u6, rfl, rr⟩ ⟨rfl, hy⟩
        have hu : u < 2 := hu
        obtain ⟨a, ea, pa⟩ := prs u hu
        rw [hy] at ea; cases ea
        have pa := pa.gw g7
        have row1 : ∀ k', k' < s * s → rowF (psA s i u 1) k' = LP.acol s (4 * i + 2 * u) k' := fun k' hk' => by
          have := psA_row s sm i hi k' hk'
          have hu : u = 0 ∨ u = 1 := by omega
          rcases hu with rfl | rfl
          · exact this.1
          · exact this.2.2.1
        have row2 : ∀ k', k' < s * s → rowF (psA s i u (-1)) k' = LP.acol s (4 * i + 2 * u + 1) k' := fun k' hk' => by
          have := psA_row s sm i hi k' hk'
          have hu : u = 0 ∨ u = 1 := by omega
          rcases hu with rfl | rfl
          · exact this.2.1
          · exact this.2.2.2
        have lps : ∀ z, (psA s i u z).length = s := fun z => by unfold psA; rw [List.length_map, List.length_range]
        refine ⟨_, rfl, ?_⟩
        refine ⟨_, rfl, _, rfl, _, _, rfl, rfl, cm s _ s3, _, rfl, ?_⟩
        refine ⟨s * s, .ref a, psA s i u 1, by show [V.int ((s : Int) * (s : Int)), V.ref a] = [V.int ((s * s : Nat) : Int), V.ref a]; rw [Int.natCast_mul], pa, by omega, by rw [lps]; omega, psA_lt s sm i hi u hu 1 (by decide), rb (by omega) row1, fun v8 H8 g8 r8 => ?_⟩
        refine ⟨_, rfl, _, rfl, _, _, rfl, rfl, cm s _ s3, ?_⟩
        obtain ⟨aa, vs, eaa, sa, la, ia⟩ := pa.gw g8
        cases eaa
        refine ⟨_, rfl, a, rfl, ⟨vs, sa⟩, fun D3 hD3 => lc_grow (walk_listY (la.trans (lps 1))) hD3 (by omega) (fun j v H => ∃ t, v = .ref t ∧ SqT K H t [.int (((psA s i u (-1)).getD j (0, 0)).1 : Nat), .int (-1)]) (fun _ _ _ _ g ⟨t, e, h⟩ => ⟨t, e, g.sqT h⟩)
          (fun H' g => g.sqL sa) (fun j y H9 H' hj _ g9 ⟨ws, hw⟩ hY C9 hC9 => ?_) (fun H9 zs2 g9 _ hz2 lz2 iz2 => ?_)⟩
        · obtain ⟨rfl, hy⟩ := hY
          have hpr : (psA s i u 1)[j]? = some (if u = 0 then i * s + j else j * s + i, 1) := by
            unfold psA; rw [List.getElem?_map, List.getElem?_range hj]; rfl
          have hprn : (psA s i u (-1)).getD j (0, 0) = (if u = 0 then i * s + j else j * s + i, -1) := by
            rw [List.getD_eq_getElem?_getD]
            unfold psA; rw [List.getElem?_map, List.getElem?_range hj]; rfl
          obtain ⟨t0, et0, st0⟩ := ia j _ hpr
          rw [hy] at et0; cases et0
          refine ⟨t0, _, rfl, g9.sqT st0, rfl, _, _, rfl, _, _, rfl, rfl, rfl, ?_⟩
          refine ⟨_, rfl, 1, rfl, (show 2 ≤ sizeLine by decide), fun t ht => ?_⟩
          have gt := Gw.new (.tup [V.int ((if u = 0 then i * s + j else j * s + i : Nat) : Int), V.int (-1)]) ht
          exact hC9 _ _ gt ⟨t, rfl, by rw [hprn]; exact sqT_rm (SqT.of upd_same) (gt.at hw)⟩
        have prn : Prs K H9 (.ref D3) (psA s i u (-1)) := ⟨D3, zs2, rfl, SqL.of hz2, by rw [lps, lz2], fun j pr hj => by
          have hjs : j < s := by have := (List.getElem?_eq_some_iff.mp hj).1; rw [lps] at this; exact this
          obtain ⟨y, e, t, rfl, ht⟩ := iz2 j hjs
          have e1 : (psA s i u (-1)).getD j (0, 0) = pr := by rw [List.getD_eq_getElem?_getD, hj]; rfl
          rw [e1] at ht
          have e2 : pr.2 = -1 := by
            unfold psA at hj
            rw [List.getElem?_map, List.getElem?_range hjs] at hj
            cases hj; rfl
          rw [e2]
          exact ⟨t, e, Gw.rm_le.sqT ht⟩⟩
        refine ⟨s * s, .ref D3, psA s i u (-1), by show [V.int ((s : Int) * (s : Int)), V.ref D3] = [V.int ((s * s : Nat) : Int), V.ref D3]; rw [Int.natCast_mul], prn, by omega, by rw [lps]; omega, psA_lt s sm i hi u hu (-1) (by decide), rb (by omega) row2, fun v10 H10 g10 r10 => ⟨(show 2 ≤ sizeLine by decide), fun q0 eq0 => ?_⟩⟩
        have gq0 := Gw.new (.lst [v8, v10]) eq0
        have g8q := g8.trans (g9.trans (g10.trans gq0))
        have rrq := rr.gw g8q
        obtain ⟨xs, x1, x2, x3⟩ := id rrq.rows
        refine ⟨Lr, q0, xs, _, rfl, rfl, x1, upd_same, ?_, fun q1 eq1 => ?_⟩
        · rw [x2]; exact Nat.le_trans (show _ + 2 ≤ 100 by omega) (by decide)
        have gq1 := Gw.new (.lst (xs ++ [v8, v10])) eq1
        refine ⟨_, rfl, 1, rfl, (show 2 ≤ sizeLine by decide), fun q2 eq2 => ?_⟩
        have gq2 := Gw.new (.lst [V.int 1, V.int (-1)]) eq2
        obtain ⟨ys, y1, y2, y3⟩ := id rrq.right
        refine ⟨Lq, q2, ys, _, rfl, rfl, (gq1.trans gq2).at y1, upd_same, ?_, fun q3 eq3 => ?_⟩
        · rw [y2]; exact Nat.le_trans (show _ + 2 ≤ 100 by omega) (by decide)
        have fin2 := RR.two rrq (x := v8) (y := v10) (z1 := 1) (z2 := -1) ((r8.gw (g9.trans (g10.trans gq0))).congr fun k' hk' => by rw [row1 k' hk']) ((VT.gw r10 gq0).congr fun k' hk' => by rw [row2 k' hk']) x1 eq1 gq2 ((gq1.trans gq2).at y1) eq3
          (by
            have hu : u = 0 ∨ u = 1 := by omega
            rcases hu with rfl | rfl
            · exact ca0.symm
            · exact ca2.symm)
          (by
            have hu : u = 0 ∨ u = 1 := by omega
            rcases hu with rfl | rfl
            · exact ca1.symm
            · exact ca3.symm)
        exact ⟨g7.trans (g8q.trans (gq1.trans (gq2.trans (Gw.new _ eq3)))), q1, q3, _, rfl, fin2⟩
      · rintro σ H7 ⟨g7, Lr, Lq, u6, rfl, rr⟩
        exact ⟨Lr, Lq, _, _, rfl, rr⟩
    · rintro σ H3 ⟨Lr, Lq, u5, u6, rfl, rr⟩
      rw [Nat.mul_comm 4 s] at rr
      refine ⟨_, rfl, _, rfl, _, _, rfl, rfl, cm s _ s3, (s : Int) * (s : Int), rfl, ?_, ?_, ?_⟩
      · rw [← Int.natCast_mul]; omega
      · rw [← Int.natCast_mul]; omega
      refine for_it (walk_rangeN (N := s * s) (by rw [← Int.natCast_mul]; exact Int.toNat_natCast _)) (fun i σ H' => (∃ u5 u6, σ = [some (.ref D), some (.int (s : Nat)), some (.ref L), some (.ref Lr), some (.ref Lq), u5, u6, none, none, none, none, none, none, none, none]) ∧ RR K H2 H' Lr Lq (s * s) (4 * s + i) (LP.acol s) (LP.ac s))
        ⟨⟨_, _, rfl⟩, by rw [Nat.add_zero, Nat.mul_comm 4 s]; exact rr⟩ (fun _ _ _ _ _ => True.intro) ?_ ?_
      · rintro i y σ H4 H' hi ⟨⟨u5, u6, rfl⟩, rr⟩ ⟨rfl, rfl⟩
        obtain ⟨xs0, x1, x2, _⟩ := id rr.rows
        refine ⟨_, rfl, .inl ⟨rfl, xs0, SqL.of x1⟩, ?_⟩
        refine ⟨_, rfl, _, rfl, _, _, rfl, rfl, cm s _ s3, _, rfl, (show 2 ≤ sizeLine by decide), fun t ht => ⟨(show 1 ≤ sizeLine by decide), fun lt hlt => ?_⟩⟩
        have gt := Gw.new (.tup [V.int (i : Nat), V.int 1]) ht
        have glt := Gw.new (.lst [V.ref t]) hlt
        have prt : Prs K (upd (upd H' t (.tup [V.int (i : Nat), V.int 1])) lt (.lst [V.ref t])) (.ref lt) [(i, 1)] := ⟨lt, _, rfl, SqL.of upd_same, rfl, fun j pr hj => by
          have : j = 0 := by
            have := (List.getElem?_eq_some_iff.mp hj).1
            simp only [List.length_cons, List.length_nil] at this
            omega
          subst this
          cases hj
          exact ⟨t, rfl, glt.sqT (SqT.of upd_same)⟩⟩
        refine ⟨s * s, .ref lt, [(i, 1)], by show [V.int ((s : Int) * (s : Int)), V.ref lt] = [V.int ((s * s : Nat) : Int), V.ref lt]; rw [Int.natCast_mul], prt, by omega, (show 1 ≤ 1000 by decide), ?_, rb (by omega) (fun k' hk' => one_row s sm i hi k' hk'), fun v8 H8 g8 r8 => ?_⟩
        · intro pr hpr
          rw [List.mem_singleton.mp hpr]; exact hi
        obtain ⟨xs, ys, a1, a2, a3, a4, a5⟩ := RR.put (rr.gw (gt.trans (glt.trans g8))) (r8.congr fun k' hk' => by rw [one_row s sm i hi k' hk'])
        refine ⟨Lr, xs, v8, rfl, rfl, a1, Nat.lt_of_le_of_lt (show xs.length ≤ 100 by omega) (by decide), ?_⟩
        refine ⟨_, rfl, .inl ⟨rfl, ys, SqL.of a3⟩, Lq, ys, _, rfl, rfl, a3, Nat.lt_of_le_of_lt (show ys.length ≤ 100 by omega) (by decide), ⟨_, _, rfl⟩, ?_⟩
        refine a5 0 ?_
        unfold LP.ac; rw [if_neg (by omega)]
      · rintro σ H4 ⟨⟨u5, u6, rfl⟩, rr⟩
        -- goal
        refine ⟨(show 0 ≤ sizeLine by decide), fun Lg eLg => ?_⟩
        have gLg := Gw.new (.lst []) eLg
        have g24 := rr.le
        refine ⟨_, rfl, L, rfl, ⟨zs, SqL.of ((g24.trans gLg).at hz)⟩, ?_⟩
        refine for_it (walk_listY (K := K) lz) (fun i σ H' => Gw H4 H' ∧ ∃ Lg u5 u6 u8, σ = [some (.ref D), some (.int (s : Nat)), some (.ref L), some (.ref Lr), some (.ref Lq), u5, u6, some (.ref Lg), u8, none, none, none, none, none, none] ∧ IL H' (.ref Lg) (i * s) (LP.agoal s p))
          ⟨gLg, Lg, _, _, _, rfl, Lg, [], rfl, upd_same, by rw [Nat.zero_mul]; rfl, fun j hj => by rw [Nat.zero_mul] at hj; exact absurd hj (Nat.not_lt_zero _)⟩ (fun i σ H' _ h => SqL.of ((g24.trans h.1).at hz)) ?_ ?_
        · rintro i y σ H5 H' hi ⟨g5, Lg, u5, u6, u8, rfl, ag, vg, eag, hag, lag, iag⟩ ⟨rfl, hy⟩
          cases eag
          obtain ⟨⟨y', ey, ay, vy, rfl, hvy, lvy, ivy⟩, _⟩ := hp i hi
          rw [hy] at ey; cases ey
          have hvy := (g24.trans g5).at hvy
          have hmul : i * s + s ≤ 9 := by
            have : (i + 1) * s ≤ s * s := Nat.mul_le_mul (by omega) (Nat.le_refl s)
            rw [Nat.succ_mul] at this; omega
          refine ⟨_, rfl, _, rfl, Lg, ay, vg, vy, rfl, rfl, hag, hvy, ?_, fun q eq => ⟨g5.trans (Gw.new _ eq), q, _, _, _, rfl, q, _, rfl, upd_same, ?_, fun j hj => ?_⟩⟩
          · rw [lag, lvy]; exact Nat.le_trans hmul (by decide)
          · rw [List.length_append, lag, lvy, Nat.succ_mul]
          · rw [Nat.succ_mul] at hj
            by_cases c : j < i * s
            · rw [List.getElem?_append_left (by omega)]; exact iag j c
            · rw [List.getElem?_append_right (by omega), lag, ivy (j - i * s) (by omega)]
              have e1 : j / s = i := Nat.div_eq_of_lt_le (show i * s ≤ j by omega) (show j < (i + 1) * s by rw [Nat.succ_mul]; omega)
              have e2 : j % s = j - i * s := by
                have := Nat.div_add_mod j s
                rw [e1, Nat.mul_comm] at this; omega
              unfold LP.agoal
              rw [e1, e2]
        · rintro σ H5 ⟨g5, Lg, u5, u6, u8, rfl, ag, vg, eag, hag, lag, iag⟩
          cases eag
          have g25 := g24.trans g5
          -- due
          refine ⟨_, rfl, s, rfl, s3, fun Lo H6 g6 ⟨vo, o1, o2, o3⟩ => ⟨Lo, rfl, ⟨vo, SqL.of o1⟩, fun D1 hD1 => lc_grow (walk_listY o2) hD1 (Nat.le_trans (orders_small s s3).1 (by decide)) (fun i v _ => v = .int (LP.cost s p ((ordersF s).getD i []))) (fun _ _ _ _ _ h => h)
            (fun H' g => SqL.of (g.at o1)) (fun i y H7 H' hi _ g7 _ hY C9 hC9 => ?_) (fun H7 cs g7 _ hcs lcs ics => ?_)⟩⟩
          · obtain ⟨rfl, hy⟩ := hY
            have ho : (ordersF s)[i]? = some (ordersF s)[i] := List.getElem?_eq_getElem hi
            have hgd : (ordersF s).getD i [] = (ordersF s)[i] := by rw [List.getD_eq_getElem?_getD, ho]; rfl
            have hom := List.getElem_mem (l := ordersF s) (n := i) hi
            rw [hgd] at hC9
            generalize (ordersF s)[i] = o at ho hom hC9
            obtain ⟨b, e3, hb⟩ := o3 i o ho
            rw [hy] at e3; cases e3
            have hb := g7.at hb
            have perm : o.length = s ∧ ∀ x, x ∈ o → x < s := by
              have all : ∀ s, s ∈ [1, 2, 3] → ∀ o, o ∈ ordersF s → o.length = s ∧ ∀ x, x ∈ o → x < s := by decide
              exact all s sm o hom
            refine ⟨rfl, _, rfl, (s : Int), rfl, by omega, by omega, fun D2 hD2 => lc_grow (walk_rangeN (N := s) (by omega)) hD2 (by omega) (fun j v _ => v = .int (p j (o.getD j 0))) (fun _ _ _ _ _ h => h)
              (fun _ _ => True.intro) (fun j y H8 H9 hj _ g8 _ hY C10 hC10 => ?_) (fun H8 ds g8 _ hds lds ids => ?_)⟩
            · obtain ⟨rfl, rfl⟩ := hY
              have g28 := g25.trans (g6.trans (g7.trans g8))
              obtain ⟨⟨y', ey, ay, vy, rfl, hvy, lvy, ivy⟩, _⟩ := hp j hj
              have hoj : o[j]? = some (o.getD j 0) := by rw [List.getD_eq_getElem?_getD, List.getElem?_eq_getElem (by omega)]; rfl
              have hlt := perm.2 _ (List.mem_of_getElem? hoj)
              refine ⟨rfl, _, rfl, _, rfl, _, _, _, _, rfl, rfl, SqL.of (g28.at hz), at_of rfl ey, _, rfl, _, rfl, _, _, _, _, rfl, rfl, SqL.of (g8.at hb), at_of (j := j) rfl (by rw [List.getElem?_map, hoj]; rfl), ?_⟩
              exact ⟨_, _, _, _, rfl, rfl, SqL.of (g28.at hvy), at_of rfl (ivy _ hlt), hC10 _ _ (Gw.refl _) rfl⟩
            · have eds := vs_ints (cf := fun j => p j (o.getD j 0)) lds (fun j hj => let ⟨y, e, h⟩ := ids j hj; by rw [e, h])
              refine ⟨D2, (List.range s).map fun j => p j (o.getD j 0), rfl, by rw [← eds]; exact SqL.of hds, hC9 _ _ g8 ?_⟩
              rw [SI_sum]; rfl
          · have ecs := vs_ints (cf := fun i => LP.cost s p ((ordersF s).getD i [])) lcs (fun j hj => let ⟨y, e, h⟩ := ics j hj; by rw [e, h])
            have lpos : 0 < (ordersF s).length := by
              have all : ∀ s, s ∈ [1, 2, 3] → 0 < (ordersF s).length := by decide
              exact all s sm
            refine ⟨D1, (List.range (ordersF s).length).map fun i => LP.cost s p ((ordersF s).getD i []), rfl, by rw [← ecs]; exact SqL.of hcs, by rw [List.length_map, List.length_range]; exact lpos, fun m hm hle => ?_⟩
            -- the least
            obtain ⟨im, him, em⟩ := List.mem_map.mp hm
            rw [List.mem_range] at him
            have pe : ordersF s = LP.perms s := by
              have h3 : s = 1 ∨ s = 2 ∨ s = 3 := by omega
              rcases h3 with rfl | rfl | rfl
              · exact orders_perms.1
              · exact orders_perms.2.1
              · exact orders_perms.2.2
            have hoin : (ordersF s).getD im [] ∈ LP.perms s := by
              rw [← pe, List.getD_eq_getElem?_getD, List.getElem?_eq_getElem him]
              exact List.getElem_mem him
            have opt := LP.assign_opt (p := p) sm hoin em fun o ho => by
              rw [← pe] at ho
              obtain ⟨i, hi⟩ := List.getElem?_of_mem ho
              have hil := (List.getElem?_eq_some_iff.mp hi).1
              have := hle (LP.cost s p ((ordersF s).getD i [])) (List.mem_map.mpr ⟨i, List.mem_range.mpr hil, rfl⟩)
              rwa [show (ordersF s).getD i [] = o by rw [List.getD_eq_getElem?_getD, hi]; rfl] at this
            have mb : m.natAbs ≤ 30 := by
              have all : ∀ s, s ∈ [1, 2, 3] → ∀ o, o ∈ ordersF s → o.length = s ∧ ∀ x, x ∈ o → x < s := by decide
              obtain ⟨ol, ox⟩ := all s sm _ (by rw [pe]; exact hoin)
              generalize (ordersF s).getD im [] = o at em ol ox
              have term : ∀ i, i < s → -4 ≤ p i (o.getD i 0) ∧ p i (o.getD i 0) ≤ 10 := fun i hi => by
                have hoi : o[i]? = some (o.getD i 0) := by rw [List.getD_eq_getElem?_getD, List.getElem?_eq_getElem (by omega)]; rfl
                exact (hp i hi).2 _ (ox _ (List.mem_of_getElem? hoi))
              have sb : ∀ n, n ≤ s → -4 * (n : Int) ≤ LP.SI n (fun i => p i (o.getD i 0)) ∧ LP.SI n (fun i => p i (o.getD i 0)) ≤ 10 * (n : Int) := fun n => by
                induction n with
                | zero => intro _; exact ⟨Int.le_refl _, Int.le_refl _⟩
                | succ n ih =>
                  intro hn
                  have h1 := ih (by omega)
                  have h2 := term n (by omega)
                  show _ ≤ LP.SI n (fun i => p i (o.getD i 0)) + p n (o.getD n 0) ∧ LP.SI n (fun i => p i (o.getD i 0)) + p n (o.getD n 0) ≤ _
                  omega
              have := sb s (Nat.le_refl _)
              have em : LP.SI s (fun i => p i (o.getD i 0)) = m := em
              omega
            have g27 := g25.trans (g6.trans g7)
            have rr7 := rr.gw (g5.trans (g6.trans g7))
            obtain ⟨xs, x1, x2, x3⟩ := id rr7.rows
            obtain ⟨ys, y1, y2, y3⟩ := id rr7.right
            have eys := vs_ints y2 y3
            have evg := vs_ints lag iag
            have hag7 := (g6.trans g7).at hag
            -- the answer
            refine ⟨_, rfl, Lr, xs, rfl, .inl ⟨SqL.of x1, fun l1 el1 => ?_⟩⟩
            have k1 := Gw.new (.tup xs) el1
            refine ⟨_, rfl, Lq, (List.range (4 * s + s * s)).map (LP.ac s), rfl, by rw [← eys]; exact SqL.of (k1.at y1), by rw [List.length_map, List.length_range]; omega, ?_, fun v11 H11 g11 r11 => ?_⟩
            · intro z hz'
              obtain ⟨i, _, rfl⟩ := List.mem_map.mp hz'
              exact Nat.le_trans (ac_small s i) (by decide +kernel)
            refine ⟨_, rfl, Lg, (List.range (s * s)).map (LP.agoal s p), rfl, by rw [← evg]; exact SqL.of ((k1.trans g11).at hag7), by rw [List.length_map, List.length_range]; omega, ?_, fun v12 H12 g12 r12 => ?_⟩
            · intro z hz'
              obtain ⟨i, hi, rfl⟩ := List.mem_map.mp hz'
              rw [List.mem_range] at hi
              have := (hp (i / s) (Nat.div_lt_of_lt_mul hi)).2 (i % s) (Nat.mod_lt _ (by omega))
              exact Nat.le_trans (show _ ≤ 10 by unfold LP.agoal; omega) (by decide +kernel)
            rw [List.length_map, List.length_range] at r11 r12
            refine ⟨_, rfl, (show 4 ≤ sizeLine by decide), fun l4 el4 => ?_⟩
            have k4 := Gw.new (.tup [V.ref l1, v11, v12, V.int m]) el4
            have gk := k1.trans (g11.trans (g12.trans k4))
            obtain ⟨q1, q2⟩ := fin (g27.trans gk)
            refine k _ _ q1 q2 ⟨l4, .ref l1, v11, v12, .int m, 4 * s + s * s, s * s, fun j k => ((LP.acol s j k : Int) : Rat), fun j => ((LP.ac s j : Int) : Rat), fun k => ((LP.agoal s p k : Int) : Rat), rfl, SqT.of upd_same, ⟨?_, ?_, ?_, Nat.mul_pos s1 s1, by omega, by omega⟩, by omega, by omega, ⟨ss9, fun j k' hj hk => ?_, fun k' hk => ?_⟩, fun j hj => ?_, .inr ⟨(m : Rat), .inl ⟨m, rfl, rfl⟩, ?_, ?_, opt⟩⟩
            · exact ⟨l1, xs, rfl, (g11.trans (g12.trans k4)).sqT (SqT.of upd_same), x2, fun j hj => let ⟨x, e, v⟩ := x3 j hj; ⟨x, e, (v.gw Gw.r2_le).gw gk⟩⟩
            · exact (VT.gw r11 (g12.trans k4)).congr fun j hj => by rw [range_getD hj]
            · exact (VT.gw r12 k4).congr fun j hj => by rw [range_getD hj]
            · exact ⟨LP.isI_int _, LP.bd_int (B := 10) (Nat.le_trans (acol_small s sm j hj k' hk) (by decide))⟩
            · refine ⟨LP.isI_int _, LP.bd_int (B := 10) ?_⟩
              have := (hp (k' / s) (Nat.div_lt_of_lt_mul hk)).2 (k' % s) (Nat.mod_lt _ (by omega))
              unfold LP.agoal; omega
            · exact ⟨LP.isI_int _, LP.bd_int (B := 10) (Nat.le_trans (ac_small s j) (by decide))⟩
            · rw [Rat.den_intCast]; decide
            · rw [Rat.num_intCast]; omega
end
end K44


set_option Elab.async false
set_option linter.all false
set_option maxRecDepth 100000
set_option maxHeartbeats 4000000
set_option exponentiation.threshold 3000
/-! The ways. -/
namespace K44
open PySem L2
open LP (Fit lim S Edge)
abbrev sLWays : Stmt := top 52
abbrev nmW : List Str := ["draws", "many", "edges", "i", "j", "far", "turn", "long", "rows", "right", "goal"]
/-- triples of whole numbers -/
def EdgIt (K : PySem.W.Frag) (H : Hp) (vs : List V) (es : List Edge) : Prop := vs.length = es.length ∧ ∀ (i : Nat) (e : Edge), es[i]? = some e → ∃ t, vs[i]? = some (V.ref t) ∧ SqT K H t [.int (e.1 : Nat), .int (e.2.1 : Nat), .int e.2.2]
theorem EdgIt.gw {K : PySem.W.Frag} {H H' : Hp} {vs : List V} {es : List Edge} (h : EdgIt K H vs es) (g : Gw H H') : EdgIt K H' vs es := ⟨h.1, fun i e he => let ⟨t, a, b⟩ := h.2 i e he; ⟨t, a, g.sqT b⟩⟩
theorem EdgIt.app {K : PySem.W.Frag} {H : Hp} {vs : List V} {es : List Edge} {e : Edge} {t : Addr} (h : EdgIt K H vs es) (ht : SqT K H t [.int (e.1 : Nat), .int (e.2.1 : Nat), .int e.2.2]) : EdgIt K H (vs ++ [V.ref t]) (es ++ [e]) := by
  refine ⟨by rw [List.length_append, List.length_append, h.1]; rfl, fun i e' he => ?_⟩
  by_cases c : i < es.length
  · rw [List.getElem?_append_left c] at he
    obtain ⟨t', a, b⟩ := h.2 i e' he
    exact ⟨t', by rw [List.getElem?_append_left (by rw [h.1]; exact c)]; exact a, b⟩
  · have hl := (List.getElem?_eq_some_iff.mp he).1
    rw [List.length_append] at hl
    simp only [List.length_cons, List.length_nil] at hl
    have : i = es.length := by omega
    subst this
    rw [List.getElem?_append_right (Nat.le_refl _), Nat.sub_self] at he
    cases he
    exact ⟨t, by rw [List.getElem?_append_right (by rw [h.1]; exact Nat.le_refl _), h.1, Nat.sub_self]; rfl, ht⟩
/-- the edges' list at L while draws at D are taken -/
structure ED (K : PySem.W.Frag) (H0 H : Hp) (D L : Addr) (es : List Edge) : Prop where
  ne : L ≠ D
  g : Gw (R2 H0 D L) (R2 H D L)
  d : Draws H D
  at_ : ∃ vs, H L = some (.lst vs) ∧ EdgIt K (R2 H D L) vs es
theorem ED.take {K : PySem.W.Frag} {H0 H H' : Hp} {D L : Addr} {es : List Edge} (h : ED K H0 H D L es) (g : Gw (rm H D) (rm H' D)) (d : Draws H' D) : ED K H0 H' D L es where
  ne := h.ne
  g := h.g.trans g.rm
  d := d
  at_ := let ⟨vs, a, b⟩ := h.at_; ⟨vs, Gw.rm_le.at (g.at (by rw [rm_ne h.ne]; exact a)), b.gw g.rm⟩
theorem ED.put {K : PySem.W.Frag} {H0 H : Hp} {D L t : Addr} {es : List Edge} {e : Edge} (h : ED K H0 H D L es) (ht : H t = none) : ∃ vs, upd H t (.tup [.int (e.1 : Nat), .int (e.2.1 : Nat), .int e.2.2]) L = some (.lst vs) ∧ vs.length = es.length ∧
    ED K H0 (upd (upd H t (.tup [.int (e.1 : Nat), .int (e.2.1 : Nat), .int e.2.2])) L (.lst (vs ++ [V.ref t]))) D L (es ++ [e]) := by
  obtain ⟨vs, a, b⟩ := h.at_
  have gt := Gw.new (.tup [V.int (e.1 : Nat), V.int (e.2.1 : Nat), V.int e.2.2]) ht
  have ntD : t ≠ D := draws_ne h.d ht
  have ntL : t ≠ L := fun z => by rw [z, a] at ht; cases ht
  refine ⟨vs, gt.at a, b.1, ⟨h.ne, ?_, draws_upd (draws_upd h.d ntD) h.ne, vs ++ [V.ref t], upd_same, ?_⟩⟩
  · rw [r2_updB h.ne.symm]; exact h.g.trans (gt.r2 D L)
  · rw [r2_updB h.ne.symm]
    refine (b.gw (gt.r2 D L)).app (SqT.of ?_)
    show rm (rm _ D) L t = _
    rw [rm_ne ntL, rm_ne ntD]; exact upd_same
theorem putK_le {kvs : List (Key × V)} {k : Key} {v : V} : (putK kvs k v).length ≤ kvs.length + 1 := by
  unfold putK
  split
  · rw [List.length_map]; omega
  · rw [List.length_append]; exact Nat.le_refl _
/-- the dict holds the lengths that are found -/
def FarAt (kvs : List (Key × V)) (v : Nat → Int) : Prop := ∀ k : Nat, valV kvs (Sum.inl (k : Int) : Key) = if v k < LP.big then some (.int (v k)) else none
theorem far0 : FarAt [((Sum.inl 0 : Key), V.int 0)] LP.v0 := fun k => by
  unfold LP.v0
  by_cases h : k = 0
  · subst h; rfl
  · rw [if_neg h, if_neg (Int.lt_irrefl _)]
    have : ¬ ((Sum.inl ((k : Nat) : Int) : Key) = Sum.inl 0) := fun z => by
      have := Sum.inl.inj z
      omega
    unfold valV
    simp
    omega
theorem FarAt.put {kvs : List (Key × V)} {v : Nat → Int} {e : Edge} (h : FarAt kvs v) (c : v e.1 < LP.big ∧ v e.1 + e.2.2 < v e.2.1) (hb : v e.1 + e.2.2 < LP.big) : FarAt (putK kvs (Sum.inl ((e.2.1 : Nat) : Int) : Key) (.int (v e.1 + e.2.2))) (LP.relax v e) := fun k => by
  rw [valV_put]
  unfold LP.relax
  rw [if_pos c]
  by_cases q : k = e.2.1
  · subst q
    rw [if_pos rfl]
    show _ = if (if e.2.1 = e.2.1 then _ else _) < LP.big then some (V.int (if e.2.1 = e.2.1 then _ else _)) else none
    rw [if_pos rfl, if_pos hb]
  · rw [if_neg (fun z => q (by have := Sum.inl.inj z; omega))]
    show _ = if (if k = e.2.1 then _ else _) < LP.big then some (V.int (if k = e.2.1 then _ else _)) else none
    rw [if_neg q]
    exact h k
theorem row_edge (a b k : Nat) : rowF [(a, 1), (b, -1)] k = (if a = k then 1 else 0) + (if b = k then -1 else 0) := by
  unfold rowF
  simp only [List.map_cons, List.map_nil, List.sum_cons, List.sum_nil]
  omega
theorem row_one (a : Nat) (z : Int) (k : Nat) : rowF [(a, z)] k = if a = k then z else 0 := by
  unfold rowF
  simp only [List.map_cons, List.map_nil, List.sum_cons, List.sum_nil]
  omega
theorem prs1 {K : PySem.W.Frag} {H : Hp} {l t : Addr} {a : Nat} {z : Int} (h1 : H l = some (.lst [V.ref t])) (h2 : SqT K H t [.int (a : Nat), .int z]) : Prs K H (.ref l) [(a, z)] := ⟨l, _, rfl, SqL.of h1, rfl, fun j pr hj => by
  have : j = 0 := by
    have := (List.getElem?_eq_some_iff.mp hj).1
    simp only [List.length_cons, List.length_nil] at this
    omega
  subst this
  cases hj
  exact ⟨t, rfl, h2⟩⟩
theorem prs2 {K : PySem.W.Frag} {H : Hp} {l t u : Addr} {a b : Nat} {y z : Int} (h1 : H l = some (.lst [V.ref t, V.ref u])) (h2 : SqT K H t [.int (a : Nat), .int y]) (h3 : SqT K H u [.int (b : Nat), .int z]) : Prs K H (.ref l) [(a, y), (b, z)] := ⟨l, _, rfl, SqL.of h1, rfl, fun j pr hj => by
  have : j = 0 ∨ j = 1 := by
    have := (List.getElem?_eq_some_iff.mp hj).1
    simp only [List.length_cons, List.length_nil] at this
    omega
  rcases this with rfl | rfl
  · cases hj; exact ⟨t, rfl, h2⟩
  · cases hj; exact ⟨u, rfl, h3⟩⟩
theorem wc_small {n : Nat} {es : List Edge} (ok : LP.Ok n es) (j : Nat) : (LP.wc es j).natAbs ≤ 10 := by
  unfold LP.wc
  split
  · next h =>
    have := ok (es.getD j (0, 0, 0)) (by rw [List.getD_eq_getElem?_getD, List.getElem?_eq_getElem h]; exact List.getElem_mem h)
    omega
  · decide
theorem wcol_small {es : List Edge} (j k : Nat) : (LP.wcol es j k).natAbs ≤ 10 := by
  unfold LP.wcol
  split
  · split <;> split <;> decide
  · split <;> split <;> decide
theorem small_lim {z : Int} (h : z.natAbs ≤ 1000) : z.natAbs ≤ lim := Nat.le_trans h (by decide +kernel)
section
variable {P : Program} {w : World} {K : PySem.W.Frag} {mg : Str → Option Value} {base : Heap}
theorem scLWays : FnScope nmW ["draws"] (defScope sLWays) := ⟨rfl, rfl, rfl, by decide +kernel, rfl, by decide +kernel, by decide +kernel⟩
theorem ok_lWays {f : Addr} {fd : FuncData} (F : Fun K "_law_ways" "_law_ways" sLWays f fd) (T : Txt K mg) (C1 : CTake P w K mg base) (C2' : CParts P w K mg base) (C3 : CRow P w K mg base) :
    FnOk P w K mg base CX0 2 f fd ["draws"] (spBuild K) := by
  refine F.ok scLWays (fun vs H Q E h => ?_) (fun cdv A outer s H vs Q E hr h => ?_)
  · obtain ⟨D, rfl, _⟩ := h
    rfl
  · obtain ⟨D, rfl, hD, k⟩ := h
    have hu := hu_of hr
    refine ⟨_, pss_cons (ps_set (i := 1) scLWays.nd rfl (Or.inl rfl) (pe_op op_add pe_int (pe_call C1.ok hr rfl C1.hm C1.kp C1.b .nil pass0 (pa_cons (pv 0) (pa_cons pe_int pa_nil)))))
      (pss_cons (ps_set (i := 2) scLWays.nd rfl (Or.inl rfl) (pe_lst pa_nil))
      (pss_cons (ps_for PassesOwn.never rfl (pi_range1 rfl T.range (pa_cons (pv 1) pa_nil)) (pg_name (i := 3) scLWays.nd rfl (Or.inl rfl))
        (pss_one (ps_for PassesOwn.never rfl (pi_range1 rfl T.range (pa_cons (pv 1) pa_nil)) (pg_name (i := 4) scLWays.nd rfl (Or.inl rfl))
          (pss_one (ps_if (PW.pt (pw_and (pt_cmpR op_ne (pv 3) (pv 4) (nomark _)) (pw_and1 (pt_cmpR op_eq (pe_call C1.ok hr rfl C1.hm C1.kp C1.b .nil pass0 (pa_cons (pv 0) (pa_cons pe_int pa_nil))) pe_int (nomark _)))))
            (pss_one (ps_expr (pe_bm PySem.F.plainAttrs_list PySem.F.slot_list_append PySem.F.type_list_append mt_append (pv 2) (pa_cons (pe_tup (pa_cons (pv 3) (pa_cons (pv 4) (pa_cons (pe_op op_add pe_int (pe_call C1.ok hr rfl C1.hm C1.kp C1.b .nil pass0 (pa_cons (pv 0) (pa_cons pe_int pa_nil)))) pa_nil)))) pa_nil)))) pss_nil)))))
      (pss_cons (ps_set (i := 5) scLWays.nd rfl (Or.inl rfl) (pe_disp (pps_cons pe_int pe_int pps_nil) rfl rfl (List.cons_ne_nil _ _) (by decide)))
      (pss_cons (ps_for PassesOwn.never rfl (pi_range1 rfl T.range (pa_cons (pv 1) pa_nil)) (pg_name (i := 6) scLWays.nd rfl (Or.inl rfl))
        (pss_one (ps_for PassesOwn.never rfl (pi_list (pv 2)) (pg_tup rfl (pgs_cons (pg_name (i := 3) scLWays.nd rfl (Or.inl rfl)) (pgs_cons (pg_name (i := 4) scLWays.nd rfl (Or.inl rfl)) (pgs_cons (pg_name (i := 7) scLWays.nd rfl (Or.inl rfl)) pgs_nil))))
          (pss_one (ps_if (PW.pt (pw_and (pt_cmp (pc_din hu (pv 3) (pv 5))) (pw_and1 (PW.pt (pw_or (pt_cmp (pc_dnotin hu (pv 4) (pv 5))) (pw_or1 (pt_cmpR op_lt (pe_op op_add (pe_dget hu (pv 5) (pv 3) (fun _ _ => rfl)) (pv 7)) (pe_dget hu (pv 5) (pv 4) (fun _ _ => rfl)) (nomark _))))))))
            (pss_one (ps_dput hu (pv 5) (pv 4) (pe_op op_add (pe_dget hu (pv 5) (pv 3) (fun _ _ => rfl)) (pv 7)) rfl)) pss_nil)))))
      (pss_cons (ps_par (i := 8) (j := 9) rfl scLWays.nd rfl rfl (by decide) rfl rfl (pa_cons (pe_lst pa_nil) (pa_cons (pe_lst pa_nil) pa_nil)) rfl)
      (pss_cons (ps_for PassesOwn.never rfl (pi_list (pv 2)) (pg_tup rfl (pgs_cons (pg_name (i := 3) scLWays.nd rfl (Or.inl rfl)) (pgs_cons (pg_name (i := 4) scLWays.nd rfl (Or.inl rfl)) (pgs_cons (pg_name (i := 7) scLWays.nd rfl (Or.inl rfl)) pgs_nil))))
        (pss_cons (ps_expr (pe_bm PySem.F.plainAttrs_list PySem.F.slot_list_append PySem.F.type_list_append mt_append (pv 8) (pa_cons (pe_call C3.ok hr rfl C3.hm C3.kp C3.b .nil pass0 (pa_cons (pv 1) (pa_cons (pe_lst (pa_cons (pe_tup (pa_cons (pv 3) (pa_cons pe_int pa_nil))) (pa_cons (pe_tup (pa_cons (pv 4) (pa_cons (pe_un un_neg pe_int) pa_nil))) pa_nil))) pa_nil))) pa_nil)))
        (pss_one (ps_expr (pe_bm PySem.F.plainAttrs_list PySem.F.slot_list_append PySem.F.type_list_append mt_append (pv 9) (pa_cons (pe_op op_sub pe_int (pv 7)) pa_nil))))))
      (pss_cons (ps_set (i := 8) scLWays.nd rfl (Or.inl rfl) (pe_op op_cat (pv 8) (pe_lst (pa_cons
          (pe_call C3.ok hr rfl C3.hm C3.kp C3.b .nil pass0 (pa_cons (pv 1) (pa_cons (pe_lst (pa_cons (pe_tup (pa_cons pe_int (pa_cons pe_int pa_nil))) pa_nil)) pa_nil))) (pa_cons
          (pe_call C3.ok hr rfl C3.hm C3.kp C3.b .nil pass0 (pa_cons (pv 1) (pa_cons (pe_lst (pa_cons (pe_tup (pa_cons pe_int (pa_cons (pe_un un_neg pe_int) pa_nil))) pa_nil)) pa_nil))) pa_nil)))))
      (pss_cons (ps_set (i := 10) scLWays.nd rfl (Or.inl rfl) (pe_call C3.ok hr rfl C3.hm C3.kp C3.b .nil pass0 (pa_cons (pv 1) (pa_cons (pe_lst (pa_cons (pe_tup (pa_cons (pe_op op_sub (pv 1) pe_int) (pa_cons (pe_un un_neg pe_int) pa_nil))) pa_nil)) pa_nil))))
      (pss_one (ps_ret (pe_tup (pa_cons (pe_callTy call_tuple_of (by rfl) T.tuple (by decide +kernel) (pa_cons (pv 8) pa_nil)) (pa_cons (pe_call C2'.ok hr rfl C2'.hm C2'.kp C2'.b .nil pass0 (pa_cons (pe_op op_cat (pv 9) (pe_lst (pa_cons pe_int (pa_cons pe_int pa_nil)))) pa_nil))
        (pa_cons (pv 10) (pa_cons (pe_ifExp (pt_cmp (pc_din hu (pe_op op_sub (pv 1) pe_int) (pv 5))) (pe_op op_sub pe_int (pe_dget hu (pv 5) (pe_op op_sub (pv 1) pe_int) (fun _ _ => rfl))) pe_non) pa_nil))))))))))))))), ?_⟩
    refine ⟨_, rfl, D, 4, rfl, by decide, hD, fun v1 H1 a0 a1 g1 d1 => ⟨_, _, rfl, rfl, ?_⟩⟩
    obtain ⟨n, hn, n2, n5⟩ : ∃ n : Nat, 2 + v1 = (n : Int) ∧ 2 ≤ n ∧ n ≤ 5 := ⟨(2 + v1).toNat, by omega, by omega, by omega⟩
    dsimp only
    rw [hn]
    -- edges
    refine ⟨(show 0 ≤ sizeLine by decide), fun L hL => ?_⟩
    have neL := draws_ne d1 hL
    have ed0 : ED K H1 (upd H1 L (.lst [])) D L [] := ⟨neL, by rw [r2_updB neL.symm]; exact Gw.refl _, draws_upd d1 neL, [], upd_same, rfl, fun i e h => by simp at h⟩
    refine ⟨_, rfl, (n : Int), rfl, by omega, by omega, ?_⟩
    refine for_it (walk_rangeN (N := n) (by omega)) (fun i σ H' => (∃ es, ED K H1 H' D L es ∧ LP.Ok n es ∧ es.length ≤ i * (n - 1)) ∧ ∃ u3 u4, σ = [some (.ref D), some (.int (n : Nat)), some (.ref L), u3, u4, none, none, none, none, none, none])
      ⟨⟨[], ed0, fun e h => (List.not_mem_nil h).elim, Nat.zero_le _⟩, none, none, rfl⟩ (fun _ _ _ _ _ => True.intro) ?_ ?_
    · rintro i y σ H2 H' hi ⟨⟨es, ed, ok, le⟩, u3, u4, rfl⟩ ⟨rfl, rfl⟩
      refine ⟨_, rfl, (n : Int), rfl, by omega, by omega, ?_⟩
      refine for_it (walk_rangeN (N := n) (by omega)) (fun j σ H' => (∃ es, ED K H1 H' D L es ∧ LP.Ok n es ∧ es.length ≤ i * (n - 1) + (if i < j then j - 1 else j)) ∧ ∃ u4, σ = [some (.ref D), some (.int (n : Nat)), some (.ref L), some (.int (i : Nat)), u4, none, none, none, none, none, none])
        ⟨⟨es, ed, ok, le⟩, _, rfl⟩ (fun _ _ _ _ _ => True.intro) ?_ (fun σ H' ⟨⟨es, a, b, c⟩, u4, e⟩ => ⟨⟨es, a, b, by rw [if_pos hi] at c; rw [Nat.succ_mul]; exact c⟩, _, _, e⟩)
      rintro j y σ H3 H' hj ⟨⟨es, ed, ok, le⟩, u4, rfl⟩ ⟨rfl, rfl⟩
      refine ⟨_, rfl, _, rfl, rfl, _, rfl, ?_⟩
      by_cases hij : i = j
      · rw [decide_eq_true (show V.int ((i : Nat) : Int) = V.int ((j : Nat) : Int) by rw [hij])]
        exact iteF (iteF ⟨⟨es, ed, ok, by subst hij; rw [if_neg (Nat.lt_irrefl _)] at le; rw [if_pos (Nat.lt_succ_self _)]; omega⟩, _, rfl⟩)
      · rw [decide_eq_false (show ¬ V.int ((i : Nat) : Int) = V.int ((j : Nat) : Int) from fun z => by have := V.int.inj z; omega)]
        refine iteT ⟨_, rfl, D, 2, rfl, by decide, ed.d, fun v4 H4 b0 b1 g4 d4 => ⟨rfl, _, rfl, ?_⟩⟩
        have ed4 := ed.take g4 d4
        by_cases hv : v4 = 0
        · rw [decide_eq_true (show V.int v4 = V.int 0 by rw [hv])]
          refine iteT ?_
          obtain ⟨vs, w1, w2⟩ := id ed4.at_
          refine ⟨_, rfl, .inl ⟨rfl, vs, SqL.of w1⟩, ?_⟩
          refine ⟨_, rfl, _, rfl, _, rfl, D, 9, rfl, by decide, d4, fun v5 H5 c0 c1 g5 d5 => ⟨_, _, rfl, rfl, (show 3 ≤ sizeLine by decide), fun t ht => ?_⟩⟩
          obtain ⟨vs', z1, z2, z3⟩ := (ed4.take g5 d5).put (e := (i, j, 1 + v5)) ht
          refine ⟨L, vs', .ref t, rfl, rfl, z1, small1000 (by
            have : i * (n - 1) ≤ 5 * 5 := Nat.mul_le_mul (by omega) (by omega)
            split at le <;> omega), ⟨es ++ [(i, j, 1 + v5)], z3, fun e he => ?_, by rw [List.length_append]; simp only [List.length_cons, List.length_nil]; split at le <;> split <;> omega⟩, _, rfl⟩
          rcases List.mem_append.mp he with h | h
          · exact ok e h
          · rw [List.mem_singleton.mp h]
            exact ⟨hi, hj, by show (1 : Int) ≤ 1 + v5; omega, by show 1 + v5 ≤ 9; omega⟩
        · rw [decide_eq_false (show ¬ V.int v4 = V.int 0 from fun z => hv (V.int.inj z))]
          exact iteF ⟨⟨es, ed4, ok, by split at le <;> split <;> omega⟩, _, rfl⟩
    rintro σ H2 ⟨⟨es, ed, ok, le⟩, u3, u4, rfl⟩
    have len20 : es.length ≤ 20 := Nat.le_trans le (Nat.mul_le_mul n5 (show n - 1 ≤ 4 by omega))
    have len25 : es.length ≤ 25 := by omega
    obtain ⟨vs, hvs, eit⟩ := id ed.at_
    have eit := eit.gw Gw.r2_le
    have g12 : Gw (rm H1 D) (rm H2 D) := by
      have h1 := ed.g
      rw [show R2 H1 D L = rm H1 D from by show rm (rm H1 D) L = _; rw [rm_none (by rw [rm_ne neL]; exact hL)]] at h1
      exact h1.trans Gw.rm_le
    have d2 := ed.d
    have fin : ∀ {H'}, Gw H2 H' → Gw (rm H D) (rm H' D) ∧ Draws H' D := fun g => ⟨(g1.trans g12).trans g.rm, let ⟨ns, e⟩ := d2; ⟨ns, g.at e⟩⟩
    clear ed0 ed g12
    -- far
    intro d hd
    refine ⟨upd_same, [((Sum.inl 0 : Key), V.int 0)], rfl, (show 1 ≤ 15 by decide), ?_⟩
    have gd0 : Gw H2 (rm (upd (upd H2 d (.dK [])) d (.dK (mergeK [] [((Sum.inl 0 : Key), V.int 0)]))) d) := by rw [rm_upd, rm_upd, rm_none hd]; exact Gw.refl _
    have xd0 : upd (upd H2 d (.dK [])) d (.dK (mergeK [] [((Sum.inl 0 : Key), V.int 0)])) d = some (.dK [((Sum.inl 0 : Key), V.int 0)]) := upd_same
    generalize upd (upd H2 d (.dK [])) d (.dK (mergeK [] [((Sum.inl 0 : Key), V.int 0)])) = H3 at gd0 xd0 ⊢
    refine ⟨_, rfl, (n : Int), rfl, by omega, by omega, ?_⟩
    refine for_it (walk_rangeN (N := n) (by omega)) (fun r σ H' => Gw H2 (rm H' d) ∧ (∃ kvs, H' d = some (.dK kvs) ∧ FarAt kvs (LP.rounds es r) ∧ kvs.length ≤ 1 + r * es.length) ∧ ∃ u3 u4 u6 u7, σ = [some (.ref D), some (.int (n : Nat)), some (.ref L), u3, u4, some (.ref d), u6, u7, none, none, none])
      ⟨gd0, ⟨_, xd0, far0, by rw [Nat.zero_mul]; exact Nat.le_refl _⟩, _, _, _, _, rfl⟩ (fun _ _ _ _ _ => True.intro) ?_ ?_
    · rintro r y σ H4 H' hr ⟨g4, ⟨kvs, k1, k2, k3⟩, u3, u4, u6, u7, rfl⟩ ⟨rfl, rfl⟩
      refine ⟨_, rfl, L, rfl, ⟨vs, SqL.of (Gw.rm_le.at (g4.at hvs))⟩, ?_⟩
      refine for_it (walk_listY (K := K) eit.1) (fun j σ H' => Gw H2 (rm H' d) ∧ (∃ kvs, H' d = some (.dK kvs) ∧ FarAt kvs ((es.take j).foldl LP.relax (LP.rounds es r)) ∧ kvs.length ≤ 1 + r * es.length + j) ∧ ∃ u3 u4 u6 u7, σ = [some (.ref D), some (.int (n : Nat)), some (.ref L), u3, u4, some (.ref d), u6, u7, none, none, none])
        ⟨g4, ⟨kvs, k1, k2, by omega⟩, _, _, _, _, rfl⟩ (fun j σ H' _ h => SqL.of (Gw.rm_le.at (h.1.at hvs))) ?_ ?_
      · rintro j y σ H5 H' hj ⟨g5, ⟨kvs, k1, k2, k3⟩, u3, u4, u6, u7, rfl⟩ ⟨rfl, hy⟩
        have he : es[j]? = some es[j] := List.getElem?_eq_getElem hj
        generalize es[j] = e at he
        obtain ⟨t, et, st⟩ := eit.2 j e he
        rw [hy] at et; cases et
        have st := (g5.trans Gw.rm_le).sqT st
        have hem := List.mem_of_getElem? he
        obtain ⟨_, _, l1, l9⟩ := ok e hem
        have nxt : (es.take (j + 1)).foldl LP.relax (LP.rounds es r) = LP.relax ((es.take j).foldl LP.relax (LP.rounds es r)) e := by
          rw [List.take_succ, he, List.foldl_append]; rfl
        have vb : ∀ k, (es.take j).foldl LP.relax (LP.rounds es r) k < LP.big → (es.take j).foldl LP.relax (LP.rounds es r) k ≤ 5000 := fun k hk => by
          have h1 := LP.rounds_fin ok r
          have h2 := LP.fold_fin (es.take j) (LP.rounds es r) _ (fun e he => (ok e (List.mem_of_mem_take he)).2.2.2) (by omega) h1 k hk
          have h3 : es.length * r ≤ 25 * 5 := Nat.mul_le_mul len25 (by omega)
          have h4 : (es.take j).length ≤ 25 := by rw [List.length_take]; omega
          omega
        rw [nxt]
        generalize (es.take j).foldl LP.relax (LP.rounds es r) = v at k2 vb
        have gi : DGet _ d (.int (e.1 : Nat)) (valV kvs (Sum.inl ((e.1 : Nat) : Int) : Key)) := DGet.k (k := (Sum.inl ((e.1 : Nat) : Int) : Key)) k1
        have gj : DGet _ d (.int (e.2.1 : Nat)) (valV kvs (Sum.inl ((e.2.1 : Nat) : Int) : Key)) := DGet.k (k := (Sum.inl ((e.2.1 : Nat) : Int) : Key)) k1
        rw [k2] at gi gj
        have skip : ¬ (v e.1 < LP.big ∧ v e.1 + e.2.2 < v e.2.1) → FarAt kvs (LP.relax v e) := fun c => by
          unfold LP.relax; rw [if_neg c]; exact k2
        refine ⟨t, _, rfl, st, rfl, _, _, rfl, _, _, rfl, _, _, rfl, rfl, ?_⟩
        by_cases c1 : v e.1 < LP.big
        · rw [if_pos c1] at gi
          have hb : v e.1 + e.2.2 < LP.big := by have := vb _ c1; unfold LP.big at *; omega
          refine ⟨_, rfl, _, rfl, d, _, rfl, gi, _, rfl, iteT ?_⟩
          have put : v e.1 + e.2.2 < v e.2.1 → sDPut (tVar 5) (tVar 4) (tOp (rI0 fun i j => V.int (i + j)) (tDGet (tVar 5) (tVar 3)) (tVar 7)) { nx := fun σ H'' => Gw H2 (rm H'' d) ∧ (∃ kvs, H'' d = some (.dK kvs) ∧ FarAt kvs (LP.relax v e) ∧ kvs.length ≤ 1 + r * es.length + (j + 1)) ∧ ∃ u3 u4 u6 u7, σ = [some (.ref D), some (.int (n : Nat)), some (.ref L), u3, u4, some (.ref d), u6, u7, none, none, none], rt := Q }
              [some (.ref D), some (.int (n : Nat)), some (.ref L), some (.int (e.1 : Nat)), some (.int (e.2.1 : Nat)), some (.ref d), u6, some (.int e.2.2), none, none, none] H' := fun c => by
            refine ⟨_, rfl, _, rfl, d, _, rfl, gi, _, rfl, _, _, rfl, rfl, _, rfl, _, rfl, d, _, rfl, DPut.k (k := (Sum.inl ((e.2.1 : Nat) : Int) : Key)) k1 (small1000 (by
              have : r * es.length ≤ 5 * 25 := Nat.mul_le_mul (by omega) len25
              omega)), ?_⟩
            exact ⟨by rw [rm_upd]; exact g5, ⟨_, upd_same, k2.put ⟨c1, c⟩ hb, Nat.le_trans putK_le (by omega)⟩, _, _, _, _, rfl⟩
          by_cases c2 : v e.2.1 < LP.big
          · rw [if_pos c2] at gj
            refine ⟨_, rfl, _, rfl, d, _, rfl, gj, _, rfl, iteF ?_⟩
            refine ⟨_, rfl, _, rfl, d, _, rfl, gi, _, rfl, _, _, rfl, rfl, _, rfl, _, rfl, d, _, rfl, gj, _, _, rfl, rfl, _, rfl, ?_⟩
            by_cases c3 : v e.1 + e.2.2 < v e.2.1
            · rw [decide_eq_true c3]
              exact iteT (put c3)
            · rw [decide_eq_false c3]
              exact iteF ⟨g5, ⟨kvs, k1, skip (fun z => c3 z.2), by omega⟩, _, _, _, _, rfl⟩
          · rw [if_neg c2] at gj
            refine ⟨_, rfl, _, rfl, d, _, rfl, gj, _, rfl, iteT ?_⟩
            exact put (by omega)
        · rw [if_neg c1] at gi
          refine ⟨_, rfl, _, rfl, d, _, rfl, gi, _, rfl, iteF ?_⟩
          exact ⟨g5, ⟨kvs, k1, skip (fun z => c1 z.1), by omega⟩, _, _, _, _, rfl⟩
      · rintro σ H5 ⟨g5, ⟨kvs, k1, k2, k3⟩, u3, u4, u6, u7, rfl⟩
        rw [List.take_length] at k2
        exact ⟨g5, ⟨kvs, k1, k2, by rw [Nat.succ_mul]; omega⟩, _, _, _, _, rfl⟩
    · rintro σ H5 ⟨g5, ⟨kvs, k1, k2, k3⟩, u3, u4, u6, u7, rfl⟩
      have g25 : Gw H2 H5 := g5.trans Gw.rm_le
      have rl : ∀ {f : Nat → Int}, (∀ k, k < n → (f k).natAbs ≤ 10) → ∀ k, k < n → (f k).natAbs ≤ lim := fun h k hk => Nat.le_trans (h k hk) (by decide +kernel)
      -- rows
      refine ⟨(show 0 ≤ sizeLine by decide), fun p1 e1 => ⟨(show 0 ≤ sizeLine by decide), fun p2 e2 => ⟨_, _, rfl, ?_⟩⟩⟩
      have rr0 : RR K H5 _ p1 p2 n 0 (LP.wcol es) (LP.wc es) := RR.new e1 e2
      refine ⟨_, rfl, L, rfl, ⟨vs, SqL.of ((g25.trans rr0.le).at hvs)⟩, ?_⟩
      refine for_it (walk_listY (K := K) eit.1) (fun j σ H' => (∃ u3 u4 u6 u7, σ = [some (.ref D), some (.int (n : Nat)), some (.ref L), u3, u4, some (.ref d), u6, u7, some (.ref p1), some (.ref p2), none]) ∧ RR K H5 H' p1 p2 n j (LP.wcol es) (LP.wc es))
        ⟨⟨_, _, _, _, rfl⟩, rr0⟩ (fun j σ H' _ h => SqL.of ((g25.trans h.2.le).at hvs)) ?_ ?_
      · rintro j y σ H6 H' hj ⟨⟨u3, u4, u6, u7, rfl⟩, rr⟩ ⟨rfl, hy⟩
        have he : es[j]? = some es[j] := List.getElem?_eq_getElem hj
        have hgd : es.getD j (0, 0, 0) = es[j] := by rw [List.getD_eq_getElem?_getD, he]; rfl
        generalize es[j] = e at he hgd
        obtain ⟨t, et, st⟩ := eit.2 j e he
        rw [hy] at et; cases et
        have st := (g25.trans rr.le).sqT st
        obtain ⟨e1n, e2n, l1, l9⟩ := ok e (List.mem_of_getElem? he)
        obtain ⟨xs0, x1, x2, _⟩ := id rr.rows
        refine ⟨t, _, rfl, st, rfl, _, _, rfl, _, _, rfl, _, _, rfl, rfl, ?_⟩
        refine ⟨_, rfl, .inl ⟨rfl, xs0, SqL.of x1⟩, ?_⟩
        refine ⟨_, rfl, _, rfl, (show 2 ≤ sizeLine by decide), fun t1 ht1 => ⟨_, rfl, 1, rfl, (show 2 ≤ sizeLine by decide), fun t2 ht2 => ⟨(show 2 ≤ sizeLine by decide), fun lt hlt => ?_⟩⟩⟩
        have gt1 := Gw.new (.tup [V.int (e.1 : Nat), V.int 1]) ht1
        have gt2 := Gw.new (.tup [V.int (e.2.1 : Nat), V.int (-1)]) ht2
        have glt := Gw.new (.lst [V.ref t1, V.ref t2]) hlt
        have rw1 : ∀ k, LP.wcol es j k = rowF [(e.1, 1), (e.2.1, -1)] k := fun k => by
          unfold LP.wcol; rw [if_pos hj, hgd, row_edge]
        refine ⟨n, .ref lt, [(e.1, 1), (e.2.1, -1)], rfl, prs2 upd_same ((gt2.trans glt).sqT (SqT.of upd_same)) (glt.sqT (SqT.of upd_same)), by omega, (show 2 ≤ 1000 by decide), ?_, rl (fun k _ => by rw [row_edge]; split <;> split <;> decide), fun v8 H8 g8 r8 => ?_⟩
        · intro pr hpr
          rcases List.mem_cons.mp hpr with rfl | h
          · exact e1n
          · rw [List.mem_singleton.mp h]; exact e2n
        obtain ⟨xs, ys, a1, a2, a3, a4, a5⟩ := RR.put (rr.gw (gt1.trans (gt2.trans (glt.trans g8)))) (r8.congr fun k' hk' => by rw [rw1])
        refine ⟨p1, xs, v8, rfl, rfl, a1, Nat.lt_of_le_of_lt (show xs.length ≤ 100 by omega) (by decide), ?_⟩
        refine ⟨_, rfl, .inl ⟨rfl, ys, SqL.of a3⟩, _, rfl, _, _, rfl, rfl, p2, ys, _, rfl, rfl, a3, Nat.lt_of_le_of_lt (show ys.length ≤ 100 by omega) (by decide), ⟨_, _, _, _, rfl⟩, ?_⟩
        refine a5 _ ?_
        unfold LP.wc; rw [if_pos hj, hgd]
      · rintro σ H6 ⟨⟨u3, u4, u6, u7, rfl⟩, rr⟩
        refine ⟨_, rfl, _, rfl, (show 2 ≤ sizeLine by decide), fun t1 ht1 => ⟨(show 1 ≤ sizeLine by decide), fun lt1 hlt1 => ?_⟩⟩
        have gt1 := Gw.new (.tup [V.int 0, V.int 1]) ht1
        have glt1 := Gw.new (.lst [V.ref t1]) hlt1
        refine ⟨n, .ref lt1, [(0, 1)], rfl, prs1 upd_same (glt1.sqT (SqT.of upd_same)), by omega, (show 1 ≤ 1000 by decide), ?_, rl (fun k _ => by rw [row_one]; split <;> decide), fun v8 H8 g8 r8 => ?_⟩
        · intro pr hpr
          rw [List.mem_singleton.mp hpr]; show 0 < n; omega
        refine ⟨_, rfl, 1, rfl, (show 2 ≤ sizeLine by decide), fun t2 ht2 => ⟨(show 1 ≤ sizeLine by decide), fun lt2 hlt2 => ?_⟩⟩
        have gt2 := Gw.new (.tup [V.int 0, V.int (-1)]) ht2
        have glt2 := Gw.new (.lst [V.ref t2]) hlt2
        refine ⟨n, .ref lt2, [(0, -1)], rfl, prs1 upd_same (glt2.sqT (SqT.of upd_same)), by omega, (show 1 ≤ 1000 by decide), ?_, rl (fun k _ => by rw [row_one]; split <;> decide), fun v10 H10 g10 r10 => ⟨(show 2 ≤ sizeLine by decide), fun q0 eq0 => ?_⟩⟩
        · intro pr hpr
          rw [List.mem_singleton.mp hpr]; show 0 < n; omega
        have gq0 := Gw.new (.lst [v8, v10]) eq0
        have g8q := (gt1.trans (glt1.trans g8)).trans ((gt2.trans (glt2.trans g10)).trans gq0)
        have rrq := rr.gw g8q
        obtain ⟨xs, x1, x2, x3⟩ := id rrq.rows
        refine ⟨p1, q0, xs, _, rfl, rfl, x1, upd_same, ?_, fun q1 eq1 => ?_⟩
        · rw [x2]; exact Nat.le_trans (show _ + 2 ≤ 100 by omega) (by decide)
        have gq1 := Gw.new (.lst (xs ++ [v8, v10])) eq1
        -- goal
        refine ⟨_, rfl, _, rfl, _, _, rfl, rfl, 1, rfl, (show 2 ≤ sizeLine by decide), fun t3 ht3 => ⟨(show 1 ≤ sizeLine by decide), fun lt3 hlt3 => ?_⟩⟩
        dsimp only at hlt3
        have nm1 : ((n : Nat) : Int) - 1 = ((n - 1 : Nat) : Int) := by omega
        rw [nm1] at hlt3
        have gt3 := Gw.new (.tup [V.int ((n - 1 : Nat) : Int), V.int (-1)]) ht3
        have glt3 := Gw.new (.lst [V.ref t3]) hlt3
        dsimp only
        rw [nm1]
        refine ⟨n, .ref lt3, [(n - 1, -1)], rfl, prs1 upd_same (glt3.sqT (SqT.of upd_same)), by omega, (show 1 ≤ 1000 by decide), ?_, rl (fun k _ => by rw [row_one]; split <;> decide), fun v12 H12 g12 r12 => ?_⟩
        · intro pr hpr
          rw [List.mem_singleton.mp hpr]; show n - 1 < n; omega
        have g112 := gt3.trans (glt3.trans g12)
        -- the answer
        refine ⟨_, rfl, q1, xs ++ [v8, v10], rfl, .inl ⟨SqL.of (g112.at upd_same), fun l1 el1 => ?_⟩⟩
        have k1' := Gw.new (.tup (xs ++ [v8, v10])) el1
        refine ⟨_, rfl, (show 2 ≤ sizeLine by decide), fun q2 eq2 => ?_⟩
        have gq2 := Gw.new (.lst [V.int 0, V.int 0]) eq2
        obtain ⟨ys, y1, y2, y3⟩ := id rrq.right
        have g2a := g112.trans (k1'.trans gq2)
        refine ⟨p2, q2, ys, _, rfl, rfl, (gq1.trans g2a).at y1, upd_same, ?_, fun q3 eq3 => ?_⟩
        · rw [y2]; exact Nat.le_trans (show _ + 2 ≤ 100 by omega) (by decide)
        have wcolA : ∀ k, LP.wcol es es.length k = rowF [(0, 1)] k := fun k => by
          unfold LP.wcol; rw [if_neg (Nat.lt_irrefl _), if_pos rfl, row_one]
        have wcolB : ∀ k, LP.wcol es (es.length + 1) k = rowF [(0, -1)] k := fun k => by
          unfold LP.wcol; rw [if_neg (by omega), if_neg (by omega), row_one]
        have fin2 := RR.two rrq (x := v8) (y := v10) (z1 := 0) (z2 := 0) ((r8.gw ((gt2.trans (glt2.trans g10)).trans gq0)).congr fun k' hk' => by rw [wcolA]) ((VT.gw r10 gq0).congr fun k' hk' => by rw [wcolB]) x1 eq1 g2a ((gq1.trans g2a).at y1) eq3
          (by unfold LP.wc; rw [if_neg (by omega)]) (by unfold LP.wc; rw [if_neg (by omega)])
        have gq3 := Gw.new (.lst (ys ++ [V.int 0, V.int 0])) eq3
        obtain ⟨xs', x1', x2', x3'⟩ := id fin2.rows
        rw [(g2a.trans gq3).at upd_same] at x1'; cases x1'
        obtain ⟨ys', y1', y2', y3'⟩ := id fin2.right
        have eys := vs_ints y2' y3'
        refine ⟨q3, (List.range (es.length + 2)).map (LP.wc es), rfl, by rw [← eys]; exact SqL.of y1', by rw [List.length_map, List.length_range]; omega, ?_, fun v11 H11 g11 r11 => ?_⟩
        · intro z hz'
          obtain ⟨i, _, rfl⟩ := List.mem_map.mp hz'
          exact small_lim (Nat.le_trans (wc_small ok i) (by decide))
        rw [List.length_map, List.length_range] at r11
        have gk0 := g25.trans (rr.le.trans (g8q.trans (gq1.trans (g2a.trans (gq3.trans g11)))))
        have kd := (rr.le.trans (g8q.trans (gq1.trans (g2a.trans (gq3.trans g11))))).at k1
        refine ⟨_, rfl, ?_⟩
        have gi : DGet H11 d (.int ((n : Int) - 1)) (if LP.rounds es n (n - 1) < LP.big then some (.int (LP.rounds es n (n - 1))) else none) := by
          rw [nm1, ← k2]; exact DGet.k (k := (Sum.inl ((n - 1 : Nat) : Int) : Key)) kd
        have done : ∀ (dv : V) (l4 : Addr), H11 l4 = none → ((dv = .non ∧ LP.Unb n (es.length + 2) (fun j k => ((LP.wcol es j k : Int) : Rat)) (fun k => ((LP.wgoal n k : Int) : Rat)) (fun j => ((LP.wc es j : Int) : Rat))) ∨ ∃ z : Int, dv = .int z ∧ z.natAbs ≤ 1000 ∧ LP.Opt n (es.length + 2) (fun j k => ((LP.wcol es j k : Int) : Rat)) (fun k => ((LP.wgoal n k : Int) : Rat)) (fun j => ((LP.wc es j : Int) : Rat)) (z : Rat)) →
            Q (V.ref l4) (upd H11 l4 (.tup [V.ref l1, v11, v12, dv])) := fun dv l4 el4 h => by
          have k4 := Gw.new (.tup [V.ref l1, v11, v12, dv]) el4
          obtain ⟨q1', q2'⟩ := fin (gk0.trans k4)
          refine k _ _ q1' q2' ⟨l4, .ref l1, v11, v12, dv, es.length + 2, n, fun j k => ((LP.wcol es j k : Int) : Rat), fun j => ((LP.wc es j : Int) : Rat), fun k => ((LP.wgoal n k : Int) : Rat), rfl, SqT.of upd_same, ⟨?_, ?_, ?_, by omega, by omega, by omega⟩, by omega, by omega, ⟨by omega, fun j k' hj hk => ?_, fun k' hk => ?_⟩, fun j hj => ?_, ?_⟩
          · exact ⟨l1, _, rfl, (gq2.trans (gq3.trans (g11.trans k4))).sqT (SqT.of upd_same), x2', fun j hj => let ⟨x, e, v⟩ := x3' j hj; ⟨x, e, (v.gw Gw.r2_le).gw (g11.trans k4)⟩⟩
          · exact (VT.gw r11 k4).congr fun j hj => by rw [range_getD hj]
          · exact (VT.gw r12 (k1'.trans (gq2.trans (gq3.trans (g11.trans k4))))).congr fun j hj => by rw [row_one]; rfl
          · exact ⟨LP.isI_int _, LP.bd_int (B := 10) (wcol_small j k')⟩
          · refine ⟨LP.isI_int _, LP.bd_int (B := 10) ?_⟩
            unfold LP.wgoal; split <;> decide
          · exact ⟨LP.isI_int _, LP.bd_int (B := 10) (wc_small ok j)⟩
          · rcases h with h | ⟨z, h1, h2, h3⟩
            · exact .inl h
            · exact .inr ⟨(z : Rat), .inl ⟨z, h1, rfl⟩, by rw [Rat.den_intCast]; decide, by rw [Rat.num_intCast]; exact h2, h3⟩
        by_cases c : LP.rounds es n (n - 1) < LP.big
        · rw [if_pos c] at gi
          refine ⟨_, rfl, _, _, rfl, rfl, _, rfl, d, _, rfl, gi, _, rfl, iteT ?_⟩
          refine ⟨_, rfl, _, rfl, _, _, rfl, rfl, d, _, rfl, gi, _, _, rfl, rfl, (show 4 ≤ sizeLine by decide), fun l4 el4 => ?_⟩
          refine done _ l4 el4 (.inr ⟨_, rfl, ?_, LP.ways_opt ok (by omega) c⟩)
          have h1 := LP.rounds_fin ok n (n - 1) c
          have h2 := LP.rounds_nn ok n (n - 1)
          have h3 : es.length * n ≤ 20 * 5 := Nat.mul_le_mul len20 n5
          omega
        · rw [if_neg c] at gi
          refine ⟨_, rfl, _, _, rfl, rfl, _, rfl, d, _, rfl, gi, _, rfl, iteF ?_⟩
          refine ⟨(show 4 ≤ sizeLine by decide), fun l4 el4 => ?_⟩
          refine done _ l4 el4 (.inl ⟨rfl, LP.ways_unb ok (by omega) ?_ c⟩)
          exact Nat.le_trans (Nat.mul_le_mul len25 n5) (by decide)
end
end K44


set_option Elab.async false
set_option linter.all false
set_option maxRecDepth 100000
set_option maxHeartbeats 4000000
set_option exponentiation.threshold 3000
/-! The flow. -/
namespace K44
open PySem L2
open LP (Fit lim S Edge)
abbrev sLFlow : Stmt := top 53
abbrev nmF : List Str := ["draws", "many", "edges", "i", "j", "rows", "right", "k", "node", "pairs", "goal", "cuts", "sides", "side", "place", "number", "much"]
/-- an edge as data -/
def edD (e : Edge) : PyData := .tuple [.int (e.1 : Nat), .int (e.2.1 : Nat), .int e.2.2]
theorem EdgIt.dp {K : PySem.W.Frag} {H : Hp} : ∀ {es : List Edge} {vs : List V}, EdgIt K H vs es → DpAll K H vs (es.map edD)
  | [], vs, h => by
    cases vs with
    | nil => exact .nil
    | cons v vs => exact absurd h.1 (by simp)
  | e :: es, vs, h => by
    cases vs with
    | nil => exact absurd h.1 (by simp)
    | cons v vs =>
      obtain ⟨t, e1, st⟩ := h.2 0 e rfl
      cases e1
      refine .cons (.tup st (.cons (.int _) (.cons (.int _) (.cons (.int _) .nil)))) (EdgIt.dp ⟨?_, fun i e' he => h.2 (i + 1) e' he⟩)
      have := h.1
      simp only [List.length_cons] at this
      omega
theorem eds_shaped (es : List Edge) : SeqAt.shaped (.list (es.map edD)) = true := by
  have h1 : ∀ es : List Edge, PyData.canLayAll0 (es.map edD) = true := fun es => by
    induction es with
    | nil => rfl
    | cons n es ih => show (PyData.canLay0 (edD n) && _) = true; rw [ih]; rfl
  have h2 : ∀ es : List Edge, PyData.depthAll (es.map edD) ≤ 3 := fun es => by
    induction es with
    | nil => decide
    | cons n es ih => show max (PyData.depth (edD n)) _ ≤ 3; exact Nat.max_le.mpr ⟨Nat.le_of_ble_eq_true rfl, ih⟩
  unfold SeqAt.shaped
  rw [show PyData.canLay0 (.list (es.map edD)) = true from h1 es, Bool.true_and]
  refine decide_eq_true ?_
  show PyData.depthAll (es.map edD) + 1 ≤ 64
  have := h2 es
  omega
theorem two_ends {c : Bool} {A : Prop} {R : Hp → Prop} {H : Hp} (G : Hp → Prop) (hR : ∀ H', G H' → R H') (hA : c = true → (∀ H', G H' → R H') → A) (hB : c = false → G H) : if c = true then A else R H := by
  cases c with
  | true => exact iteT (hA rfl hR)
  | false => exact iteF (hR _ (hB rfl))
theorem rowF_range (f : Nat → Int) (k : Nat) : ∀ n, rowF ((List.range n).map fun j => (j, f j)) k = if k < n then f k else 0
  | 0 => by rw [if_neg (Nat.not_lt_zero _)]; rfl
  | n + 1 => by
    have ih := rowF_range f k n
    unfold rowF at ih ⊢
    rw [List.range_succ, List.map_append, List.map_append, List.sum_append, ih]
    simp only [List.map_cons, List.map_nil, List.sum_cons, List.sum_nil]
    by_cases h : n = k
    · subst h; rw [if_neg (Nat.lt_irrefl _), if_pos rfl, if_pos (Nat.lt_succ_self _)]; omega
    · rw [if_neg h]
      by_cases c : k < n
      · rw [if_pos c, if_pos (by omega)]; omega
      · rw [if_neg c, if_neg (by omega)]; rfl
theorem walk_range1 {n N : Nat} (h : n = N) : Walk (Itr 1 n) N (fun _ => True) (YFn fun i => .int ((i + 1 : Nat) : Int)) := by
  subst h
  refine ⟨fun _ _ hi _ => hi, fun _ _ => Nat.le_refl _, fun i H x H' _ _ y => ⟨y.1, y.2.trans ?_⟩⟩
  show V.int (1 + (i : Nat)) = V.int ((i + 1 : Nat) : Int)
  congr 1; omega
/-- the pairs at a node -/
def psN (es : List Edge) (t : Nat) (z : Int) : List (Nat × Int) := (List.range es.length).map fun k => (k, z * LP.dlt (LP.ed es k) t)
theorem dlt_dec (e : Edge) (t : Nat) : (if decide (V.int (e.2.1 : Nat) = V.int (t : Nat)) = true then (1 : Int) else 0) - (if decide (V.int (e.1 : Nat) = V.int (t : Nat)) = true then (1 : Int) else 0) = LP.dlt e t := by
  have h : ∀ a b : Nat, (V.int (a : Nat) = V.int (b : Nat)) ↔ a = b := fun a b => ⟨fun z => by have := V.int.inj z; omega, fun z => by rw [z]⟩
  unfold LP.dlt
  simp only [decide_eq_true_eq, h]
/-- pairs as the items of a list -/
def PrI (K : PySem.W.Frag) (H : Hp) (vs : List V) (ps : List (Nat × Int)) : Prop := vs.length = ps.length ∧ ∀ (i : Nat) (pr : Nat × Int), ps[i]? = some pr → ∃ t, vs[i]? = some (V.ref t) ∧ SqT K H t [.int (pr.1 : Nat), .int pr.2]
theorem PrI.nil {K : PySem.W.Frag} {H : Hp} : PrI K H [] [] := ⟨rfl, fun i pr h => by simp at h⟩
theorem PrI.gw {K : PySem.W.Frag} {H H' : Hp} {vs : List V} {ps : List (Nat × Int)} (h : PrI K H vs ps) (g : Gw H H') : PrI K H' vs ps := ⟨h.1, fun i pr hi => let ⟨t, a, b⟩ := h.2 i pr hi; ⟨t, a, g.sqT b⟩⟩
theorem PrI.app {K : PySem.W.Frag} {H : Hp} {vs : List V} {ps : List (Nat × Int)} {pr : Nat × Int} {t : Addr} (h : PrI K H vs ps) (ht : SqT K H t [.int (pr.1 : Nat), .int pr.2]) : PrI K H (vs ++ [V.ref t]) (ps ++ [pr]) := by
  refine ⟨by rw [List.length_append, List.length_append, h.1]; rfl, fun i e' he => ?_⟩
  by_cases c : i < ps.length
  · rw [List.getElem?_append_left c] at he
    obtain ⟨t', a, b⟩ := h.2 i e' he
    exact ⟨t', by rw [List.getElem?_append_left (by rw [h.1]; exact c)]; exact a, b⟩
  · have hl := (List.getElem?_eq_some_iff.mp he).1
    rw [List.length_append] at hl
    simp only [List.length_cons, List.length_nil] at hl
    have : i = ps.length := by omega
    subst this
    rw [List.getElem?_append_right (Nat.le_refl _), Nat.sub_self] at he
    cases he
    exact ⟨t, by rw [List.getElem?_append_right (by rw [h.1]; exact Nat.le_refl _), h.1, Nat.sub_self]; rfl, ht⟩
/-- the pairs of the goal -/
def psG (es : List Edge) : Nat → List (Nat × Int)
  | 0 => []
  | j + 1 => psG es j ++ if (LP.ed es j).1 = 0 then [(j, -1)] else []
theorem rowF_app (ps qs : List (Nat × Int)) (k : Nat) : rowF (ps ++ qs) k = rowF ps k + rowF qs k := by
  unfold rowF; rw [List.map_append, List.sum_append]
theorem psG_row (es : List Edge) (k : Nat) : ∀ n, rowF (psG es n) k = if k < n then LP.fgoal es k else 0
  | 0 => by rw [if_neg (Nat.not_lt_zero _)]; rfl
  | n + 1 => by
    unfold psG
    rw [rowF_app, psG_row es k n]
    have e : rowF (if (LP.ed es n).1 = 0 then [(n, -1)] else []) k = if n = k then LP.fgoal es n else 0 := by
      unfold LP.fgoal
      by_cases h : (LP.ed es n).1 = 0
      · rw [if_pos h, if_pos h, row_one]
      · rw [if_neg h, if_neg h]; split <;> rfl
    rw [e]
    by_cases h : n = k
    · subst h; rw [if_neg (Nat.lt_irrefl _), if_pos rfl, if_pos (Nat.lt_succ_self _)]; omega
    · rw [if_neg h]
      by_cases c : k < n
      · rw [if_pos c, if_pos (by omega)]; omega
      · rw [if_neg c, if_neg (by omega)]; rfl
theorem psG_lt (es : List Edge) : ∀ n pr, pr ∈ psG es n → pr.1 < n
  | 0, _, h => (List.not_mem_nil h).elim
  | n + 1, pr, h => by
    unfold psG at h
    rcases List.mem_append.mp h with h | h
    · exact Nat.lt_succ_of_lt (psG_lt es n pr h)
    · split at h
      · rw [List.mem_singleton.mp h]; exact Nat.lt_succ_self _
      · exact (List.not_mem_nil h).elim
theorem psG_len (es : List Edge) : ∀ n, (psG es n).length ≤ n
  | 0 => Nat.le_refl _
  | n + 1 => by
    unfold psG
    have := psG_len es n
    rw [List.length_append]
    split
    · simp only [List.length_cons, List.length_nil]; omega
    · simp only [List.length_nil]; omega
/-- the sides -/
def sidesG : Nat → List (List Nat)
  | 0 => [[0]]
  | i + 1 => sidesG i ++ (sidesG i).map (· ++ [i + 1])
theorem sidesG_F : sidesG 0 = LP.sidesF 2 ∧ sidesG 1 = LP.sidesF 3 ∧ sidesG 2 = LP.sidesF 4 := by decide
theorem sidesG_small : ∀ i, i ≤ 2 → (sidesG i).length ≤ 4 ∧ 0 < (sidesG i).length ∧ ∀ o, o ∈ sidesG i → o.length ≤ 3 ∧ o ≠ [] := by decide
theorem inV_nat (a : Nat) : ∀ o : List Nat, inV (V.int (a : Nat)) (o.map natV) = decide (a ∈ o)
  | [] => rfl
  | b :: o => by
    have ih := inV_nat a o
    show (eqV (V.int (b : Nat)) (V.int (a : Nat)) || inV (V.int (a : Nat)) (o.map natV)) = _
    rw [ih, show eqV (V.int (b : Nat)) (V.int (a : Nat)) = decide (b = a) from by
      show (((b : Nat) : Int) == ((a : Nat) : Int)) = _
      by_cases h : b = a
      · subst h; simp
      · rw [decide_eq_false h]; exact beq_eq_false_iff_ne.mpr (by omega)]
    by_cases h : b = a
    · subst h; simp
    · by_cases h2 : a ∈ o
      · simp [h2]
      · simp [h, h2, Ne.symm h, eq_comm]
theorem flat_nat (o : List Nat) : (o.map natV).all flatV = true := by
  rw [List.all_map]; exact List.all_eq_true.mpr fun _ _ => rfl
theorem LLat.rmc {H : Hp} {L c : Addr} {os : List (List Nat)} (h : LLat H L os) (hc : H c = some (.lst [])) (h0 : 0 < os.length) (hn : ∀ o, o ∈ os → o ≠ []) : LLat (rm H c) L os := by
  obtain ⟨vs, a, b, d⟩ := h
  refine ⟨vs, ?_, b, fun i o e => ?_⟩
  · rw [rm_ne ?_]; exact a
    intro z
    rw [z, hc] at a
    cases a
    exact absurd b (by simp; omega)
  · obtain ⟨q, e1, e2⟩ := d i o e
    refine ⟨q, e1, ?_⟩
    rw [rm_ne ?_]; exact e2
    intro z
    rw [z, hc] at e2
    have := hn o (List.mem_of_getElem? e)
    cases o with
    | nil => exact this rfl
    | cons x o => cases e2
theorem cut_cons (es : List Edge) (o : List Nat) (j : Nat) (hj : j < es.length) : ((es.take (j + 1)).map fun e => if e.1 ∈ o ∧ e.2.1 ∉ o then e.2.2 else 0).sum = ((es.take j).map fun e => if e.1 ∈ o ∧ e.2.1 ∉ o then e.2.2 else 0).sum + (if (LP.ed es j).1 ∈ o ∧ (LP.ed es j).2.1 ∉ o then (LP.ed es j).2.2 else 0) := by
  have e : es[j]? = some (LP.ed es j) := by unfold LP.ed; rw [List.getD_eq_getElem?_getD, List.getElem?_eq_getElem hj]; rfl
  rw [List.take_succ, e, List.map_append, List.sum_append]
  simp
theorem cut_small {s : Nat} {es : List Edge} (ok : LP.FOk s es) (o : List Nat) : 0 ≤ LP.cutI es o ∧ LP.cutI es o ≤ 7 * (es.length : Int) := by
  unfold LP.cutI
  induction es with
  | nil => exact ⟨Int.le_refl _, Int.le_refl _⟩
  | cons e es ih =>
    have h := ih (fun x hx => ok x (List.mem_cons_of_mem _ hx))
    have h2 := ok e List.mem_cons_self
    rw [List.map_cons, List.sum_cons, List.length_cons]
    obtain ⟨_, _, _, _, h3, h4⟩ := h2
    split <;> omega
section
variable {P : Program} {w : World} {K : PySem.W.Frag} {mg : Str → Option Value} {base : Heap}
theorem inK {X : Cx} (K : PySem.W.Frag) (h : X.K = K := by rfl) : OpR X (compareOp .In) (rIn K false) := by subst h; exact op_in_seq
theorem notinK {X : Cx} (K : PySem.W.Frag) (h : X.K = K := by rfl) : OpR X (compareOp .NotIn) (rIn K true) := by subst h; exact op_notIn_seq
theorem scLFlow : FnScope nmF ["draws"] (defScope sLFlow) := ⟨rfl, rfl, rfl, by decide +kernel, rfl, by decide +kernel, by decide +kernel⟩
theorem ok_lFlow {f : Addr} {fd : FuncData} (F : Fun K "_law_flow" "_law_flow" sLFlow f fd) (T : Txt K mg) (C1 : CTake P w K mg base) (C2' : CParts P w K mg base) (C3 : CRow P w K mg base) :
    FnOk P w K mg base CX0 2 f fd ["draws"] (spBuild K) := by
  refine F.ok scLFlow (fun vs H Q E h => ?_) (fun cdv A outer s H vs Q E hr h => ?_)
  · obtain ⟨D, rfl, _⟩ := h
    rfl
  · obtain ⟨D, rfl, hD, k⟩ := h
    have hu := hu_of hr
    refine ⟨_, pss_cons (ps_set (i := 1) scLFlow.nd rfl (Or.inl rfl) (pe_op op_add pe_int (pe_call C1.ok hr rfl C1.hm C1.kp C1.b .nil pass0 (pa_cons (pv 0) (pa_cons pe_int pa_nil)))))
      (pss_cons (ps_set (i := 2) scLFlow.nd rfl (Or.inr rfl) (pe_lst pa_nil))
      (pss_cons (ps_for PassesOwn.never rfl (pi_range1 rfl T.range (pa_cons (pv 1) pa_nil)) (pg_name (i := 3) scLFlow.nd rfl (Or.inl rfl))
        (pss_one (ps_for PassesOwn.never rfl (pi_range1 rfl T.range (pa_cons (pv 1) pa_nil)) (pg_name (i := 4) scLFlow.nd rfl (Or.inl rfl))
          (pss_one (ps_if (PW.pt (pw_and (pt_cmpR op_ne (pv 3) (pv 4) (nomark _)) (pw_and (pt_cmpR op_ne (pv 4) pe_int (nomark _)) (pw_and (pt_cmpR op_ne (pv 3) (pe_op op_sub (pv 1) pe_int) (nomark _))
              (pw_and1 (pt_cmpR op_gt (pe_call C1.ok hr rfl C1.hm C1.kp C1.b .nil pass0 (pa_cons (pv 0) (pa_cons pe_int pa_nil))) pe_int (nomark _)))))))
            (pss_one (ps_expr (pe_bm PySem.F.plainAttrs_list PySem.F.slot_list_append PySem.F.type_list_append mt_append (pv 2) (pa_cons (pe_tup (pa_cons (pv 3) (pa_cons (pv 4) (pa_cons (pe_call C1.ok hr rfl C1.hm C1.kp C1.b .nil pass0 (pa_cons (pv 0) (pa_cons pe_int pa_nil))) pa_nil)))) pa_nil)))) pss_nil)))))
      (pss_cons (ps_if (pt_cmpR (eqK K hr.units) (pv 2) (pe_lst pa_nil) (nomark _))
        (pss_one (ps_expr (pe_bm PySem.F.plainAttrs_list PySem.F.slot_list_append PySem.F.type_list_append mt_append (pv 2) (pa_cons (pe_tup (pa_cons pe_int (pa_cons (pe_op op_sub (pv 1) pe_int) (pa_cons pe_int pa_nil)))) pa_nil)))) pss_nil)
      (pss_cons (ps_par (i := 5) (j := 6) rfl scLFlow.nd rfl rfl (by decide) rfl rfl (pa_cons (pe_lst pa_nil) (pa_cons (pe_lst pa_nil) pa_nil)) rfl)
      (pss_cons (ps_for PassesOwn.never rfl (pi_range1 rfl T.range (pa_cons (pe_callB (lenK K) (by rfl) T.len PySem.boot_len (pa_cons (pv 2) pa_nil)) pa_nil)) (pg_name (i := 7) scLFlow.nd rfl (Or.inl rfl))
        (pss_cons (ps_set (i := 5) scLFlow.nd rfl (Or.inl rfl) (pe_op op_cat (pv 5) (pe_lst (pa_cons
          (pe_call C3.ok hr rfl C3.hm C3.kp C3.b .nil pass0 (pa_cons (pe_callB (lenK K) (by rfl) T.len PySem.boot_len (pa_cons (pv 2) pa_nil)) (pa_cons (pe_lst (pa_cons (pe_tup (pa_cons (pv 7) (pa_cons pe_int pa_nil))) pa_nil)) pa_nil))) (pa_cons
          (pe_call C3.ok hr rfl C3.hm C3.kp C3.b .nil pass0 (pa_cons (pe_callB (lenK K) (by rfl) T.len PySem.boot_len (pa_cons (pv 2) pa_nil)) (pa_cons (pe_lst (pa_cons (pe_tup (pa_cons (pv 7) (pa_cons (pe_un un_neg pe_int) pa_nil))) pa_nil)) pa_nil))) pa_nil)))))
        (pss_one (ps_set (i := 6) scLFlow.nd rfl (Or.inl rfl) (pe_op op_cat (pv 6) (pe_lst (pa_cons pe_int (pa_cons (pe_op op_sub pe_int (pe_ix (ixT K) (pe_ix (ixL K) (pv 2) (pv 7) (fun _ _ => rfl)) pe_int (fun _ _ => rfl))) pa_nil))))))))
      (pss_cons (ps_for PassesOwn.never rfl (pi_range2 rfl T.range (pa_cons pe_int (pa_cons (pe_op op_sub (pv 1) pe_int) pa_nil))) (pg_name (i := 8) scLFlow.nd rfl (Or.inr rfl))
        (pss_cons (ps_setLc (i := 9) (own := [("k", 7)]) (g := gName 7) (tt := tYes) rfl scLFlow.nd rfl rfl (sw_true rfl rfl rfl rfl) (pi_range1 rfl T.range (pa_cons (pe_callB (lenK K) (by rfl) T.len PySem.boot_len (pa_cons (pv 2) pa_nil)) pa_nil)) (blkOk_by (N := nmF) (by kernel_rfl))
            (fun _ _ _ _ _ => pg_name (i := 7) scLFlow.nd rfl (Or.inl rfl)) (fun _ _ _ _ _ => pts_nil)
            (fun _ _ _ _ _ => pe_tup (pa_cons (pv 7) (pa_cons (pe_op op_sub
              (pe_callTy call_int1 (by rfl) T.int (by decide +kernel) (pa_cons (pe_cmpR op_eq (pe_ix (ixT K) (pe_ix (ixL K) (pv 2) (pv 7) (fun _ _ => rfl)) pe_int (fun _ _ => rfl)) (pv 8) (nomark _)) pa_nil))
              (pe_callTy call_int1 (by rfl) T.int (by decide +kernel) (pa_cons (pe_cmpR op_eq (pe_ix (ixT K) (pe_ix (ixL K) (pv 2) (pv 7) (fun _ _ => rfl)) pe_int (fun _ _ => rfl)) (pv 8) (nomark _)) pa_nil))) pa_nil))))
        (pss_cons (ps_set (i := 5) scLFlow.nd rfl (Or.inl rfl) (pe_op op_cat (pv 5) (pe_lst (pa_cons
          (pe_call C3.ok hr rfl C3.hm C3.kp C3.b .nil pass0 (pa_cons (pe_callB (lenK K) (by rfl) T.len PySem.boot_len (pa_cons (pv 2) pa_nil)) (pa_cons (pv 9) pa_nil))) (pa_cons
          (pe_call C3.ok hr rfl C3.hm C3.kp C3.b .nil pass0 (pa_cons (pe_callB (lenK K) (by rfl) T.len PySem.boot_len (pa_cons (pv 2) pa_nil)) (pa_cons
            (pe_lc (own := [("place", 14), ("number", 15)]) (g := gTup K 2 (gCons (gName 14) (gCons (gName 15) gNil))) (tt := tYes) rfl scLFlow.nd (listK K (pv 9)) (blkOk_by (N := nmF) (by kernel_rfl))
                (fun _ _ _ _ _ => pg_tup rfl (pgs_cons (pg_name (i := 14) scLFlow.nd rfl (Or.inl rfl)) (pgs_cons (pg_name (i := 15) scLFlow.nd rfl (Or.inl rfl)) pgs_nil))) (fun _ _ _ _ _ => pts_nil) (fun _ _ _ _ _ => pe_tup (pa_cons (pv 14) (pa_cons (pe_op op_sub pe_int (pv 15)) pa_nil)))) pa_nil))) pa_nil)))))
        (pss_one (ps_set (i := 6) scLFlow.nd rfl (Or.inl rfl) (pe_op op_cat (pv 6) (pe_lst (pa_cons pe_int (pa_cons pe_int pa_nil)))))))))
      (pss_cons (ps_set (i := 10) scLFlow.nd rfl (Or.inl rfl) (pe_call C3.ok hr rfl C3.hm C3.kp C3.b .nil pass0 (pa_cons (pe_callB (lenK K) (by rfl) T.len PySem.boot_len (pa_cons (pv 2) pa_nil)) (pa_cons
          (pe_lc (own := [("k", 7)]) (g := gName 7) rfl scLFlow.nd (pi_range1 rfl T.range (pa_cons (pe_callB (lenK K) (by rfl) T.len PySem.boot_len (pa_cons (pv 2) pa_nil)) pa_nil)) (blkOk_by (N := nmF) (by kernel_rfl))
            (fun _ _ _ _ _ => pg_name (i := 7) scLFlow.nd rfl (Or.inl rfl)) (fun _ _ _ _ _ => pts_one (pt_cmpR op_eq (pe_ix (ixT K) (pe_ix (ixL K) (pv 2) (pv 7) (fun _ _ => rfl)) pe_int (fun _ _ => rfl)) pe_int (nomark _)))
            (fun _ _ _ _ _ => pe_tup (pa_cons (pv 7) (pa_cons (pe_un un_neg pe_int) pa_nil)))) pa_nil))))
      (pss_cons (ps_par (i := 11) (j := 12) rfl scLFlow.nd rfl rfl (by decide) rfl rfl (pa_cons (pe_lst pa_nil) (pa_cons (pe_lst (pa_cons (pe_lst (pa_cons pe_int pa_nil)) pa_nil)) pa_nil)) rfl)
      (pss_cons (ps_for PassesOwn.never rfl (pi_range2 rfl T.range (pa_cons pe_int (pa_cons (pe_op op_sub (pv 1) pe_int) pa_nil))) (pg_name (i := 8) scLFlow.nd rfl (Or.inr rfl))
        (pss_one (ps_set (i := 12) scLFlow.nd rfl (Or.inl rfl) (pe_op op_cat (pv 12)
          (pe_lc (own := [("side", 13)]) (g := gName 13) (tt := tYes) rfl scLFlow.nd (listK K (pv 12)) (blkOk_by (N := nmF) (by kernel_rfl))
            (fun _ _ _ _ _ => pg_name (i := 13) scLFlow.nd rfl (Or.inl rfl)) (fun _ _ _ _ _ => pts_nil) (fun _ _ _ _ _ => pe_op op_cat (pv 13) (pe_lst (pa_cons (pv 8) pa_nil))))))))
      (pss_cons (ps_for PassesOwn.never rfl (pi_list (pv 12)) (pg_name (i := 13) scLFlow.nd rfl (Or.inr rfl))
        (pss_one (ps_expr (pe_bm PySem.F.plainAttrs_list PySem.F.slot_list_append PySem.F.type_list_append mt_append (pv 11) (pa_cons (pe_callB (sumK K) rfl T.sum (by decide +kernel) (pa_cons
          (pe_lc (own := [("i", 3), ("j", 4), ("much", 16)]) (g := gTup K 3 (gCons (gName 3) (gCons (gName 4) (gCons (gName 16) gNil)))) rfl scLFlow.nd (listK K (pv 2)) (blkOk_by (N := nmF) (by kernel_rfl))
            (fun _ _ _ _ _ => pg_tup rfl (pgs_cons (pg_name (i := 3) scLFlow.nd rfl (Or.inl rfl)) (pgs_cons (pg_name (i := 4) scLFlow.nd rfl (Or.inl rfl)) (pgs_cons (pg_name (i := 16) scLFlow.nd rfl (Or.inl rfl)) pgs_nil))))
            (fun _ _ _ _ _ => pts_one (PW.pt (pw_and (pt_cmpR (inK K) (pv 3) (pv 13) rfl) (pw_and1 (pt_cmpR (notinK K) (pv 4) (pv 13) rfl))))) (fun _ _ _ _ _ => pv 16)) pa_nil)) pa_nil)))))
      (pss_one (ps_ret (pe_tup (pa_cons (pe_callTy call_tuple_of (by rfl) T.tuple (by decide +kernel) (pa_cons (pv 5) pa_nil)) (pa_cons (pe_call C2'.ok hr rfl C2'.hm C2'.kp C2'.b .nil pass0 (pa_cons (pv 6) pa_nil))
        (pa_cons (pv 10) (pa_cons (pe_op op_sub pe_int (pe_callB (minK' K) rfl T.min (by decide +kernel) (pa_cons (pv 11) pa_nil))) pa_nil))))))))))))))))), ?_⟩
    refine ⟨_, rfl, D, 3, rfl, by decide, hD, fun v1 H1 a0 a1 g1 d1 => ⟨_, _, rfl, rfl, ?_⟩⟩
    obtain ⟨s, hs, s2, s4⟩ : ∃ s : Nat, 2 + v1 = (s : Int) ∧ 2 ≤ s ∧ s ≤ 4 := ⟨(2 + v1).toNat, by omega, by omega, by omega⟩
    dsimp only
    rw [hs]
    -- edges
    refine ⟨(show 0 ≤ sizeLine by decide), fun L hL => ?_⟩
    have neL := draws_ne d1 hL
    have ed0 : ED K H1 (upd H1 L (.lst [])) D L [] := ⟨neL, by rw [r2_updB neL.symm]; exact Gw.refl _, draws_upd d1 neL, [], upd_same, rfl, fun i e h => by simp at h⟩
    refine ⟨_, rfl, (s : Int), rfl, by omega, by omega, ?_⟩
    refine for_it (walk_rangeN (N := s) (by omega)) (fun i σ H' => (∃ es, ED K H1 H' D L es ∧ LP.FOk s es ∧ es.length ≤ min i (s - 1) * 3) ∧ ∃ u3 u4, σ = [some (.ref D), some (.int (s : Nat)), some (.ref L), u3, u4, none, none, none, none, none, none, none, none, none, none, none, none])
      ⟨⟨[], ed0, fun e h => (List.not_mem_nil h).elim, Nat.zero_le _⟩, none, none, rfl⟩ (fun _ _ _ _ _ => True.intro) ?_ ?_
    · rintro i y σ H2 H' hi ⟨⟨es, ed, ok, le⟩, u3, u4, rfl⟩ ⟨rfl, rfl⟩
      refine ⟨_, rfl, (s : Int), rfl, by omega, by omega, ?_⟩
      refine for_it (walk_rangeN (N := s) (by omega)) (fun j σ H' => (∃ es, ED K H1 H' D L es ∧ LP.FOk s es ∧ es.length ≤ min i (s - 1) * 3 + (if i < s - 1 then j - 1 else 0)) ∧ ∃ u4, σ = [some (.ref D), some (.int (s : Nat)), some (.ref L), some (.int (i : Nat)), u4, none, none, none, none, none, none, none, none, none, none, none, none])
        ⟨⟨es, ed, ok, by omega⟩, _, rfl⟩ (fun _ _ _ _ _ => True.intro) ?_ (fun σ H' ⟨⟨es, a, b, c⟩, u4, e⟩ => ⟨⟨es, a, b, by split at c <;> omega⟩, _, _, e⟩)
      rintro j y σ H3 H' hj ⟨⟨es, ed, ok, le⟩, u4, rfl⟩ ⟨rfl, rfl⟩
      refine ⟨_, rfl, _, rfl, rfl, _, rfl, ?_⟩
      by_cases hij : i = j
      · rw [decide_eq_true (show V.int ((i : Nat) : Int) = V.int ((j : Nat) : Int) by rw [hij])]
        exact iteF (iteF ⟨⟨es, ed, ok, by split at le <;> split <;> omega⟩, _, rfl⟩)
      rw [decide_eq_false (show ¬ V.int ((i : Nat) : Int) = V.int ((j : Nat) : Int) from fun z => by have := V.int.inj z; omega)]
      refine iteT ⟨_, rfl, rfl, _, rfl, ?_⟩
      by_cases hj0 : j = 0
      · subst hj0
        rw [decide_eq_true (show V.int ((0 : Nat) : Int) = V.int 0 by rfl)]
        exact iteF (iteF ⟨⟨es, ed, ok, by split at le <;> split <;> omega⟩, _, rfl⟩)
      rw [decide_eq_false (show ¬ V.int ((j : Nat) : Int) = V.int 0 from fun z => by have := V.int.inj z; omega)]
      refine iteT ⟨_, rfl, _, rfl, _, _, rfl, rfl, rfl, _, rfl, ?_⟩
      by_cases his : i = s - 1
      · rw [decide_eq_true (show V.int ((i : Nat) : Int) = V.int ((s : Nat) - 1) by rw [his]; congr 1; omega)]
        exact iteF (iteF ⟨⟨es, ed, ok, by split at le <;> split <;> omega⟩, _, rfl⟩)
      rw [decide_eq_false (show ¬ V.int ((i : Nat) : Int) = V.int ((s : Nat) - 1) from fun z => by have := V.int.inj z; omega)]
      have his' : i < s - 1 := by omega
      rw [if_pos his'] at le
      refine iteT ⟨_, rfl, D, 3, rfl, by decide, ed.d, fun v4 H4 b0 b1 g4 d4 => ⟨_, _, rfl, rfl, _, rfl, ?_⟩⟩
      have ed4 := ed.take g4 d4
      by_cases hv : v4 > 0
      · rw [decide_eq_true hv]
        refine iteT ?_
        obtain ⟨vs, w1, w2⟩ := id ed4.at_
        refine ⟨_, rfl, .inl ⟨rfl, vs, SqL.of w1⟩, ?_⟩
        refine ⟨_, rfl, _, rfl, _, rfl, D, 8, rfl, by decide, d4, fun v5 H5 c0 c1 g5 d5 => ⟨(show 3 ≤ sizeLine by decide), fun t ht => ?_⟩⟩
        obtain ⟨vs', z1, z2, z3⟩ := (ed4.take g5 d5).put (e := (i, j, v5)) ht
        refine ⟨L, vs', .ref t, rfl, rfl, z1, small1000 (by omega), ⟨es ++ [(i, j, v5)], z3, fun e he => ?_, by rw [List.length_append]; simp only [List.length_cons, List.length_nil]; rw [if_pos his']; omega⟩, _, rfl⟩
        rcases List.mem_append.mp he with h | h
        · exact ok e h
        · rw [List.mem_singleton.mp h]
          exact ⟨his', hj, hj0, hij, c0, by show v5 ≤ 7; omega⟩
      · rw [decide_eq_false hv]
        exact iteF ⟨⟨es, ed4, ok, by rw [if_pos his']; omega⟩, _, rfl⟩
    rintro σ H2 ⟨⟨es, ed, ok, le⟩, u3, u4, rfl⟩
    have nm1 : ((s : Nat) : Int) - 1 = ((s - 1 : Nat) : Int) := by omega
    obtain ⟨vs0, hvs0, eit0⟩ := id ed.at_
    refine ⟨_, rfl, (show 0 ≤ sizeLine by decide), fun p0 hp0 => ?_⟩
    have g0 := Gw.new (.lst []) hp0
    refine ⟨.list (es.map edD), .list [], .lst (SqL.of (g0.at hvs0)) ((eit0.gw Gw.r2_le).gw g0).dp, .lst (SqL.of upd_same) .nil, eds_shaped es, rfl, _, rfl, ?_⟩
    have ed3 := ed.take (g0.rm (D := D)) (draws_upd ed.d (draws_ne ed.d hp0))
    clear ed0 ed g0 hvs0 eit0
    generalize upd H2 p0 (.lst []) = H3 at ed3 ⊢
    refine two_ends (H := H3) (fun H' => ∃ es, ED K H1 H' D L es ∧ LP.FOk s es ∧ 0 < es.length ∧ es.length ≤ 9) ?_ (fun hc hR => ?_) (fun hc => ⟨es, ed3, ok, ?_, by omega⟩)
    rotate_left
    · have he : es = [] := by
        cases es with
        | nil => rfl
        | cons e es => cases hc
      subst he
      obtain ⟨vs, w1, w2⟩ := id ed3.at_
      refine ⟨_, rfl, .inl ⟨rfl, vs, SqL.of w1⟩, ?_⟩
      refine ⟨_, rfl, _, _, rfl, rfl, (show 3 ≤ sizeLine by decide), fun t ht => ?_⟩
      dsimp only
      rw [nm1]
      obtain ⟨vs', z1, z2, z3⟩ := ed3.put (e := (0, s - 1, 3)) ht
      refine ⟨L, vs', .ref t, rfl, rfl, z1, small1000 (by rw [z2]; decide), hR _ ⟨_, z3, fun e he => ?_, (show 0 < 1 by decide), (show 1 ≤ 9 by decide)⟩⟩
      rw [List.mem_singleton.mp he]
      exact ⟨by show 0 < s - 1; omega, by show s - 1 < s; omega, by show s - 1 ≠ 0; omega, by show 0 ≠ s - 1; omega, (show (0 : Int) ≤ 3 by decide), (show (3 : Int) ≤ 7 by decide)⟩
    · cases es with
      | nil => cases hc
      | cons e es => exact Nat.succ_pos _
    rintro H4 ⟨es, ed, ok, lpos, l9⟩
    obtain ⟨vs, hvs, eit⟩ := id ed.at_
    have eit := eit.gw Gw.r2_le
    have g14 : Gw (rm H1 D) (rm H4 D) := by
      have h1 := ed.g
      rw [show R2 H1 D L = rm H1 D from by show rm (rm H1 D) L = _; rw [rm_none (by rw [rm_ne neL]; exact hL)]] at h1
      exact h1.trans Gw.rm_le
    have d4 := ed.d
    have fin : ∀ {H'}, Gw H4 H' → Gw (rm H D) (rm H' D) ∧ Draws H' D := fun g => ⟨(g1.trans g14).trans g.rm, let ⟨ns, e⟩ := d4; ⟨ns, g.at e⟩⟩
    have hlen : ∀ {H'}, Gw H4 H' → SqL K H' L vs := fun g => SqL.of (g.at hvs)
    have vl : vs.length = es.length := eit.1
    clear ed g14 ed3
    have rl : ∀ {f : Nat → Int}, (∀ k, k < es.length → (f k).natAbs ≤ 10) → ∀ k, k < es.length → (f k).natAbs ≤ lim := fun h k hk => Nat.le_trans (h k hk) (by decide +kernel)
    refine ⟨(show 0 ≤ sizeLine by decide), fun p1 e1 => ⟨(show 0 ≤ sizeLine by decide), fun p2 e2 => ⟨_, _, rfl, ?_⟩⟩⟩
    have rr0 : RR K H4 _ p1 p2 es.length 0 (LP.fcol es) (LP.fc es) := RR.new e1 e2
    refine ⟨_, rfl, L, _, rfl, .inl (hlen rr0.le), ?_⟩
    rw [vl]
    refine ⟨_, rfl, (by omega), (by omega), ?_⟩
    refine for_it (walk_rangeN (N := es.length) (by omega)) (fun k σ H' => ∃ Lr Lq u3 u4 u7, σ = [some (.ref D), some (.int (s : Nat)), some (.ref L), u3, u4, some (.ref Lr), some (.ref Lq), u7, none, none, none, none, none, none, none, none, none] ∧ RR K H4 H' Lr Lq es.length (2 * k) (LP.fcol es) (LP.fc es))
      ⟨p1, p2, _, _, _, rfl, rr0⟩ (fun _ _ _ _ _ => True.intro) ?_ ?_
    · rintro i y σ H5 H' hi ⟨Lr, Lq, u3, u4, u7, rfl, rr⟩ ⟨rfl, rfl⟩
      have hei : es[i]? = some (LP.ed es i) := by unfold LP.ed; rw [List.getD_eq_getElem?_getD, List.getElem?_eq_getElem hi]; rfl
      obtain ⟨te, et, st⟩ := eit.2 i _ hei
      have row1 : ∀ k, LP.fcol es (2 * i) k = rowF [(i, 1)] k := fun k => by
        unfold LP.fcol
        rw [if_pos (by omega), row_one, show 2 * i / 2 = i by omega, show 2 * i % 2 = 0 by omega]; rfl
      have row2 : ∀ k, LP.fcol es (2 * i + 1) k = rowF [(i, -1)] k := fun k => by
        unfold LP.fcol
        rw [if_pos (by omega), row_one, show (2 * i + 1) / 2 = i by omega, show (2 * i + 1) % 2 = 1 by omega]; rfl
      refine ⟨_, rfl, _, rfl, L, _, rfl, .inl (hlen rr.le), ?_⟩
      refine ⟨_, rfl, (show 2 ≤ sizeLine by decide), fun t1 ht1 => ⟨(show 1 ≤ sizeLine by decide), fun lt1 hlt1 => ?_⟩⟩
      have gt1 := Gw.new (.tup [V.int (i : Nat), V.int 1]) ht1
      have glt1 := Gw.new (.lst [V.ref t1]) hlt1
      refine ⟨es.length, .ref lt1, [(i, 1)], by rw [vl]; rfl, prs1 upd_same (glt1.sqT (SqT.of upd_same)), by omega, (show 1 ≤ 1000 by decide), ?_, rl (fun k _ => by rw [row_one]; split <;> decide), fun v8 H8 g8 r8 => ?_⟩
      · intro pr hpr
        rw [List.mem_singleton.mp hpr]; exact hi
      have h18 := gt1.trans (glt1.trans g8)
      refine ⟨_, rfl, L, _, rfl, .inl (hlen (rr.le.trans h18)), ?_⟩
      refine ⟨_, rfl, 1, rfl, (show 2 ≤ sizeLine by decide), fun t2 ht2 => ⟨(show 1 ≤ sizeLine by decide), fun lt2 hlt2 => ?_⟩⟩
      have gt2 := Gw.new (.tup [V.int (i : Nat), V.int (-1)]) ht2
      have glt2 := Gw.new (.lst [V.ref t2]) hlt2
      refine ⟨es.length, .ref lt2, [(i, -1)], by rw [vl]; rfl, prs1 upd_same (glt2.sqT (SqT.of upd_same)), by omega, (show 1 ≤ 1000 by decide), ?_, rl (fun k _ => by rw [row_one]; split <;> decide), fun v10 H10 g10 r10 => ⟨(show 2 ≤ sizeLine by decide), fun q0 eq0 => ?_⟩⟩
      · intro pr hpr
        rw [List.mem_singleton.mp hpr]; exact hi
      have gq0 := Gw.new (.lst [v8, v10]) eq0
      have g8q := h18.trans ((gt2.trans (glt2.trans g10)).trans gq0)
      have rrq := rr.gw g8q
      obtain ⟨xs, x1, x2, x3⟩ := id rrq.rows
      refine ⟨Lr, q0, xs, _, rfl, rfl, x1, upd_same, ?_, fun q1 eq1 => ?_⟩
      · rw [x2]; exact Nat.le_trans (show _ + 2 ≤ 100 by omega) (by decide)
      have gq1 := Gw.new (.lst (xs ++ [v8, v10])) eq1
      have gq := rr.le.trans (g8q.trans gq1)
      refine ⟨_, rfl, _, rfl, _, rfl, _, _, _, _, rfl, rfl, hlen gq, at_of rfl et, _, _, _, _, rfl, rfl, gq.sqT st, atI_nat (j := 2) rfl, _, _, rfl, rfl, (show 2 ≤ sizeLine by decide), fun q2 eq2 => ?_⟩
      have gq2 := Gw.new (.lst [V.int 0, V.int (0 - (LP.ed es i).2.2)]) eq2
      obtain ⟨ys, y1, y2, y3⟩ := id rrq.right
      refine ⟨Lq, q2, ys, _, rfl, rfl, (gq1.trans gq2).at y1, upd_same, ?_, fun q3 eq3 => ?_⟩
      · rw [y2]; exact Nat.le_trans (show _ + 2 ≤ 100 by omega) (by decide)
      have fin2 := RR.two rrq (x := v8) (y := v10) (z1 := 0) (z2 := 0 - (LP.ed es i).2.2) ((r8.gw ((gt2.trans (glt2.trans g10)).trans gq0)).congr fun k' hk' => by rw [row1]) ((VT.gw r10 gq0).congr fun k' hk' => by rw [row2]) x1 eq1 gq2 ((gq1.trans gq2).at y1) eq3
        (by unfold LP.fc; rw [if_pos (by omega), if_pos (by omega)]) (by unfold LP.fc; rw [if_pos (by omega), if_neg (by omega), show (2 * i + 1) / 2 = i by omega])
      exact ⟨q1, q3, _, _, _, rfl, fin2⟩
    rintro σ H5 ⟨Lr, Lq, u3, u4, u7, rfl, rr⟩
    clear rr0 e1 e2
    -- nodes
    refine ⟨_, rfl, _, _, rfl, rfl, 1, (s : Int) - 1, rfl, ⟨by decide, by decide, by omega, by omega⟩, ?_⟩
    refine for_it (walk_range1 (N := s - 2) (by omega)) (fun i σ H' => ∃ Lr Lq u3 u4 u7 u8 u9, σ = [some (.ref D), some (.int (s : Nat)), some (.ref L), u3, u4, some (.ref Lr), some (.ref Lq), u7, u8, u9, none, none, none, none, none, none, none] ∧ RR K H4 H' Lr Lq es.length (2 * es.length + 2 * i) (LP.fcol es) (LP.fc es))
      ⟨Lr, Lq, _, _, _, _, _, rfl, rr⟩ (fun _ _ _ _ _ => True.intro) ?_ ?_
    · rintro i y σ H6 H' hi ⟨Lr, Lq, u3, u4, u7, u8, u9, rfl, rr⟩ ⟨rfl, rfl⟩
      refine ⟨_, rfl, L, _, rfl, .inl (hlen rr.le), ?_⟩
      rw [vl]
      refine ⟨_, rfl, (by omega), (by omega), fun D3 hD3 => lc_grow (walk_rangeN (N := es.length) (by omega)) hD3 (by omega) (fun j v H => ∃ t, v = .ref t ∧ SqT K H t [.int (j : Nat), .int (LP.dlt (LP.ed es j) (i + 1))]) (fun _ _ _ _ g ⟨t, e, h⟩ => ⟨t, e, g.sqT h⟩)
          (fun _ _ => True.intro) (fun j y H9 H' hj _ g9 ⟨ws, hw⟩ hY C9 hC9 => ?_) (fun H9 zs2 g9 _ hz2 lz2 iz2 => ?_)⟩
      · obtain ⟨rfl, rfl⟩ := hY
        have hej : es[j]? = some (LP.ed es j) := by unfold LP.ed; rw [List.getD_eq_getElem?_getD, List.getElem?_eq_getElem hj]; rfl
        obtain ⟨te, et, st⟩ := eit.2 j _ hej
        have gh := rr.le.trans g9
        refine ⟨rfl, _, rfl, _, rfl, _, rfl, _, _, _, _, rfl, rfl, hlen gh, at_of rfl et, _, _, _, _, rfl, rfl, gh.sqT st, atI_nat (j := 1) rfl, _, rfl, rfl, .inr ⟨_, rfl, ?_⟩⟩
        refine ⟨_, rfl, _, rfl, _, _, _, _, rfl, rfl, hlen gh, at_of rfl et, _, _, _, _, rfl, rfl, gh.sqT st, atI_nat (j := 0) rfl, _, rfl, rfl, .inr ⟨_, rfl, _, _, rfl, rfl, (show 2 ≤ sizeLine by decide), fun t ht => ?_⟩⟩
        dsimp only
        rw [dlt_dec]
        have gt := Gw.new (.tup [V.int (j : Nat), V.int (LP.dlt (LP.ed es j) (i + 1))]) ht
        exact hC9 _ _ gt ⟨t, rfl, sqT_rm (SqT.of upd_same) (gt.at hw)⟩
      have prp : Prs K H9 (.ref D3) (psN es (i + 1) 1) := ⟨D3, zs2, rfl, SqL.of hz2, by unfold psN; rw [List.length_map, List.length_range, lz2], fun j pr hj => by
        have hjs : j < es.length := by have := (List.getElem?_eq_some_iff.mp hj).1; unfold psN at this; rwa [List.length_map, List.length_range] at this
        obtain ⟨y, e, t, rfl, ht⟩ := iz2 j hjs
        unfold psN at hj
        rw [List.getElem?_map, List.getElem?_range hjs] at hj
        cases hj
        exact ⟨t, e, by dsimp only; rw [Int.one_mul]; exact Gw.rm_le.sqT ht⟩⟩
      have lps : ∀ z, (psN es (i + 1) z).length = es.length := fun z => by unfold psN; rw [List.length_map, List.length_range]
      have rowN : ∀ z k, k < es.length → rowF (psN es (i + 1) z) k = z * LP.dlt (LP.ed es k) (i + 1) := fun z k hk => by
        unfold psN; rw [rowF_range, if_pos hk]
      have db : ∀ e t, (LP.dlt e t).natAbs ≤ 1 := fun e t => by unfold LP.dlt; split <;> split <;> decide
      have ltN : ∀ z pr, pr ∈ psN es (i + 1) z → pr.1 < es.length := fun z pr h => by
        unfold psN at h
        obtain ⟨a, ha, rfl⟩ := List.mem_map.mp h
        exact List.mem_range.mp ha
      refine ⟨_, rfl, _, rfl, L, _, rfl, .inl (hlen (rr.le.trans g9)), _, rfl, ?_⟩
      refine ⟨es.length, .ref D3, psN es (i + 1) 1, by rw [vl]; rfl, prp, by omega, by rw [lps]; omega, ltN 1, rl (fun k hk => by rw [rowN 1 k hk]; have := db (LP.ed es k) (i + 1); omega), fun v8 H10 g10 r8 => ?_⟩
      refine ⟨_, rfl, L, _, rfl, .inl (hlen (rr.le.trans (g9.trans g10))), ?_⟩
      obtain ⟨a', vs', ea', sa, la, ia⟩ := prp.gw g10
      cases ea'
      refine ⟨_, rfl, D3, rfl, ⟨vs', sa⟩, fun D4 hD4 => lc_grow (walk_listY (la.trans (lps 1))) hD4 (by omega) (fun j v H => ∃ t, v = .ref t ∧ SqT K H t [.int (j : Nat), .int (-1 * LP.dlt (LP.ed es j) (i + 1))]) (fun _ _ _ _ g ⟨t, e, h⟩ => ⟨t, e, g.sqT h⟩)
        (fun H' g => g.sqL sa) (fun j y H11 H' hj _ g11 ⟨ws, hw⟩ hY C9 hC9 => ?_) (fun H11 zs3 g11 _ hz3 lz3 iz3 => ?_)⟩
      · obtain ⟨rfl, hy⟩ := hY
        have hpr : (psN es (i + 1) 1)[j]? = some (j, 1 * LP.dlt (LP.ed es j) (i + 1)) := by
          unfold psN; rw [List.getElem?_map, List.getElem?_range hj]; rfl
        obtain ⟨t0, et0, st0⟩ := ia j _ hpr
        rw [hy] at et0; cases et0
        refine ⟨t0, _, rfl, g11.sqT st0, rfl, _, _, rfl, _, _, rfl, rfl, rfl, ?_⟩
        refine ⟨_, rfl, _, rfl, _, _, rfl, rfl, (show 2 ≤ sizeLine by decide), fun t ht => ?_⟩
        dsimp only at ht ⊢
        rw [show (0 : Int) - 1 * LP.dlt (LP.ed es j) (i + 1) = -1 * LP.dlt (LP.ed es j) (i + 1) by omega]
        have gt := Gw.new (.tup [V.int (j : Nat), V.int (-1 * LP.dlt (LP.ed es j) (i + 1))]) ht
        exact hC9 _ _ gt ⟨t, rfl, sqT_rm (SqT.of upd_same) (gt.at hw)⟩
      have prn : Prs K H11 (.ref D4) (psN es (i + 1) (-1)) := ⟨D4, zs3, rfl, SqL.of hz3, by rw [lps, lz3], fun j pr hj => by
        have hjs : j < es.length := by have := (List.getElem?_eq_some_iff.mp hj).1; rwa [lps] at this
        obtain ⟨y, e, t, rfl, ht⟩ := iz3 j hjs
        unfold psN at hj
        rw [List.getElem?_map, List.getElem?_range hjs] at hj
        cases hj
        exact ⟨t, e, Gw.rm_le.sqT ht⟩⟩
      refine ⟨es.length, .ref D4, psN es (i + 1) (-1), by rw [vl]; rfl, prn, by omega, by rw [lps]; omega, ltN (-1), rl (fun k hk => by rw [rowN (-1) k hk]; have := db (LP.ed es k) (i + 1); omega), fun v10 H12 g12 r10 => ⟨(show 2 ≤ sizeLine by decide), fun q0 eq0 => ?_⟩⟩
      have gq0 := Gw.new (.lst [v8, v10]) eq0
      have g8q := g9.trans (g10.trans (g11.trans (g12.trans gq0)))
      have rrq := rr.gw g8q
      obtain ⟨xs, x1, x2, x3⟩ := id rrq.rows
      refine ⟨Lr, q0, xs, _, rfl, rfl, x1, upd_same, ?_, fun q1 eq1 => ?_⟩
      · rw [x2]; exact Nat.le_trans (show _ + 2 ≤ 100 by omega) (by decide)
      have gq1 := Gw.new (.lst (xs ++ [v8, v10])) eq1
      refine ⟨_, rfl, (show 2 ≤ sizeLine by decide), fun q2 eq2 => ?_⟩
      have gq2 := Gw.new (.lst [V.int 0, V.int 0]) eq2
      obtain ⟨ys, y1, y2, y3⟩ := id rrq.right
      refine ⟨Lq, q2, ys, _, rfl, rfl, (gq1.trans gq2).at y1, upd_same, ?_, fun q3 eq3 => ?_⟩
      · rw [y2]; exact Nat.le_trans (show _ + 2 ≤ 100 by omega) (by decide)
      have fin2 := RR.two rrq (x := v8) (y := v10) (z1 := 0) (z2 := 0)
        ((r8.gw (g11.trans (g12.trans gq0))).congr fun k' hk' => by
          rw [rowN 1 k' hk']; unfold LP.fcol; rw [if_neg (by omega), if_pos (by omega), show (2 * es.length + 2 * i - 2 * es.length) / 2 + 1 = i + 1 by omega, Int.one_mul])
        ((VT.gw r10 gq0).congr fun k' hk' => by
          rw [rowN (-1) k' hk']; unfold LP.fcol; rw [if_neg (by omega), if_neg (by omega), show (2 * es.length + 2 * i + 1 - 2 * es.length) / 2 + 1 = i + 1 by omega, show -1 * LP.dlt (LP.ed es k') (i + 1) = 0 - LP.dlt (LP.ed es k') (i + 1) by omega]) x1 eq1 gq2 ((gq1.trans gq2).at y1) eq3
        (by unfold LP.fc; rw [if_neg (by omega)]) (by unfold LP.fc; rw [if_neg (by omega)])
      exact ⟨q1, q3, _, _, _, _, _, rfl, fin2⟩
    rintro σ H6 ⟨Lr, Lq, u3, u4, u7, u8, u9, rfl, rr⟩
    have g46 := rr.le
    -- goal
    refine ⟨_, rfl, L, _, rfl, .inl (hlen g46), ?_⟩
    rw [vl]
    refine ⟨_, rfl, L, _, rfl, .inl (hlen g46), ?_⟩
    rw [vl]
    refine ⟨_, rfl, (by omega), (by omega), fun D5 hD5 => ?_⟩
    refine lc_it (walk_rangeN (N := es.length) (by omega)) (fun j H' => ∃ xs, H' D5 = some (.lst xs) ∧ Gw H6 (rm H' D5) ∧ PrI K (rm H' D5) xs (psG es j))
      ⟨[], upd_same, by rw [rm_upd, rm_none hD5]; exact Gw.refl _, PrI.nil⟩ (fun _ _ _ _ => True.intro) ?_ ?_
    · rintro j y H7 H' hj ⟨xs, h1, h2, h3⟩ ⟨rfl, rfl⟩
      have hej : es[j]? = some (LP.ed es j) := by unfold LP.ed; rw [List.getD_eq_getElem?_getD, List.getElem?_eq_getElem hj]; rfl
      obtain ⟨te, et, st⟩ := eit.2 j _ hej
      have gh := g46.trans (h2.trans Gw.rm_le)
      refine ⟨rfl, _, rfl, _, rfl, _, _, _, _, rfl, rfl, hlen gh, at_of rfl et, _, _, _, _, rfl, rfl, gh.sqT st, atI_nat (j := 0) rfl, rfl, _, rfl, ?_⟩
      by_cases he : (LP.ed es j).1 = 0
      · rw [decide_eq_true (show V.int (((LP.ed es j).1 : Nat) : Int) = V.int 0 by rw [he]; rfl)]
        refine iteT ⟨_, rfl, 1, rfl, (show 2 ≤ sizeLine by decide), fun t ht => ?_⟩
        have gt := Gw.new (.tup [V.int (j : Nat), V.int (-1)]) ht
        refine ⟨xs, gt.at h1, small1000 (by rw [h3.1]; have := psG_len es j; omega), xs ++ [V.ref t], upd_same, ?_, ?_⟩
        · rw [rm_upd]; exact h2.trans gt.rm
        · rw [rm_upd]
          unfold psG; rw [if_pos he]
          exact (h3.gw gt.rm).app (pr := (j, -1)) (sqT_rm (SqT.of upd_same) (gt.at h1))
      · rw [decide_eq_false (show ¬ V.int (((LP.ed es j).1 : Nat) : Int) = V.int 0 from fun z => by have := V.int.inj z; omega)]
        refine iteF ⟨xs, h1, h2, ?_⟩
        unfold psG; rw [if_neg he, List.append_nil]; exact h3
    rintro H7 ⟨xs, h1, h2, h3⟩
    have g67 : Gw H6 H7 := h2.trans Gw.rm_le
    have prg : Prs K H7 (.ref D5) (psG es es.length) := ⟨D5, xs, rfl, SqL.of h1, h3.1, fun i pr hi => let ⟨t, a, b⟩ := h3.2 i pr hi; ⟨t, a, Gw.rm_le.sqT b⟩⟩
    refine ⟨es.length, .ref D5, psG es es.length, rfl, prg, by omega, by have := psG_len es es.length; omega, psG_lt es es.length, rl (fun k hk => ?_), fun v12 H8 g78 r12 => ?_⟩
    · rw [psG_row, if_pos hk]; unfold LP.fgoal; split <;> decide
    clear h1 h2 h3 prg
    -- sides
    refine ⟨(show 0 ≤ sizeLine by decide), fun c0 hc0 => ⟨(show 1 ≤ sizeLine by decide), fun b0 hb0 => ⟨(show 1 ≤ sizeLine by decide), fun S0 hS0 => ⟨_, _, rfl, ?_⟩⟩⟩⟩
    have g68 : Gw H6 H8 := g67.trans g78
    have q1 := Gw.new (.lst []) hc0
    have q2 := Gw.new (.lst [V.int 0]) hb0
    have q3 := Gw.new (.lst [V.ref b0]) hS0
    have c9 := (q2.trans q3).at (o := .lst []) upd_same
    have ll0 : LLat (upd (upd (upd H8 c0 (.lst [])) b0 (.lst [V.int 0])) S0 (.lst [V.ref b0])) S0 (sidesG 0) := ⟨_, upd_same, rfl, fun i o h => by
      have : i = 0 := by
        have := (List.getElem?_eq_some_iff.mp h).1
        simp only [sidesG, List.length_cons, List.length_nil] at this
        omega
      subst this
      cases h
      exact ⟨b0, rfl, q3.at upd_same⟩⟩
    have gr0 := (q1.trans (q2.trans q3)).rm_free hc0
    clear q1 q2 q3
    generalize upd (upd (upd H8 c0 (.lst [])) b0 (.lst [V.int 0])) S0 (.lst [V.ref b0]) = H9 at c9 ll0 gr0 ⊢
    refine ⟨_, rfl, _, _, rfl, rfl, 1, (s : Int) - 1, rfl, ⟨by decide, by decide, by omega, by omega⟩, ?_⟩
    refine for_it (walk_range1 (N := s - 2) (by omega)) (fun i σ H' => Gw H9 H' ∧ ∃ u8 u13 Ls, σ = [some (.ref D), some (.int (s : Nat)), some (.ref L), u3, u4, some (.ref Lr), some (.ref Lq), u7, u8, u9, some v12, some (.ref c0), some (.ref Ls), u13, none, none, none] ∧ LLat H' Ls (sidesG i))
      ⟨Gw.refl _, _, _, S0, rfl, ll0⟩ (fun _ _ _ _ _ => True.intro) ?_ ?_
    · rintro i y σ H10 H' hi ⟨g10, u8, u13, Ls, rfl, ll⟩ ⟨rfl, rfl⟩
      obtain ⟨sm1, sm2, sm3⟩ := sidesG_small i (by omega)
      obtain ⟨vs', w1, w2, w3⟩ := id ll
      refine ⟨_, rfl, _, rfl, Ls, rfl, ⟨vs', SqL.of w1⟩, fun D6 hD6 => lc_grow (walk_listY w2) hD6 (by omega) (fun j v H => ∃ b', v = .ref b' ∧ H b' = some (.lst (((sidesG i).getD j [] ++ [i + 1]).map natV))) (fun _ _ _ _ g ⟨b', e, h⟩ => ⟨b', e, g.at h⟩)
        (fun H' g => SqL.of (g.at w1)) (fun j y H11 H12 hj _ g11 ⟨ws, hw⟩ hY C9 hC9 => ?_) (fun H11 zs g11 g11' hz lz iz => ?_)⟩
      · obtain ⟨rfl, hy⟩ := hY
        have ho : (sidesG i)[j]? = some ((sidesG i).getD j []) := by rw [List.getD_eq_getElem?_getD, List.getElem?_eq_getElem hj]; rfl
        obtain ⟨b, e3, hb⟩ := w3 j _ ho
        rw [hy] at e3; cases e3
        have hb := g11.at hb
        have ol := (sm3 _ (List.mem_of_getElem? ho)).1
        refine ⟨rfl, _, rfl, _, rfl, (show 1 ≤ sizeLine by decide), fun p1 f1 => ?_⟩
        have r1 := Gw.new (.lst [V.int ((i + 1 : Nat) : Int)]) f1
        refine ⟨b, p1, _, _, rfl, rfl, r1.at hb, upd_same, ?_, fun p2 f2 => ?_⟩
        · rw [List.length_map]; exact Nat.le_trans (show _ + 1 ≤ 4 by omega) (by decide)
        have r2 := Gw.new (.lst (((sidesG i).getD j []).map natV ++ [V.int ((i + 1 : Nat) : Int)])) f2
        have ne2 : p2 ≠ D6 := fun z => by rw [z, r1.at hw] at f2; cases f2
        refine hC9 _ _ (r1.trans r2) ⟨p2, rfl, ?_⟩
        rw [rm_ne ne2, upd_same, List.map_append]; rfl
      · obtain ⟨xs', x1, x2, x3⟩ := id (ll.gw g11)
        have nl : LLat H11 D6 ((sidesG i).map (· ++ [i + 1])) := by
          refine ⟨zs, hz, by rw [lz, List.length_map], fun p o' ho' => ?_⟩
          rw [List.getElem?_map] at ho'
          have hp : p < (sidesG i).length := by
            refine Nat.lt_of_not_le fun z => ?_
            rw [List.getElem?_eq_none z] at ho'
            cases ho'
          obtain ⟨y, e, b', rfl, hb'⟩ := iz p hp
          rw [List.getD_eq_getElem?_getD, List.getElem?_eq_getElem hp] at hb'
          rw [List.getElem?_eq_getElem hp] at ho'
          cases ho'
          exact ⟨b', e, Gw.rm_le.at hb'⟩
        refine ⟨Ls, D6, xs', zs, rfl, rfl, x1, hz, ?_, fun p9 f9 => ⟨g10.trans (g11.trans (Gw.new _ f9)), _, _, p9, rfl, ?_⟩⟩
        · rw [x2, lz]; exact Nat.le_trans (show _ ≤ 20 by omega) (by decide)
        · exact LLat.app (ll.gw g11) nl x1 hz f9
    rintro σ H10 ⟨g10, u8, u13, Ls, rfl, ll⟩
    -- cuts
    have c10 : H10 c0 = some (.lst []) := g10.at c9
    obtain ⟨sm1, sm2, sm3⟩ := sidesG_small (s - 2) (by omega)
    have llr := ll.rmc c10 sm2 (fun o h => (sm3 o h).2)
    have g8r : Gw H8 (rm H10 c0) := gr0.trans g10.rm
    obtain ⟨vs', w1, w2, w3⟩ := id llr
    refine ⟨_, rfl, Ls, rfl, ⟨vs', SqL.of (Gw.rm_le.at w1)⟩, ?_⟩
    refine for_it (walk_listY (K := K) w2) (fun j σ H' => Gw (rm H10 c0) (rm H' c0) ∧ H' c0 = some (.lst ((((sidesG (s - 2)).take j).map (LP.cutI es)).map V.int)) ∧ ∃ u13, σ = [some (.ref D), some (.int (s : Nat)), some (.ref L), u3, u4, some (.ref Lr), some (.ref Lq), u7, u8, u9, some v12, some (.ref c0), some (.ref Ls), u13, none, none, none])
      ⟨Gw.refl _, c10, _, rfl⟩ (fun j σ H' _ h => SqL.of (Gw.rm_le.at (h.1.at w1))) ?_ ?_
    · rintro j y σ H11' H11 hj ⟨g11, k11, u13, rfl⟩ ⟨rfl, hy⟩
      have ho : (sidesG (s - 2))[j]? = some ((sidesG (s - 2)).getD j []) := by rw [List.getD_eq_getElem?_getD, List.getElem?_eq_getElem hj]; rfl
      have tk : ((sidesG (s - 2)).take (j + 1)).map (LP.cutI es) = ((sidesG (s - 2)).take j).map (LP.cutI es) ++ [LP.cutI es ((sidesG (s - 2)).getD j [])] := by
        rw [List.take_succ, ho, List.map_append]; rfl
      rw [tk]
      generalize (sidesG (s - 2)).getD j [] = o at ho
      obtain ⟨b, e3, hb⟩ := w3 j _ ho
      rw [hy] at e3; cases e3
      have hb := Gw.rm_le.at (g11.at hb)
      have gH : Gw H4 H11 := g46.trans (g68.trans ((g8r.trans g11).trans Gw.rm_le))
      refine ⟨_, rfl, .inl ⟨rfl, _, SqL.of k11⟩, ?_⟩
      refine ⟨_, rfl, L, rfl, ⟨vs, hlen gH⟩, fun D7 hD7 => ?_⟩
      refine lc_it (walk_listY (K := K) vl) (fun l H' => ∃ ns : List Int, H' D7 = some (.lst (ns.map V.int)) ∧ ns.length ≤ l ∧ Gw H11 (rm H' D7) ∧ ns.sum = ((es.take l).map fun e => if e.1 ∈ o ∧ e.2.1 ∉ o then e.2.2 else 0).sum)
        ⟨[], upd_same, Nat.le_refl _, by rw [rm_upd, rm_none hD7]; exact Gw.refl _, rfl⟩ (fun l H' _ ⟨ns, _, _, g, _⟩ => hlen (gH.trans (g.trans Gw.rm_le))) ?_ ?_
      · rintro l y H12' H12 hl ⟨ns, n1, n2, n3, n4⟩ ⟨rfl, hy⟩
        have hel : es[l]? = some (LP.ed es l) := by unfold LP.ed; rw [List.getD_eq_getElem?_getD, List.getElem?_eq_getElem hl]; rfl
        obtain ⟨te, et, st⟩ := eit.2 l _ hel
        rw [hy] at et; cases et
        have gh := gH.trans (n3.trans Gw.rm_le)
        have hbh := (n3.trans Gw.rm_le).at hb
        have cc := cut_cons es o l hl
        refine ⟨te, _, rfl, gh.sqT st, rfl, _, _, rfl, _, _, rfl, _, _, rfl, rfl, rfl, ?_⟩
        have hno : ¬ ((LP.ed es l).1 ∈ o ∧ (LP.ed es l).2.1 ∉ o) → ∃ ns : List Int, H12 D7 = some (.lst (ns.map V.int)) ∧ ns.length ≤ l + 1 ∧ Gw H11 (rm H12 D7) ∧ ns.sum = ((es.take (l + 1)).map fun e => if e.1 ∈ o ∧ e.2.1 ∉ o then e.2.2 else 0).sum := fun z => ⟨ns, n1, by omega, n3, by rw [cc, if_neg z, n4]; omega⟩
        refine ⟨_, rfl, _, rfl, b, _, rfl, .inl (SqL.of hbh), rfl, flat_nat o, _, rfl, ?_⟩
        rw [show (if false = true then !inV (V.int ((LP.ed es l).1 : Nat)) (o.map natV) else inV (V.int ((LP.ed es l).1 : Nat)) (o.map natV)) = decide ((LP.ed es l).1 ∈ o) from inV_nat _ _]
        by_cases c1 : (LP.ed es l).1 ∈ o
        · rw [decide_eq_true c1]
          refine iteT ⟨_, rfl, _, rfl, b, _, rfl, .inl (SqL.of hbh), rfl, flat_nat o, _, rfl, ?_⟩
          rw [show (if true = true then !inV (V.int ((LP.ed es l).2.1 : Nat)) (o.map natV) else inV (V.int ((LP.ed es l).2.1 : Nat)) (o.map natV)) = !decide ((LP.ed es l).2.1 ∈ o) by rw [if_pos rfl, inV_nat]]
          by_cases c2 : (LP.ed es l).2.1 ∈ o
          · rw [decide_eq_true c2]
            exact iteF (hno fun z => z.2 c2)
          · rw [decide_eq_false c2]
            refine iteT (⟨_, rfl, _, n1, small1000 (by rw [List.length_map]; omega), ns ++ [(LP.ed es l).2.2], by rw [List.map_append]; exact upd_same, by rw [List.length_append]; exact Nat.add_le_add n2 (Nat.le_refl 1), by rw [rm_upd]; exact n3, ?_⟩)
            rw [cc, if_pos ⟨c1, c2⟩, List.sum_append, n4]
            simp only [List.sum_cons, List.sum_nil]; omega
        · rw [decide_eq_false c1]
          exact iteF (iteF (hno fun z => c1 z.1))
      · rintro H12 ⟨ns, n1, n2, n3, n4⟩
        rw [List.take_length] at n4
        have n4 : ns.sum = LP.cutI es o := n4
        have k12 := (n3.trans Gw.rm_le).at k11
        refine ⟨D7, ns, rfl, SqL.of n1, c0, _, _, rfl, rfl, k12, small1000 (by rw [List.length_map, List.length_map, List.length_take]; omega), ?_, ?_, _, rfl⟩
        · rw [rm_upd]; exact g11.trans (n3.trans Gw.rm_le).rm
        · rw [List.map_append, n4]; exact upd_same
    · rintro σ H11 ⟨g11, k11, u13, rfl⟩
      rw [List.take_length] at k11
      have g6b : Gw H6 H11 := g68.trans ((g8r.trans g11).trans Gw.rm_le)
      have g8b : Gw H8 H11 := (g8r.trans g11).trans Gw.rm_le
      have rrF := rr.gw g6b
      obtain ⟨xs, x1, x2, x3⟩ := id rrF.rows
      obtain ⟨ys, y1, y2, y3⟩ := id rrF.right
      have eys := vs_ints y2 y3
      have fcs : ∀ i, (LP.fc es i).natAbs ≤ 10 := fun i => by
        unfold LP.fc
        split
        · split
          · decide
          · have := (ok _ (LP.ed_mem (show i / 2 < es.length by omega))).2.2.2.2
            omega
        · decide
      have fcb : ∀ j k', (LP.fcol es j k').natAbs ≤ 10 := fun j k' => by
        unfold LP.fcol
        have db : ∀ e t, (LP.dlt e t).natAbs ≤ 1 := fun e t => by unfold LP.dlt; split <;> split <;> decide
        have d1 := db (LP.ed es k') ((j - 2 * es.length) / 2 + 1)
        repeat' split
        all_goals first | decide | omega
      have fgb : ∀ k', (LP.fgoal es k').natAbs ≤ 10 := fun k' => by unfold LP.fgoal; split <;> decide
      refine ⟨_, rfl, Lr, xs, rfl, .inl ⟨SqL.of x1, fun l1 el1 => ?_⟩⟩
      have k1 := Gw.new (.tup xs) el1
      refine ⟨_, rfl, Lq, (List.range (2 * es.length + 2 * (s - 2))).map (LP.fc es), rfl, by rw [← eys]; exact SqL.of (k1.at y1), by rw [List.length_map, List.length_range]; omega, ?_, fun v11 H12 g12 r11 => ?_⟩
      · intro z hz'
        obtain ⟨i, _, rfl⟩ := List.mem_map.mp hz'
        exact Nat.le_trans (fcs i) (by decide +kernel)
      rw [List.length_map, List.length_range] at r11
      refine ⟨_, rfl, _, rfl, c0, (sidesG (s - 2)).map (LP.cutI es), rfl, SqL.of ((k1.trans g12).at k11), by rw [List.length_map]; exact sm2, fun m hm hle => ⟨_, _, rfl, rfl, (show 4 ≤ sizeLine by decide), fun l4 el4 => ?_⟩⟩
      have k4 := Gw.new (.tup [V.ref l1, v11, v12, V.int (0 - m)]) el4
      have gk := k1.trans (g12.trans k4)
      obtain ⟨qq1, qq2⟩ := fin ((g46.trans g6b).trans gk)
      have sm : s ∈ [2, 3, 4] := by simp only [List.mem_cons, List.not_mem_nil, or_false]; omega
      have sF : sidesG (s - 2) = LP.sidesF s := by
        have h3 : s = 2 ∨ s = 3 ∨ s = 4 := by omega
        rcases h3 with rfl | rfl | rfl
        · exact sidesG_F.1
        · exact sidesG_F.2.1
        · exact sidesG_F.2.2
      obtain ⟨A0, hA0, eA0⟩ := List.mem_map.mp hm
      rw [sF] at hA0
      have opt := LP.flow_opt (C := m) ok sm hA0 eA0 fun A hA => hle _ (List.mem_map.mpr ⟨A, by rw [sF]; exact hA, rfl⟩)
      have mb := cut_small ok A0
      rw [eA0] at mb
      refine k _ _ qq1 qq2 ⟨l4, .ref l1, v11, v12, .int (0 - m), 2 * es.length + 2 * (s - 2), es.length, fun j k => ((LP.fcol es j k : Int) : Rat), fun j => ((LP.fc es j : Int) : Rat), fun k => ((LP.fgoal es k : Int) : Rat), rfl, SqT.of upd_same, ⟨?_, ?_, ?_, lpos, by omega, by omega⟩, by omega, by omega, ⟨l9, fun j k' hj hk => ?_, fun k' hk => ?_⟩, fun j hj => ?_, .inr ⟨((0 - m : Int) : Rat), .inl ⟨0 - m, rfl, rfl⟩, ?_, ?_, opt⟩⟩
      · exact ⟨l1, xs, rfl, (g12.trans k4).sqT (SqT.of upd_same), x2, fun j hj => let ⟨x, e, v⟩ := x3 j hj; ⟨x, e, (v.gw Gw.r2_le).gw gk⟩⟩
      · exact (VT.gw r11 k4).congr fun j hj => by rw [range_getD hj]
      · exact (VT.gw r12 (g8b.trans gk)).congr fun j hj => by rw [psG_row, if_pos hj]
      · exact ⟨LP.isI_int _, LP.bd_int (B := 10) (fcb j k')⟩
      · exact ⟨LP.isI_int _, LP.bd_int (B := 10) (fgb k')⟩
      · exact ⟨LP.isI_int _, LP.bd_int (B := 10) (fcs j)⟩
      · rw [Rat.den_intCast]; decide
      · rw [Rat.num_intCast]; omega
end
end K44


set_option Elab.async false
set_option linter.all false
set_option maxRecDepth 100000
set_option maxHeartbeats 4000000
set_option exponentiation.threshold 3000
/-! The law. -/
namespace K44
open PySem L2
open LP (Fit lim S)
abbrev sLaw : Stmt := top 57
def spLaw (K : PySem.W.Frag) (t : Tabs) : Sp := fun vs H Q _ => ∃ (a : Addr) (ns : List Int), vs = [.ref a] ∧ SqL K H a (ns.map V.int) ∧ ns.length ≤ 1000 ∧ TabsOk t H ∧ ∀ H', Q (.bl true) H'
section
variable {P : Program} {w : World} {K : PySem.W.Frag} {mg : Str → Option Value} {base : Heap}
abbrev CBuild (P : Program) (w : World) (K : PySem.W.Frag) (mg : Str → Option Value) (base : Heap) (x : Str) (k : Nat) := Cal P w K mg base x k ["draws"] (spBuild K)
theorem scLaw : FnScope ["script", "draws", "kind", "rows", "right", "goal", "due"] ["script"] (defScope sLaw) := ⟨rfl, rfl, rfl, by decide +kernel, rfl, by decide +kernel, by decide +kernel⟩
theorem ok_law {t : Tabs} {f : Addr} {fd : FuncData} (F : Fun K "law" "law" sLaw f fd) (T : Txt K mg) (C0 : Cal P w K mg base "_law_draws" 1 ["script"] (spDraws K)) (C1 : CBuild P w K mg base "_law_assignment" 2) (C2' : CBuild P w K mg base "_law_ways" 2)
    (C3 : CBuild P w K mg base "_law_flow" 2) (C4 : CBuild P w K mg base "_law_game" 5) (C5 : Cal P w K mg base "_law_told" 9 ["rows", "right", "goal", "due"] (spTold K t)) :
    FnOk P w K mg base CX0 10 f fd ["script"] (spLaw K t) := by
  refine F.ok scLaw (fun vs H Q E h => ?_) (fun cdv A outer s H vs Q E hr h => ?_)
  · obtain ⟨a, ns, rfl, _⟩ := h
    rfl
  · obtain ⟨a, ns, rfl, hs, hl, ht, k⟩ := h
    refine ⟨_, pss_cons (ps_set (i := 1) scLaw.nd rfl (Or.inl rfl) (pe_call C0.ok (hr.mono (by decide)) rfl C0.hm C0.kp C0.b .nil pass0 (pa_cons (pv 0) pa_nil)))
      (pss_cons (ps_for PassesOwn.never rfl (pi_range1 rfl T.range (pa_cons pe_int pa_nil)) (pg_name (i := 2) scLaw.nd rfl (Or.inl rfl))
        (pss_cons (ps_asg (pe_ifExp (pt_cmpR op_eq (pv 2) pe_int (nomark _)) (pe_call C1.ok (hr.mono (by decide)) rfl C1.hm C1.kp C1.b .nil pass0 (pa_cons (pv 1) pa_nil))
            (pe_ifExp (pt_cmpR op_eq (pv 2) pe_int (nomark _)) (pe_call C2'.ok (hr.mono (by decide)) rfl C2'.hm C2'.kp C2'.b .nil pass0 (pa_cons (pv 1) pa_nil))
            (pe_ifExp (pt_cmpR op_eq (pv 2) pe_int (nomark _)) (pe_call C3.ok (hr.mono (by decide)) rfl C3.hm C3.kp C3.b .nil pass0 (pa_cons (pv 1) pa_nil))
              (pe_call C4.ok (hr.mono (by decide)) rfl C4.hm C4.kp C4.b .nil pass0 (pa_cons (pv 1) pa_nil)))))
            (pg_tup rfl (pgs_cons (pg_name (i := 3) scLaw.nd rfl (Or.inl rfl)) (pgs_cons (pg_name (i := 4) scLaw.nd rfl (Or.inl rfl)) (pgs_cons (pg_name (i := 5) scLaw.nd rfl (Or.inl rfl)) (pgs_cons (pg_name (i := 6) scLaw.nd rfl (Or.inl rfl)) pgs_nil))))))
        (pss_one (ps_if (pt_not (pt_val (pe_call C5.ok hr rfl C5.hm C5.kp C5.b .nil pass0 (pa_cons (pv 3) (pa_cons (pv 4) (pa_cons (pv 5) (pa_cons (pv 6) pa_nil))))))) (pss_one ps_never) pss_nil))))
      (pss_one (ps_ret pe_bl))), ?_⟩
    refine ⟨_, rfl, a, ns, rfl, hs, hl, fun D H1 hD g1 d1 => ?_⟩
    have gt : ∀ {H'}, Gw (rm H1 D) (rm H' D) → TabsOk t H' := fun g => ht.gw ((g1.trans g).trans Gw.rm_le)
    refine ⟨4, rfl, by decide, by decide, ?_⟩
    refine for_it (walk_rangeN (N := 4) rfl) (fun i σ H' => (∃ u2 u3 u4 u5 u6, σ = [some (.ref a), some (.ref D), u2, u3, u4, u5, u6]) ∧ Gw (rm H1 D) (rm H' D) ∧ Draws H' D)
      ⟨⟨none, none, none, none, none, rfl⟩, Gw.refl _, d1⟩ (fun _ _ _ _ _ => True.intro) ?_ ?_
    · rintro i y σ H2' H2 hi ⟨⟨u2, u3, u4, u5, u6, rfl⟩, g2, d2⟩ ⟨rfl, rfl⟩
      have h4 : i = 0 ∨ i = 1 ∨ i = 2 ∨ i = 3 := by omega
      rcases h4 with rfl | rfl | rfl | rfl
      case' inl => refine ⟨_, rfl, rfl, _, rfl, iteT ⟨_, rfl, D, rfl, d2, fun v H3 g3 d3 br => ?_⟩⟩
      case' inr.inl => refine ⟨_, rfl, rfl, _, rfl, iteF ⟨_, rfl, rfl, _, rfl, iteT ⟨_, rfl, D, rfl, d2, fun v H3 g3 d3 br => ?_⟩⟩⟩
      case' inr.inr.inl => refine ⟨_, rfl, rfl, _, rfl, iteF ⟨_, rfl, rfl, _, rfl, iteF ⟨_, rfl, rfl, _, rfl, iteT ⟨_, rfl, D, rfl, d2, fun v H3 g3 d3 br => ?_⟩⟩⟩⟩
      case' inr.inr.inr => refine ⟨_, rfl, rfl, _, rfl, iteF ⟨_, rfl, rfl, _, rfl, iteF ⟨_, rfl, rfl, _, rfl, iteF ⟨_, rfl, D, rfl, d2, fun v H3 g3 d3 br => ?_⟩⟩⟩⟩
      all_goals
        obtain ⟨a', R, r, g, dv, m, n, col, c, want, rfl, sq, sys, hm0, hm, bn, hc, hdue⟩ := br
        refine ⟨a', _, rfl, sq, rfl, _, _, rfl, _, _, rfl, _, _, rfl, _, _, rfl, rfl, ?_⟩
        refine ⟨_, rfl, _, rfl, _, rfl, _, rfl, R, r, g, dv, m, n, col, c, want, rfl, sys, hm0, hm, bn, hc, gt (g2.trans g3), hdue, fun v4 H4 g4 e => ?_⟩
        subst e
        refine ⟨_, rfl, iteF ⟨⟨_, _, _, _, _, rfl⟩, g2.trans (g3.trans g4.rm), ?_⟩⟩
        obtain ⟨ns', e'⟩ := d3
        exact ⟨ns', g4.at e'⟩
    · rintro σ H2 ⟨⟨u2, u3, u4, u5, u6, rfl⟩, g2, d2⟩
      exact k _
end
end K44


set_option Elab.async false
set_option linter.all false
set_option maxRecDepth 100000
set_option maxHeartbeats 4000000
/-! What the top has written; the end. -/
namespace K44
open PySem L2
/-- the def st stands at f under its name -/
def FAt (K : PySem.W.Frag) (mg : Str → Option Value) (x : Str) (st : Stmt) : Prop := ∃ (f : Addr) (fd : FuncData), mg x = some (.ref f) ∧ Fun K x x st f fd
theorem FAt.of {K : PySem.W.Frag} {h : Heap} {mg : Str → Option Value} (X : K.In h) (G : h.Ns mainGlobals mg) {x : Str} {st : Stmt} {f : Addr} {oc : Value} {od an : Option Addr} {osl : Array (Option Value)} {kV doc pm cdv ct : Value}
    (a : PySem.W.nsIn K mainGlobals x = some (some (.ref f))) (l : K.lookup f = some ⟨oc, od, .func (PySem.W.fnOf x x (defArgs st) (defBody st) (defScope st) .none kV doc pm an cdv ct), osl⟩) (c : PySem.W.codeIn K cdv x = true) (k : PySem.W.keepIn K (.ref f) = true) : FAt K mg x st :=
  ⟨f, _, PySem.W.mg_of X G a, fun_mk l c k⟩
/-- .. its code object at c -/
def CAt (K : PySem.W.Frag) (mg : Str → Option Value) (x : Str) (st : Stmt) (c : Addr) : Prop := ∃ (f : Addr) (fd : FuncData), mg x = some (.ref f) ∧ FunC K x x st c f fd ∧ Fun K x x st f fd
theorem CAt.of {K : PySem.W.Frag} {h : Heap} {mg : Str → Option Value} (X : K.In h) (G : h.Ns mainGlobals mg) {x : Str} {st : Stmt} {f co : Addr} {oc : Value} {od an : Option Addr} {osl : Array (Option Value)} {kV doc pm ct : Value}
    (a : PySem.W.nsIn K mainGlobals x = some (some (.ref f))) (l : K.lookup f = some ⟨oc, od, .func (PySem.W.fnOf x x (defArgs st) (defBody st) (defScope st) .none kV doc pm an (.ref co) ct), osl⟩) (c : PySem.W.codeIn K (.ref co) x = true) (k : PySem.W.keepIn K (.ref f) = true) : CAt K mg x st co :=
  ⟨f, _, PySem.W.mg_of X G a, ⟨⟨oc, od, kV, doc, pm, an, ct, osl, rfl, l, c⟩, k⟩, fun_mk l c k⟩
/-- a method -/
def MAt (K : PySem.W.Frag) (C : Addr) (x qual : Str) (st : Stmt) : Prop := ∃ (f : Addr) (fd : FuncData), Meth K C x f ∧ Fun K x qual st f fd
theorem MAt.of {K : PySem.W.Frag} {C : Addr} {x qual : Str} {st : Stmt} {f : Addr} {oc : Value} {od an : Option Addr} {osl : Array (Option Value)} {kV doc pm cdv ct : Value}
    (a : PySem.W.findIn K (.ref C) x = some (some (.ref f))) (i : PySem.W.isFn K (.ref f) = true) (l : K.lookup f = some ⟨oc, od, .func (PySem.W.fnOf x qual (defArgs st) (defBody st) (defScope st) .none kV doc pm an cdv ct), osl⟩) (c : PySem.W.codeIn K cdv qual = true) (k : PySem.W.keepIn K (.ref f) = true) : MAt K C x qual st :=
  ⟨f, _, ⟨a, i, k⟩, fun_mk l c k⟩
/-- a constant that is a part -/
theorem two_sq {K : PySem.W.Frag} {h : Heap} {mg : Str → Option Value} (X : K.In h) (G : h.Ns mainGlobals mg) {x : Str} {a : Addr} {i j : Int} {t u : Tok} {od : Option Addr} {n : Nat} {sl : Array (Option Value)}
    (e : PySem.W.nsIn K mainGlobals x = some (some (.ref a))) (l : K.lookup a = some ⟨.type "tuple", od, .seq #[.int i t, .int j u] n, sl⟩) : ∃ a, mg x = some (.ref a) ∧ ∀ H, SqT K H a [.int i, .int j] :=
  ⟨a, PySem.W.mg_of X G e, fun _ => .inr ⟨_, _, _, l, rfl, rfl, (show 2 ≤ sizeLine by decide), .cons ⟨t, rfl⟩ (.cons ⟨u, rfl⟩ .nil)⟩⟩
theorem int_g {K : PySem.W.Frag} {h : Heap} {mg : Str → Option Value} (X : K.In h) (G : h.Ns mainGlobals mg) {x : Str} {i : Int} {t : Tok} (e : PySem.W.nsIn K mainGlobals x = some (some (.int i t))) : ∃ t, mg x = some (.int i t) := ⟨t, PySem.W.mg_of X G e⟩
theorem noat {K : PySem.W.Frag} {C : Addr} {f : Str} (h : PySem.W.findIn K (.ref C) f = some none) : NoAttr K C f := h
abbrev tsT : List Addr := [163, 170, 260, 272]
abbrev t0 : Tabs := ⟨170, 163, 260, 272⟩
abbrev csT : List (Addr × Addr) := [(167, 163), (174, 170), (264, 260), (276, 272)]
theorem all_mk {l : PySem.W.OpenLaw} {w : World} {K : PySem.W.Frag} {h : Heap} {mg : Str → Option Value} {fa C : Addr} (X : K.In h) (G : h.Ns mainGlobals mg) (hfa : mg "law" = some (.ref fa)) (hT : ∀ P ∈ tsT, h.get? P = some (PySem.W.tabObj #[])) (nT : ∀ p ∈ csT, K.lookup p.2 = none) (hH : ∀ p ∈ csT, PySem.W.codeHdIn K p.1 p.2 = true)
    (T : Txt K mg) (U : CTxt K mg C) (mk : PySem.W.makesIn K C = true) (kc : PySem.W.keepIn K (.ref C) = true)
    (A_is_number : FAt K mg "is_number" sIsNumber)
    (A_is_part : FAt K mg "is_part" sIsPart)
    (A_part : FAt K mg "part" sPart)
    (A_plus : FAt K mg "plus" sPlus)
    (A_minus : FAt K mg "minus" sMinus)
    (A_times : FAt K mg "times" sTimes)
    (A_over : FAt K mg "over" sOver)
    (A_is_less : FAt K mg "is_less" sLess)
    (A_sum_of : FAt K mg "sum_of" sSumOf)
    (A_weighed : FAt K mg "weighed" sWeighed)
    (A_most : FAt K mg "most" sMost)
    (A_least : FAt K mg "least" sLeast)
    (A_mixed : FAt K mg "mixed" sMixed)
    (A_proves_least : FAt K mg "proves_least" sProvesLeast)
    (A_proves_none : FAt K mg "proves_none" sProvesNone)
    (A_proves_endless : FAt K mg "proves_endless" sProvesEndless)
    (A__law_draws : FAt K mg "_law_draws" sLDraws)
    (A__law_take : FAt K mg "_law_take" sLTake)
    (A__law_alike : FAt K mg "_law_alike" sLAlike)
    (A__law_says : FAt K mg "_law_says" sLSays)
    (A__law_low : FAt K mg "_law_low" sLLow)
    (A__law_plus : FAt K mg "_law_plus" sLPlus)
    (A__law_times : FAt K mg "_law_times" sLTimes)
    (A__law_minus : FAt K mg "_law_minus" sLMinus)
    (A__law_over : FAt K mg "_law_over" sLOver)
    (A__law_less : FAt K mg "_law_less" sLLess)
    (A__law_most : FAt K mg "_law_most" sLMost)
    (A__law_row : FAt K mg "_law_row" sLRow)
    (A__law_parts : FAt K mg "_law_parts" sLParts)
    (A__law_orders : FAt K mg "_law_orders" sLOrders)
    (A__law_assignment : FAt K mg "_law_assignment" sLAssign)
    (A__law_ways : FAt K mg "_law_ways" sLWays)
    (A__law_flow : FAt K mg "_law_flow" sLFlow)
    (A__law_game : FAt K mg "_law_game" sLGame)
    (A__law_secured : FAt K mg "_law_secured" sLSecured)
    (A__law_told : FAt K mg "_law_told" sLTold)
    (A_law : FAt K mg "law" sLaw)
    (A_is_system : CAt K mg "is_system" sIsSystem 167)
    (A_is_places : CAt K mg "is_places" sIsPlaces 174)
    (A_meets : CAt K mg "meets" sMeets 264)
    (A_are_weights : CAt K mg "are_weights" sAreWeights 276)
    (A___init__ : MAt K C "__init__" "Table.__init__" (sT 0))
    (A_reduced : MAt K C "reduced" "Table.reduced" (sT 1))
    (A_entering : MAt K C "entering" "Table.entering" (sT 2))
    (A_leaving : MAt K C "leaving" "Table.leaving" (sT 3))
    (A_turn : MAt K C "turn" "Table.turn" (sT 4))
    (A_climb : MAt K C "climb" "Table.climb" (sT 5))
    (A_weights : MAt K C "weights" "Table.weights" (sT 6))
    (A_sides : MAt K C "sides" "Table.sides" (sT 7))
    (A_way : MAt K C "way" "Table.way" (sT 8))
    : LamX.LawAtS l w K CX0 10 63 "script" mg fa h := by
  obtain ⟨f_is_number, fd_is_number, m_is_number, F_is_number⟩ := A_is_number
  obtain ⟨f_is_part, fd_is_part, m_is_part, F_is_part⟩ := A_is_part
  obtain ⟨f_part, fd_part, m_part, F_part⟩ := A_part
  obtain ⟨f_plus, fd_plus, m_plus, F_plus⟩ := A_plus
  obtain ⟨f_minus, fd_minus, m_minus, F_minus⟩ := A_minus
  obtain ⟨f_times, fd_times, m_times, F_times⟩ := A_times
  obtain ⟨f_over, fd_over, m_over, F_over⟩ := A_over
  obtain ⟨f_is_less, fd_is_less, m_is_less, F_is_less⟩ := A_is_less
  obtain ⟨f_sum_of, fd_sum_of, m_sum_of, F_sum_of⟩ := A_sum_of
  obtain ⟨f_weighed, fd_weighed, m_weighed, F_weighed⟩ := A_weighed
  obtain ⟨f_most, fd_most, m_most, F_most⟩ := A_most
  obtain ⟨f_least, fd_least, m_least, F_least⟩ := A_least
  obtain ⟨f_mixed, fd_mixed, m_mixed, F_mixed⟩ := A_mixed
  obtain ⟨f_proves_least, fd_proves_least, m_proves_least, F_proves_least⟩ := A_proves_least
  obtain ⟨f_proves_none, fd_proves_none, m_proves_none, F_proves_none⟩ := A_proves_none
  obtain ⟨f_proves_endless, fd_proves_endless, m_proves_endless, F_proves_endless⟩ := A_proves_endless
  obtain ⟨f__law_draws, fd__law_draws, m__law_draws, F__law_draws⟩ := A__law_draws
  obtain ⟨f__law_take, fd__law_take, m__law_take, F__law_take⟩ := A__law_take
  obtain ⟨f__law_alike, fd__law_alike, m__law_alike, F__law_alike⟩ := A__law_alike
  obtain ⟨f__law_says, fd__law_says, m__law_says, F__law_says⟩ := A__law_says
  obtain ⟨f__law_low, fd__law_low, m__law_low, F__law_low⟩ := A__law_low
  obtain ⟨f__law_plus, fd__law_plus, m__law_plus, F__law_plus⟩ := A__law_plus
  obtain ⟨f__law_times, fd__law_times, m__law_times, F__law_times⟩ := A__law_times
  obtain ⟨f__law_minus, fd__law_minus, m__law_minus, F__law_minus⟩ := A__law_minus
  obtain ⟨f__law_over, fd__law_over, m__law_over, F__law_over⟩ := A__law_over
  obtain ⟨f__law_less, fd__law_less, m__law_less, F__law_less⟩ := A__law_less
  obtain ⟨f__law_most, fd__law_most, m__law_most, F__law_most⟩ := A__law_most
  obtain ⟨f__law_row, fd__law_row, m__law_row, F__law_row⟩ := A__law_row
  obtain ⟨f__law_parts, fd__law_parts, m__law_parts, F__law_parts⟩ := A__law_parts
  obtain ⟨f__law_orders, fd__law_orders, m__law_orders, F__law_orders⟩ := A__law_orders
  obtain ⟨f__law_assignment, fd__law_assignment, m__law_assignment, F__law_assignment⟩ := A__law_assignment
  obtain ⟨f__law_ways, fd__law_ways, m__law_ways, F__law_ways⟩ := A__law_ways
  obtain ⟨f__law_flow, fd__law_flow, m__law_flow, F__law_flow⟩ := A__law_flow
  obtain ⟨f__law_game, fd__law_game, m__law_game, F__law_game⟩ := A__law_game
  obtain ⟨f__law_secured, fd__law_secured, m__law_secured, F__law_secured⟩ := A__law_secured
  obtain ⟨f__law_told, fd__law_told, m__law_told, F__law_told⟩ := A__law_told
  obtain ⟨f_law, fd_law, m_law, F_law⟩ := A_law
  obtain ⟨f_is_system, fd_is_system, m_is_system, FC_is_system, F_is_system⟩ := A_is_system
  obtain ⟨f_is_places, fd_is_places, m_is_places, FC_is_places, F_is_places⟩ := A_is_places
  obtain ⟨f_meets, fd_meets, m_meets, FC_meets, F_meets⟩ := A_meets
  obtain ⟨f_are_weights, fd_are_weights, m_are_weights, FC_are_weights, F_are_weights⟩ := A_are_weights
  obtain ⟨g___init__, gd___init__, m____init__, G___init__⟩ := A___init__
  obtain ⟨g_reduced, gd_reduced, m__reduced, G_reduced⟩ := A_reduced
  obtain ⟨g_entering, gd_entering, m__entering, G_entering⟩ := A_entering
  obtain ⟨g_leaving, gd_leaving, m__leaving, G_leaving⟩ := A_leaving
  obtain ⟨g_turn, gd_turn, m__turn, G_turn⟩ := A_turn
  obtain ⟨g_climb, gd_climb, m__climb, G_climb⟩ := A_climb
  obtain ⟨g_weights, gd_weights, m__weights, G_weights⟩ := A_weights
  obtain ⟨g_sides, gd_sides, m__sides, G_sides⟩ := A_sides
  obtain ⟨g_way, gd_way, m__way, G_way⟩ := A_way
  have b_is_number := F_is_number.binds (ps := ["value", "least", "most"]) fun _ _ _ _ _ _ us hl => match us, hl with | [_, _, _], _ => rfl
  have b_is_part := F_is_part.binds (ps := ["value"]) fun _ _ _ _ _ _ us hl => match us, hl with | [_], _ => rfl
  have b_part := F_part.binds (ps := ["one", "other"]) fun _ _ _ _ _ _ us hl => match us, hl with | [_, _], _ => rfl
  have b_plus := F_plus.binds (ps := ["one", "other"]) fun _ _ _ _ _ _ us hl => match us, hl with | [_, _], _ => rfl
  have b_minus := F_minus.binds (ps := ["one", "other"]) fun _ _ _ _ _ _ us hl => match us, hl with | [_, _], _ => rfl
  have b_times := F_times.binds (ps := ["one", "other"]) fun _ _ _ _ _ _ us hl => match us, hl with | [_, _], _ => rfl
  have b_over := F_over.binds (ps := ["one", "other"]) fun _ _ _ _ _ _ us hl => match us, hl with | [_, _], _ => rfl
  have b_is_less := F_is_less.binds (ps := ["one", "other"]) fun _ _ _ _ _ _ us hl => match us, hl with | [_, _], _ => rfl
  have b_sum_of := F_sum_of.binds (ps := ["rows"]) fun _ _ _ _ _ _ us hl => match us, hl with | [_], _ => rfl
  have b_weighed := F_weighed.binds (ps := ["row", "other"]) fun _ _ _ _ _ _ us hl => match us, hl with | [_, _], _ => rfl
  have b_most := F_most.binds (ps := ["columns", "wanted", "worths"]) fun _ _ _ _ _ _ us hl => match us, hl with | [_, _, _], _ => rfl
  have b_least := F_least.binds (ps := ["rows", "right", "goal"]) fun _ _ _ _ _ _ us hl => match us, hl with | [_, _, _], _ => rfl
  have b_mixed := F_mixed.binds (ps := ["rows", "weights", "many"]) fun _ _ _ _ _ _ us hl => match us, hl with | [_, _, _], _ => rfl
  have b_proves_least := F_proves_least.binds (ps := ["rows", "right", "goal", "worth", "places", "weights"]) fun _ _ _ _ _ _ us hl => match us, hl with | [_, _, _, _, _, _], _ => rfl
  have b_proves_none := F_proves_none.binds (ps := ["rows", "right", "goal", "weights"]) fun _ _ _ _ _ _ us hl => match us, hl with | [_, _, _, _], _ => rfl
  have b_proves_endless := F_proves_endless.binds (ps := ["rows", "right", "goal", "places", "way"]) fun _ _ _ _ _ _ us hl => match us, hl with | [_, _, _, _, _], _ => rfl
  have b__law_draws := F__law_draws.binds (ps := ["script"]) fun _ _ _ _ _ _ us hl => match us, hl with | [_], _ => rfl
  have b__law_take := F__law_take.binds (ps := ["draws", "bound"]) fun _ _ _ _ _ _ us hl => match us, hl with | [_, _], _ => rfl
  have b__law_alike := F__law_alike.binds (ps := ["found", "due"]) fun _ _ _ _ _ _ us hl => match us, hl with | [_, _], _ => rfl
  have b__law_says := F__law_says.binds (ps := ["found", "due"]) fun _ _ _ _ _ _ us hl => match us, hl with | [_, _], _ => rfl
  have b__law_low := F__law_low.binds (ps := ["one", "other"]) fun _ _ _ _ _ _ us hl => match us, hl with | [_, _], _ => rfl
  have b__law_plus := F__law_plus.binds (ps := ["one", "other"]) fun _ _ _ _ _ _ us hl => match us, hl with | [_, _], _ => rfl
  have b__law_times := F__law_times.binds (ps := ["one", "other"]) fun _ _ _ _ _ _ us hl => match us, hl with | [_, _], _ => rfl
  have b__law_minus := F__law_minus.binds (ps := ["one", "other"]) fun _ _ _ _ _ _ us hl => match us, hl with | [_, _], _ => rfl
  have b__law_over := F__law_over.binds (ps := ["one", "other"]) fun _ _ _ _ _ _ us hl => match us, hl with | [_, _], _ => rfl
  have b__law_less := F__law_less.binds (ps := ["one", "other"]) fun _ _ _ _ _ _ us hl => match us, hl with | [_, _], _ => rfl
  have b__law_most := F__law_most.binds (ps := ["rows"]) fun _ _ _ _ _ _ us hl => match us, hl with | [_], _ => rfl
  have b__law_row := F__law_row.binds (ps := ["many", "pairs"]) fun _ _ _ _ _ _ us hl => match us, hl with | [_, _], _ => rfl
  have b__law_parts := F__law_parts.binds (ps := ["numbers"]) fun _ _ _ _ _ _ us hl => match us, hl with | [_], _ => rfl
  have b__law_orders := F__law_orders.binds (ps := ["many"]) fun _ _ _ _ _ _ us hl => match us, hl with | [_], _ => rfl
  have b__law_assignment := F__law_assignment.binds (ps := ["draws"]) fun _ _ _ _ _ _ us hl => match us, hl with | [_], _ => rfl
  have b__law_ways := F__law_ways.binds (ps := ["draws"]) fun _ _ _ _ _ _ us hl => match us, hl with | [_], _ => rfl
  have b__law_flow := F__law_flow.binds (ps := ["draws"]) fun _ _ _ _ _ _ us hl => match us, hl with | [_], _ => rfl
  have b__law_game := F__law_game.binds (ps := ["draws"]) fun _ _ _ _ _ _ us hl => match us, hl with | [_], _ => rfl
  have b__law_secured := F__law_secured.binds (ps := ["table", "share"]) fun _ _ _ _ _ _ us hl => match us, hl with | [_, _], _ => rfl
  have b__law_told := F__law_told.binds (ps := ["rows", "right", "goal", "due"]) fun _ _ _ _ _ _ us hl => match us, hl with | [_, _, _, _], _ => rfl
  have b_is_system := F_is_system.binds (ps := ["rows", "right", "goal"]) fun _ _ _ _ _ _ us hl => match us, hl with | [_, _, _], _ => rfl
  have b_is_places := F_is_places.binds (ps := ["value", "many"]) fun _ _ _ _ _ _ us hl => match us, hl with | [_, _], _ => rfl
  have b_meets := F_meets.binds (ps := ["rows", "right", "places"]) fun _ _ _ _ _ _ us hl => match us, hl with | [_, _, _], _ => rfl
  have b_are_weights := F_are_weights.binds (ps := ["value", "many"]) fun _ _ _ _ _ _ us hl => match us, hl with | [_, _], _ => rfl
  have b___init__ := G___init__.binds (ps := ["self", "columns", "wanted"]) fun _ _ _ _ _ _ us hl => match us, hl with | [_, _, _], _ => rfl
  have b_m_reduced := G_reduced.binds (ps := ["self", "worths"]) fun _ _ _ _ _ _ us hl => match us, hl with | [_, _], _ => rfl
  have b_m_entering := G_entering.binds (ps := ["self", "added", "many"]) fun _ _ _ _ _ _ us hl => match us, hl with | [_, _, _], _ => rfl
  have b_m_leaving := G_leaving.binds (ps := ["self", "place"]) fun _ _ _ _ _ _ us hl => match us, hl with | [_, _], _ => rfl
  have b_m_turn := G_turn.binds (ps := ["self", "number", "place"]) fun _ _ _ _ _ _ us hl => match us, hl with | [_, _, _], _ => rfl
  have b_m_climb := G_climb.binds (ps := ["self", "worths", "many"]) fun _ _ _ _ _ _ us hl => match us, hl with | [_, _, _], _ => rfl
  have b_m_weights := G_weights.binds (ps := ["self", "many"]) fun _ _ _ _ _ _ us hl => match us, hl with | [_, _], _ => rfl
  have b_m_sides := G_sides.binds (ps := ["self", "worths"]) fun _ _ _ _ _ _ us hl => match us, hl with | [_, _], _ => rfl
  have b_m_way := G_way.binds (ps := ["self", "place", "many"]) fun _ _ _ _ _ _ us hl => match us, hl with | [_, _, _], _ => rfl
  have e : fa = f_law := Value.ref.inj (Option.some.inj (hfa.symm.trans m_law))
  subst e
  refine ⟨fd_law, csT, spLaw K t0, fun p hp => ?_, nT, fun p hp => PySem.W.codeHd_of_K X (hH p hp), fun s u => ?_, fun H a ns hl _ hH hS => ⟨a, ns, rfl, hS, by omega, ?_, fun _ => rfl⟩, fun base KB NB TB => ?_⟩
  · simp only [csT, List.mem_cons, List.not_mem_nil, or_false] at hp
    rcases hp with rfl | rfl | rfl | rfl <;> exact hT _ (by decide)
  · obtain ⟨oc, od, kV, doc, pm, an, cdv, ct, osl, rfl, lk, hcd⟩ := F_law.ex
    exact .of_eq rfl
  · have tg : ∀ p ∈ csT, GxR.TabG H p.2 := fun p hp => ⟨#[], hH p hp, trivial⟩
    exact ⟨tg (174, 170) (by decide), tg (167, 163) (by decide), tg (264, 260) (by decide), tg (276, 272) (by decide)⟩
  · have tb : ∀ p ∈ csT, GxR.TabB base mg p.1 p.2 := fun p hp => let z := TB p hp; ⟨z.code, z.bm, z.gP⟩
    have TBplaces := tb (174, 170) (by decide)
    have TBsystem := tb (167, 163) (by decide)
    have TBmeets := tb (264, 260) (by decide)
    have TBweights := tb (276, 272) (by decide)
    have Cnumber : Cal l.prog w K mg base "is_number" 1 ["value", "least", "most"] spIsNumber := ⟨_, _, ok_isNumber F_is_number T, m_is_number, F_is_number.kp, b_is_number⟩
    have Cpart_ : Cal l.prog w K mg base "is_part" 2 ["value"] (spIsPart K) := ⟨_, _, ok_isPart F_is_part T Cnumber, m_is_part, F_is_part.kp, b_is_part⟩
    have Cpart : Cal l.prog w K mg base "part" 1 ["one", "other"] (spPart K) := ⟨_, _, ok_part F_part T, m_part, F_part.kp, b_part⟩
    have Cplus : Cal l.prog w K mg base "plus" 2 ["one", "other"] (sp2 K (· + ·)) := ⟨_, _, ok_plus F_plus Cpart, m_plus, F_plus.kp, b_plus⟩
    have Cminus : Cal l.prog w K mg base "minus" 2 ["one", "other"] (sp2 K (· - ·)) := ⟨_, _, ok_minus F_minus Cpart, m_minus, F_minus.kp, b_minus⟩
    have Ctimes : Cal l.prog w K mg base "times" 2 ["one", "other"] (sp2 K (· * ·)) := ⟨_, _, ok_times F_times Cpart, m_times, F_times.kp, b_times⟩
    have Cover : Cal l.prog w K mg base "over" 2 ["one", "other"] (sp2o K) := ⟨_, _, ok_over F_over Cpart, m_over, F_over.kp, b_over⟩
    have Cless : Cal l.prog w K mg base "is_less" 1 ["one", "other"] (spLess K) := ⟨_, _, ok_less F_is_less, m_is_less, F_is_less.kp, b_is_less⟩
    have Csum : Cal l.prog w K mg base "sum_of" 3 ["rows"] (spSumOf K) := ⟨_, _, ok_sumOf F_sum_of T Cplus, m_sum_of, F_sum_of.kp, b_sum_of⟩
    have Cweighed : Cal l.prog w K mg base "weighed" 4 ["row", "other"] (spWeighed K) := ⟨_, _, ok_weighed F_weighed T Ctimes Csum, m_weighed, F_weighed.kp, b_weighed⟩
    have Cplaces : Cal l.prog w K mg base "is_places" 4 ["value", "many"] (spIsPlaces K t0) := ⟨_, _, ok_isPlaces FC_is_places T TBplaces Cpart_, m_is_places, F_is_places.kp, b_is_places⟩
    have Csystem : Cal l.prog w K mg base "is_system" 6 ["rows", "right", "goal"] (spIsSystem K t0) := ⟨_, _, ok_isSystem FC_is_system T TBsystem Cpart_ Cplaces, m_is_system, F_is_system.kp, b_is_system⟩
    have Cmeets : Cal l.prog w K mg base "meets" 6 ["rows", "right", "places"] (spMeets K t0) := ⟨_, _, ok_meets FC_meets T TBmeets Cless Cweighed, m_meets, F_meets.kp, b_meets⟩
    have Caw : Cal l.prog w K mg base "are_weights" 5 ["value", "many"] (spAreWeights K t0) := ⟨_, _, ok_areWeights FC_are_weights T TBweights Cless Cplaces, m_are_weights, F_are_weights.kp, b_are_weights⟩
    have Cmixed : Cal l.prog w K mg base "mixed" 4 ["rows", "weights", "many"] (spMixed K) := ⟨_, _, ok_mixed F_mixed T Ctimes Csum, m_mixed, F_mixed.kp, b_mixed⟩
    have Cpl : Cal l.prog w K mg base "proves_least" 7 ["rows", "right", "goal", "worth", "places", "weights"] (spProvesLeast K t0) := ⟨_, _, ok_provesLeast F_proves_least T Csystem Cplaces Caw Cmeets Cmixed Cweighed, m_proves_least, F_proves_least.kp, b_proves_least⟩
    have Cpn : Cal l.prog w K mg base "proves_none" 7 ["rows", "right", "goal", "weights"] (spProvesNone K t0) := ⟨_, _, ok_provesNone F_proves_none T Csystem Caw Cmixed Cweighed Cless, m_proves_none, F_proves_none.kp, b_proves_none⟩
    have Cpe : Cal l.prog w K mg base "proves_endless" 7 ["rows", "right", "goal", "places", "way"] (spProvesEndless K t0) := ⟨_, _, ok_provesEndless F_proves_endless T Csystem Cplaces Cmeets Cweighed Cless, m_proves_endless, F_proves_endless.kp, b_proves_endless⟩
    have MK0 : Mk K C g___init__ := ⟨mk, m____init__.at_, m____init__.fn, kc⟩
    have G0 : FnOk l.prog w K mg base CX0 3 g___init__ gd___init__ ["self", "columns", "wanted"] (spInit K C) := ok_init G___init__ T U Cless Ctimes
    have Mreduced : MCal l.prog w K mg base C "reduced" 5 ["self", "worths"] (spReduced K C) := ⟨_, _, ok_reduced G_reduced T U Cweighed Cminus, m__reduced, b_m_reduced⟩
    have Mentering : MCal l.prog w K mg base C "entering" 2 ["self", "added", "many"] (spEntering K) := ⟨_, _, ok_entering G_entering T Cless, m__entering, b_m_entering⟩
    have Mleaving : MCal l.prog w K mg base C "leaving" 3 ["self", "place"] (spLeaving K C) := ⟨_, _, ok_leaving G_leaving T U Cless Cover, m__leaving, b_m_leaving⟩
    have Mturn : MCal l.prog w K mg base C "turn" 3 ["self", "number", "place"] (spTurn K C) := ⟨_, _, ok_turn G_turn T U Cminus Ctimes Cover, m__turn, b_m_turn⟩
    have Mclimb : MCal l.prog w K mg base C "climb" 6 ["self", "worths", "many"] (spClimb K C) := ⟨_, _, ok_climb G_climb T U Mreduced Mentering Mleaving Mturn, m__climb, b_m_climb⟩
    have Mweights : MCal l.prog w K mg base C "weights" 1 ["self", "many"] (spWeights K C) := ⟨_, _, ok_weights G_weights T U, m__weights, b_m_weights⟩
    have Msides : MCal l.prog w K mg base C "sides" 6 ["self", "worths"] (spSides K C) := ⟨_, _, ok_sides G_sides T U Cminus Ctimes Mreduced, m__sides, b_m_sides⟩
    have Mway : MCal l.prog w K mg base C "way" 3 ["self", "place", "many"] (spWay K C) := ⟨_, _, ok_way G_way T U Cminus, m__way, b_m_way⟩
    have Cmost : Cal l.prog w K mg base "most" 7 ["columns", "wanted", "worths"] (spMost K) := ⟨_, _, ok_most F_most T U MK0 G0 b___init__ Cless Mreduced Mturn Mclimb Mweights Msides Mway, m_most, F_most.kp, b_most⟩
    have Cleast : Cal l.prog w K mg base "least" 8 ["rows", "right", "goal"] (spLeast K t0) := ⟨_, _, ok_least F_least T Csystem Cmost, m_least, F_least.kp, b_least⟩
    have Ltake : Cal l.prog w K mg base "_law_take" 1 ["draws", "bound"] spTake := ⟨_, _, ok_lTake F__law_take T, m__law_take, F__law_take.kp, b__law_take⟩
    have Lsays : Cal l.prog w K mg base "_law_says" 1 ["found", "due"] spSays := ⟨_, _, ok_lSays F__law_says T, m__law_says, F__law_says.kp, b__law_says⟩
    have Llow : Cal l.prog w K mg base "_law_low" 1 ["one", "other"] (spLow K) := ⟨_, _, ok_lLow F__law_low T, m__law_low, F__law_low.kp, b__law_low⟩
    have Lplus : Cal l.prog w K mg base "_law_plus" 2 ["one", "other"] (sp2 K (· + ·)) := ⟨_, _, ok_lPlus F__law_plus Llow, m__law_plus, F__law_plus.kp, b__law_plus⟩
    have Ltimes : Cal l.prog w K mg base "_law_times" 2 ["one", "other"] (sp2 K (· * ·)) := ⟨_, _, ok_lTimes F__law_times Llow, m__law_times, F__law_times.kp, b__law_times⟩
    have Lminus : Cal l.prog w K mg base "_law_minus" 3 ["one", "other"] (sp2 K (· - ·)) := ⟨_, _, ok_lMinus F__law_minus Lplus, m__law_minus, F__law_minus.kp, b__law_minus⟩
    have Lover : Cal l.prog w K mg base "_law_over" 2 ["one", "other"] (sp2o K) := ⟨_, _, ok_lOver F__law_over Llow, m__law_over, F__law_over.kp, b__law_over⟩
    have Lless : Cal l.prog w K mg base "_law_less" 1 ["one", "other"] (spLess K) := ⟨_, _, ok_lLess F__law_less, m__law_less, F__law_less.kp, b__law_less⟩
    have LalikeI : Cal l.prog w K mg base "_law_alike" 1 ["found", "due"] spAlikeI := ⟨_, _, ok_lAlikeI F__law_alike T, m__law_alike, F__law_alike.kp, b__law_alike⟩
    have LalikeP : Cal l.prog w K mg base "_law_alike" 2 ["found", "due"] (spAlikeP K) := ⟨_, _, ok_lAlikeP F__law_alike T LalikeI, m__law_alike, F__law_alike.kp, b__law_alike⟩
    have Lmost : Cal l.prog w K mg base "_law_most" 2 ["rows"] (spLMost K) := ⟨_, _, ok_lMost F__law_most T Lless, m__law_most, F__law_most.kp, b__law_most⟩
    have Lrow : Cal l.prog w K mg base "_law_row" 1 ["many", "pairs"] (spRow K) := ⟨_, _, ok_lRow F__law_row T, m__law_row, F__law_row.kp, b__law_row⟩
    have Lparts : Cal l.prog w K mg base "_law_parts" 1 ["numbers"] (spParts K) := ⟨_, _, ok_lParts F__law_parts T, m__law_parts, F__law_parts.kp, b__law_parts⟩
    have Lorders : Cal l.prog w K mg base "_law_orders" 1 ["many"] spOrders := ⟨_, _, ok_lOrders F__law_orders T, m__law_orders, F__law_orders.kp, b__law_orders⟩
    have Ldraws : Cal l.prog w K mg base "_law_draws" 1 ["script"] (spDraws K) := ⟨_, _, ok_lDraws F__law_draws T, m__law_draws, F__law_draws.kp, b__law_draws⟩
    have Lsec : Cal l.prog w K mg base "_law_secured" 4 ["table", "share"] (spSecured K) := ⟨_, _, ok_lSecured F__law_secured T Lplus Ltimes Lminus Lmost, m__law_secured, F__law_secured.kp, b__law_secured⟩
    have Lassign : Cal l.prog w K mg base "_law_assignment" 2 ["draws"] (spBuild K) := ⟨_, _, ok_lAssign F__law_assignment T Ltake Lparts Lrow Lorders, m__law_assignment, F__law_assignment.kp, b__law_assignment⟩
    have Lways : Cal l.prog w K mg base "_law_ways" 2 ["draws"] (spBuild K) := ⟨_, _, ok_lWays F__law_ways T Ltake Lparts Lrow, m__law_ways, F__law_ways.kp, b__law_ways⟩
    have Lflow : Cal l.prog w K mg base "_law_flow" 2 ["draws"] (spBuild K) := ⟨_, _, ok_lFlow F__law_flow T Ltake Lparts Lrow, m__law_flow, F__law_flow.kp, b__law_flow⟩
    have Lgame : Cal l.prog w K mg base "_law_game" 5 ["draws"] (spBuild K) := ⟨_, _, ok_lGame F__law_game T Ltake Lparts Lsec Lover Lmost, m__law_game, F__law_game.kp, b__law_game⟩
    have Ltold : Cal l.prog w K mg base "_law_told" 9 ["rows", "right", "goal", "due"] (spTold K t0) := ⟨_, _, ok_lTold F__law_told T Cleast Csystem Lsays LalikeP Lminus Cpl Cpn Cpe, m__law_told, F__law_told.kp, b__law_told⟩
    exact ok_law F_law T Ldraws Lassign Lways Lflow Lgame Ltold
theorem walk {l : PySem.W.OpenLaw} {q : Program} {loose : List Str} {XP : (Str → Option Value) → Heap → Prop} {YP : World → Heap → Prop} {d : DefRec} {K : Params → PySem.W.Frag} (hn : l.most = some 63) (hdf : d.params.defaults = [])
    (hY : ∀ (w : World) (h : Heap), YP w h → (K w.params).In h)
    (F : ∀ (w : World) (mg : Str → Option Value) (fa : Addr) (h : Heap), YP w h → (K w.params).In h → h.Ns mainGlobals mg → mg d.name = some (.ref fa) → LamX.LawAtS l w (K w.params) CX0 10 63 "script" mg fa h) :
    PySem.W.WalkO q loose XP YP l.row.toRowW d [] (fun f vs => PySem.call f vs) :=
  LamX.walk_ofTs (n := 63) (k := 10) (CX := fun _ => CX0) (x := "script") hn (by decide) hdf ⟨rfl, by decide, by decide⟩ hY F fun _ _ _ _ _ z => z
end K44


open PySem PySem.W PyProof.Rows
local macro_rules | `(tactic| o_head ($_f $K $as $e)) => `(tactic| o_head (PySem.W.kmHook $K $as $e [163, 170, 260, 272]))
set_option maxRecDepth 100000 in
set_option maxHeartbeats 0 in
theorem PySem.Challenge.cw_paidallways_k44_whole_systems_that_ask_o_holds : PySem.Challenge.rw_paidallways_k44_whole_systems_that_ask_o.Holds := by
  w_on; o_law; k_head; (case hw => w_witness2)
  k_fill
  refine K44.walk (l := PySem.Challenge.rw_paidallways_k44_whole_systems_that_ask_o) rfl rfl (fun w h Y => PySem.W.km_in_of Y) ?F
  case F =>
    intro w mg fa h Y KX G hmg
    refine' K44.all_mk (C := ?C) KX G hmg (PySem.W.km_tabs_of Y) ?nT ?hH ?T ?U ?mk ?kc ?A_is_number ?A_is_part ?A_part ?A_plus ?A_minus ?A_times ?A_over ?A_is_less ?A_sum_of ?A_weighed ?A_most ?A_least ?A_mixed ?A_proves_least ?A_proves_none ?A_proves_endless ?A__law_draws ?A__law_take ?A__law_alike ?A__law_says ?A__law_low ?A__law_plus ?A__law_times ?A__law_minus ?A__law_over ?A__law_less ?A__law_most ?A__law_row ?A__law_parts ?A__law_orders ?A__law_assignment ?A__law_ways ?A__law_flow ?A__law_game ?A__law_secured ?A__law_told ?A_law ?A_is_system ?A_is_places ?A_meets ?A_are_weights ?A___init__ ?A_reduced ?A_entering ?A_leaving ?A_turn ?A_climb ?A_weights ?A_sides ?A_way
    (case U =>
      refine' ⟨⟨?pg, ?hd, ?po, ?sa⟩, K44.noat ?nC, K44.noat ?nS, K44.noat ?nR, K44.noat ?nB, PySem.W.mg_of KX G ?mC⟩
      (case mC => k_is)
      (case pg => k_is)
      (case hd => k_is)
      (case po => k_is)
      (case sa => k_is)
      (case nC => k_is)
      (case nS => k_is)
      (case nR => k_is)
      (case nB => k_is)
      )
    (case nT =>
      intro p hp
      simp only [K44.csT, List.mem_cons, List.not_mem_nil, or_false] at hp
      rcases hp with rfl | rfl | rfl | rfl <;> kernel_rfl)
    (case hH =>
      intro p hp
      simp only [K44.csT, List.mem_cons, List.not_mem_nil, or_false] at hp
      rcases hp with rfl | rfl | rfl | rfl <;> kernel_rfl)
    (case mk => k_is)
    (case kc => k_is)
    (case T =>
      refine' ⟨PySem.W.mg_of KX G ?gcd, K44.int_g KX G ?most, K44.two_sq KX G ?z1 ?z2, K44.two_sq KX G ?o1 ?o2, PySem.W.mg_none_of KX G ?n_abs, PySem.W.mg_none_of KX G ?n_isinstance, PySem.W.mg_none_of KX G ?n_int, PySem.W.mg_none_of KX G ?n_bool, PySem.W.mg_none_of KX G ?n_tuple, PySem.W.mg_none_of KX G ?n_list, PySem.W.mg_none_of KX G ?n_str, PySem.W.mg_none_of KX G ?n_len, PySem.W.mg_none_of KX G ?n_range, PySem.W.mg_none_of KX G ?n_zip, PySem.W.mg_none_of KX G ?n_enumerate, PySem.W.mg_none_of KX G ?n_all, PySem.W.mg_none_of KX G ?n_any, PySem.W.mg_none_of KX G ?n_sum, PySem.W.mg_none_of KX G ?n_min, PySem.W.mg_none_of KX G ?n_reversed, K44.int_g KX G ?mr, K44.int_g KX G ?mp⟩
      (case gcd => k_is)
      (case most => k_is)
      (case z1 => k_is)
      (case z2 => k_is)
      (case o1 => k_is)
      (case o2 => k_is)
      (case n_abs => k_is)
      (case n_isinstance => k_is)
      (case n_int => k_is)
      (case n_bool => k_is)
      (case n_tuple => k_is)
      (case n_list => k_is)
      (case n_str => k_is)
      (case n_len => k_is)
      (case n_range => k_is)
      (case n_zip => k_is)
      (case n_enumerate => k_is)
      (case n_all => k_is)
      (case n_any => k_is)
      (case n_sum => k_is)
      (case n_min => k_is)
      (case n_reversed => k_is)
      (case mr => k_is)
      (case mp => k_is)
      )
    (case A_is_number => (refine' K44.FAt.of KX G ?a ?l ?c ?k); (case a => k_is); (case l => k_is); (case c => k_is); (case k => k_is))
    (case A_is_part => (refine' K44.FAt.of KX G ?a ?l ?c ?k); (case a => k_is); (case l => k_is); (case c => k_is); (case k => k_is))
    (case A_part => (refine' K44.FAt.of KX G ?a ?l ?c ?k); (case a => k_is); (case l => k_is); (case c => k_is); (case k => k_is))
    (case A_plus => (refine' K44.FAt.of KX G ?a ?l ?c ?k); (case a => k_is); (case l => k_is); (case c => k_is); (case k => k_is))
    (case A_minus => (refine' K44.FAt.of KX G ?a ?l ?c ?k); (case a => k_is); (case l => k_is); (case c => k_is); (case k => k_is))
    (case A_times => (refine' K44.FAt.of KX G ?a ?l ?c ?k); (case a => k_is); (case l => k_is); (case c => k_is); (case k => k_is))
    (case A_over => (refine' K44.FAt.of KX G ?a ?l ?c ?k); (case a => k_is); (case l => k_is); (case c => k_is); (case k => k_is))
    (case A_is_less => (refine' K44.FAt.of KX G ?a ?l ?c ?k); (case a => k_is); (case l => k_is); (case c => k_is); (case k => k_is))
    (case A_sum_of => (refine' K44.FAt.of KX G ?a ?l ?c ?k); (case a => k_is); (case l => k_is); (case c => k_is); (case k => k_is))
    (case A_weighed => (refine' K44.FAt.of KX G ?a ?l ?c ?k); (case a => k_is); (case l => k_is); (case c => k_is); (case k => k_is))
    (case A_most => (refine' K44.FAt.of KX G ?a ?l ?c ?k); (case a => k_is); (case l => k_is); (case c => k_is); (case k => k_is))
    (case A_least => (refine' K44.FAt.of KX G ?a ?l ?c ?k); (case a => k_is); (case l => k_is); (case c => k_is); (case k => k_is))
    (case A_mixed => (refine' K44.FAt.of KX G ?a ?l ?c ?k); (case a => k_is); (case l => k_is); (case c => k_is); (case k => k_is))
    (case A_proves_least => (refine' K44.FAt.of KX G ?a ?l ?c ?k); (case a => k_is); (case l => k_is); (case c => k_is); (case k => k_is))
    (case A_proves_none => (refine' K44.FAt.of KX G ?a ?l ?c ?k); (case a => k_is); (case l => k_is); (case c => k_is); (case k => k_is))
    (case A_proves_endless => (refine' K44.FAt.of KX G ?a ?l ?c ?k); (case a => k_is); (case l => k_is); (case c => k_is); (case k => k_is))
    (case A__law_draws => (refine' K44.FAt.of KX G ?a ?l ?c ?k); (case a => k_is); (case l => k_is); (case c => k_is); (case k => k_is))
    (case A__law_take => (refine' K44.FAt.of KX G ?a ?l ?c ?k); (case a => k_is); (case l => k_is); (case c => k_is); (case k => k_is))
    (case A__law_alike => (refine' K44.FAt.of KX G ?a ?l ?c ?k); (case a => k_is); (case l => k_is); (case c => k_is); (case k => k_is))
    (case A__law_says => (refine' K44.FAt.of KX G ?a ?l ?c ?k); (case a => k_is); (case l => k_is); (case c => k_is); (case k => k_is))
    (case A__law_low => (refine' K44.FAt.of KX G ?a ?l ?c ?k); (case a => k_is); (case l => k_is); (case c => k_is); (case k => k_is))
    (case A__law_plus => (refine' K44.FAt.of KX G ?a ?l ?c ?k); (case a => k_is); (case l => k_is); (case c => k_is); (case k => k_is))
    (case A__law_times => (refine' K44.FAt.of KX G ?a ?l ?c ?k); (case a => k_is); (case l => k_is); (case c => k_is); (case k => k_is))
    (case A__law_minus => (refine' K44.FAt.of KX G ?a ?l ?c ?k); (case a => k_is); (case l => k_is); (case c => k_is); (case k => k_is))
    (case A__law_over => (refine' K44.FAt.of KX G ?a ?l ?c ?k); (case a => k_is); (case l => k_is); (case c => k_is); (case k => k_is))
    (case A__law_less => (refine' K44.FAt.of KX G ?a ?l ?c ?k); (case a => k_is); (case l => k_is); (case c => k_is); (case k => k_is))
    (case A__law_most => (refine' K44.FAt.of KX G ?a ?l ?c ?k); (case a => k_is); (case l => k_is); (case c => k_is); (case k => k_is))
    (case A__law_row => (refine' K44.FAt.of KX G ?a ?l ?c ?k); (case a => k_is); (case l => k_is); (case c => k_is); (case k => k_is))
    (case A__law_parts => (refine' K44.FAt.of KX G ?a ?l ?c ?k); (case a => k_is); (case l => k_is); (case c => k_is); (case k => k_is))
    (case A__law_orders => (refine' K44.FAt.of KX G ?a ?l ?c ?k); (case a => k_is); (case l => k_is); (case c => k_is); (case k => k_is))
    (case A__law_assignment => (refine' K44.FAt.of KX G ?a ?l ?c ?k); (case a => k_is); (case l => k_is); (case c => k_is); (case k => k_is))
    (case A__law_ways => (refine' K44.FAt.of KX G ?a ?l ?c ?k); (case a => k_is); (case l => k_is); (case c => k_is); (case k => k_is))
    (case A__law_flow => (refine' K44.FAt.of KX G ?a ?l ?c ?k); (case a => k_is); (case l => k_is); (case c => k_is); (case k => k_is))
    (case A__law_game => (refine' K44.FAt.of KX G ?a ?l ?c ?k); (case a => k_is); (case l => k_is); (case c => k_is); (case k => k_is))
    (case A__law_secured => (refine' K44.FAt.of KX G ?a ?l ?c ?k); (case a => k_is); (case l => k_is); (case c => k_is); (case k => k_is))
    (case A__law_told => (refine' K44.FAt.of KX G ?a ?l ?c ?k); (case a => k_is); (case l => k_is); (case c => k_is); (case k => k_is))
    (case A_law => (refine' K44.FAt.of KX G ?a ?l ?c ?k); (case a => k_is); (case l => k_is); (case c => k_is); (case k => k_is))
    (case A_is_system => (refine' K44.CAt.of KX G ?a ?l ?c ?k); (case a => k_is); (case l => k_is); (case c => k_is); (case k => k_is))
    (case A_is_places => (refine' K44.CAt.of KX G ?a ?l ?c ?k); (case a => k_is); (case l => k_is); (case c => k_is); (case k => k_is))
    (case A_meets => (refine' K44.CAt.of KX G ?a ?l ?c ?k); (case a => k_is); (case l => k_is); (case c => k_is); (case k => k_is))
    (case A_are_weights => (refine' K44.CAt.of KX G ?a ?l ?c ?k); (case a => k_is); (case l => k_is); (case c => k_is); (case k => k_is))
    (case A___init__ => (refine' K44.MAt.of ?a ?i ?l ?c ?k); (case a => k_is); (case i => k_is); (case l => k_is); (case c => k_is); (case k => k_is))
    (case A_reduced => (refine' K44.MAt.of ?a ?i ?l ?c ?k); (case a => k_is); (case i => k_is); (case l => k_is); (case c => k_is); (case k => k_is))
    (case A_entering => (refine' K44.MAt.of ?a ?i ?l ?c ?k); (case a => k_is); (case i => k_is); (case l => k_is); (case c => k_is); (case k => k_is))
    (case A_leaving => (refine' K44.MAt.of ?a ?i ?l ?c ?k); (case a => k_is); (case i => k_is); (case l => k_is); (case c => k_is); (case k => k_is))
    (case A_turn => (refine' K44.MAt.of ?a ?i ?l ?c ?k); (case a => k_is); (case i => k_is); (case l => k_is); (case c => k_is); (case k => k_is))
    (case A_climb => (refine' K44.MAt.of ?a ?i ?l ?c ?k); (case a => k_is); (case i => k_is); (case l => k_is); (case c => k_is); (case k => k_is))
    (case A_weights => (refine' K44.MAt.of ?a ?i ?l ?c ?k); (case a => k_is); (case i => k_is); (case l => k_is); (case c => k_is); (case k => k_is))
    (case A_sides => (refine' K44.MAt.of ?a ?i ?l ?c ?k); (case a => k_is); (case i => k_is); (case l => k_is); (case c => k_is); (case k => k_is))
    (case A_way => (refine' K44.MAt.of ?a ?i ?l ?c ?k); (case a => k_is); (case i => k_is); (case l => k_is); (case c => k_is); (case k => k_is))
#print axioms PySem.Challenge.cw_paidallways_k44_whole_systems_that_ask_o_holds
