import PyProof.Rows.All
import Wide.All
import OpenK.AllK
import Wide.FinOn
import HandS.ForMost
import HandS.ForExc
import HandS.TryMany
import HandS.TupAny
import HandS.TupMul
import HandS.IsInst
import HandS.Style
import HandS.Flow
import HandS.Walk
import HandS.SortKw
import KE.GoesNew
import KE.DatumOrd
import PySem.Challenge.RW_lydite_k33_whole_all_roads_to_normal_ter
set_option Elab.async false
set_option linter.all false
/-! The mathematics: terms with labels at their abstractions, putting, steps, developments. No Python here. -/
namespace Lyd
inductive Tm (L : Type) where
  | var (n : Nat)
  | lam (m : L) (b : Tm L)
  | app (f a : Tm L)
section
variable {L : Type}
def lift (c : Nat) : Nat → Tm L → Tm L
  | d, .var n => .var (if n < d then n else n + c)
  | d, .lam m b => .lam m (lift c (d + 1) b)
  | d, .app f a => .app (lift c d f) (lift c d a)
def put (v : Tm L) : Nat → Tm L → Tm L
  | d, .var n => if n < d then .var n else if n = d then lift d 0 v else .var (n - 1)
  | d, .lam m b => .lam m (put v (d + 1) b)
  | d, .app f a => .app (put v d f) (put v d a)
theorem lift_add (c1 c2 : Nat) : ∀ (t : Tm L) (d i : Nat), i ≤ c2 → lift c1 (d + i) (lift c2 d t) = lift (c1 + c2) d t
  | .var n, d, i, h => by
    simp only [lift]
    by_cases h1 : n < d
    · rw [if_pos h1, if_pos (by omega), if_pos h1]
    · rw [if_neg h1, if_neg (by omega), if_neg h1]
      congr 1
      omega
  | .lam m b, d, i, h => by
    simp only [lift]
    have e := lift_add c1 c2 b (d + 1) i h
    rw [show d + 1 + i = d + i + 1 by omega] at e
    rw [e]
  | .app f a, d, i, h => by
    simp only [lift]
    rw [lift_add c1 c2 f d i h, lift_add c1 c2 a d i h]
theorem lift_comm (c1 c2 : Nat) : ∀ (t : Tm L) (d i : Nat), i ≤ d → lift c1 (d + c2) (lift c2 i t) = lift c2 i (lift c1 d t)
  | .var n, d, i, h => by
    simp only [lift]
    by_cases h1 : n < i
    · rw [if_pos h1, if_pos (by omega), if_pos (show n < d by omega), if_pos h1]
    · rw [if_neg h1]
      by_cases h2 : n < d
      · rw [if_pos (by omega), if_pos h2, if_neg h1]
      · rw [if_neg (by omega), if_neg h2, if_neg (by omega)]
        congr 1
        omega
  | .lam m b, d, i, h => by
    simp only [lift]
    have e := lift_comm c1 c2 b (d + 1) (i + 1) (by omega)
    rw [show d + 1 + c2 = d + c2 + 1 by omega] at e
    rw [e]
  | .app f a, d, i, h => by
    simp only [lift]
    rw [lift_comm c1 c2 f d i h, lift_comm c1 c2 a d i h]
theorem put_lift_low (v : Tm L) (c : Nat) : ∀ (t : Tm L) (d i : Nat), i ≤ d → put v (d + c) (lift c i t) = lift c i (put v d t)
  | .var n, d, i, h => by
    simp only [lift, put]
    by_cases h1 : n < i
    · rw [if_pos h1, if_pos (show n < d + c by omega), if_pos (show n < d by omega)]
      simp only [lift]
      rw [if_pos h1]
    · rw [if_neg h1]
      by_cases h2 : n < d
      · rw [if_pos (show n + c < d + c by omega), if_pos h2]
        simp only [lift]
        rw [if_neg h1]
      · rw [if_neg (show ¬ n + c < d + c by omega), if_neg h2]
        by_cases h3 : n = d
        · rw [if_pos (show n + c = d + c by omega), if_pos h3]
          have e := lift_add c d v 0 i (by omega)
          rw [Nat.zero_add] at e
          rw [e, Nat.add_comm]
        · rw [if_neg (show ¬ n + c = d + c by omega), if_neg h3]
          simp only [lift]
          rw [if_neg (by omega)]
          congr 1
          omega
  | .lam m b, d, i, h => by
    simp only [lift, put]
    have e := put_lift_low v c b (d + 1) (i + 1) (by omega)
    rw [show d + 1 + c = d + c + 1 by omega] at e
    rw [e]
  | .app f a, d, i, h => by
    simp only [lift, put]
    rw [put_lift_low v c f d i h, put_lift_low v c a d i h]
theorem put_lift_in (v : Tm L) (c : Nat) : ∀ (t : Tm L) (d i : Nat), i ≤ d → d ≤ i + c → put v d (lift (c + 1) i t) = lift c i t
  | .var n, d, i, h, h' => by
    simp only [lift, put]
    by_cases h1 : n < i
    · rw [if_pos h1, if_pos (by omega), if_pos h1]
    · rw [if_neg h1, if_neg (by omega), if_neg (by omega), if_neg h1]
      congr 1
  | .lam m b, d, i, h, h' => by
    simp only [lift, put]
    rw [put_lift_in v c b (d + 1) (i + 1) (by omega) (by omega)]
  | .app f a, d, i, h, h' => by
    simp only [lift, put]
    rw [put_lift_in v c f d i h h', put_lift_in v c a d i h h']
theorem lift_put_high (v : Tm L) (c k : Nat) : ∀ (t : Tm L) (d : Nat), lift c (d + k) (put v d t) = put (lift c k v) d (lift c (d + k + 1) t)
  | .var n, d => by
    simp only [lift, put]
    by_cases h1 : n < d
    · rw [if_pos h1, if_pos (show n < d + k + 1 by omega), if_pos h1]
      simp only [lift]
      rw [if_pos (by omega)]
    · rw [if_neg h1]
      by_cases h2 : n = d
      · rw [if_pos h2, if_pos (show n < d + k + 1 by omega), if_neg h1, if_pos h2]
        have e := lift_comm c d v k 0 (Nat.zero_le _)
        rw [Nat.add_comm k d] at e
        exact e
      · rw [if_neg h2]
        simp only [lift]
        by_cases h3 : n < d + k + 1
        · rw [if_pos h3, if_pos (by omega), if_neg h1, if_neg h2]
        · rw [if_neg h3, if_neg (by omega), if_neg (by omega), if_neg (by omega)]
          congr 1
          omega
  | .lam m b, d => by
    simp only [lift, put]
    have e := lift_put_high v c k b (d + 1)
    rw [show d + 1 + k = d + k + 1 by omega] at e
    rw [e]
  | .app f a, d => by
    simp only [lift, put]
    rw [lift_put_high v c k f d, lift_put_high v c k a d]
theorem put_put (v a : Tm L) (d : Nat) : ∀ (t : Tm L) (k : Nat), put v (d + k) (put a k t) = put (put v d a) k (put v (d + k + 1) t)
  | .var n, k => by
    simp only [put]
    by_cases h1 : n < k
    · rw [if_pos h1, if_pos (show n < d + k + 1 by omega)]
      simp only [put]
      rw [if_pos (show n < d + k by omega), if_pos h1]
    · rw [if_neg h1]
      by_cases h2 : n = k
      · rw [if_pos h2, if_pos (show n < d + k + 1 by omega)]
        simp only [put]
        rw [if_neg h1, if_pos h2]
        exact put_lift_low v k a d 0 (Nat.zero_le _)
      · rw [if_neg h2]
        simp only [put]
        by_cases h3 : n < d + k + 1
        · rw [if_pos h3, if_pos (by omega)]
          simp only [put]
          rw [if_neg h1, if_neg h2]
        · rw [if_neg h3, if_neg (by omega)]
          by_cases h4 : n = d + k + 1
          · rw [if_pos h4, if_pos (by omega)]
            rw [put_lift_in (put v d a) (d + k) v k 0 (Nat.zero_le _) (by omega)]
          · rw [if_neg h4, if_neg (by omega)]
            simp only [put]
            rw [if_neg (by omega), if_neg (by omega)]
  | .lam m b, k => by
    simp only [put]
    have e := put_put v a d b (k + 1)
    rw [show d + (k + 1) = d + k + 1 by omega] at e
    rw [e]
  | .app f x, k => by
    simp only [put]
    rw [put_put v a d f k, put_put v a d x k]

/-! ### developments of the redexes whose label p tells -/
def dev (p : L → Bool) : Tm L → Tm L
  | .var n => .var n
  | .lam m b => .lam m (dev p b)
  | .app (.lam m b) a => if p m = true then put (dev p a) 0 (dev p b) else .app (.lam m (dev p b)) (dev p a)
  | .app (.var n) a => .app (.var n) (dev p a)
  | .app (.app f x) a => .app (dev p (.app f x)) (dev p a)
def isLam : Tm L → Bool
  | .lam _ _ => true
  | _ => false
theorem dev_app {p : L → Bool} {f a : Tm L} (h : isLam f = false) : dev p (.app f a) = .app (dev p f) (dev p a) := by
  cases f with
  | var n => rfl
  | lam m b => cases h
  | app f x => rfl

/-! ### parallel steps, and that two normal terms that one term leads to are one -/
inductive Par : Tm L → Tm L → Prop where
  | var (n : Nat) : Par (.var n) (.var n)
  | lam {m : L} {b b' : Tm L} (h : Par b b') : Par (.lam m b) (.lam m b')
  | app {f f' a a' : Tm L} (h : Par f f') (k : Par a a') : Par (.app f a) (.app f' a')
  | beta {m : L} {b b' a a' : Tm L} (h : Par b b') (k : Par a a') : Par (.app (.lam m b) a) (put a' 0 b')
theorem Par.refl : ∀ t : Tm L, Par t t
  | .var n => .var n
  | .lam m b => .lam (Par.refl b)
  | .app f a => .app (Par.refl f) (Par.refl a)
theorem Par.lift {t t' : Tm L} (h : Par t t') (c : Nat) : ∀ d, Par (Lyd.lift c d t) (Lyd.lift c d t') := by
  induction h with
  | var n => intro d; exact Par.refl _
  | lam h ih => intro d; exact .lam (ih (d + 1))
  | app h k ih1 ih2 => intro d; exact .app (ih1 d) (ih2 d)
  | @beta m b b' a a' h k ih1 ih2 =>
    intro d
    have e := lift_put_high a' c d b' 0
    rw [Nat.zero_add] at e
    rw [e]
    exact .beta (ih1 (d + 1)) (ih2 d)
theorem Par.put {t t' v v' : Tm L} (h : Par t t') (hv : Par v v') : ∀ d, Par (Lyd.put v d t) (Lyd.put v' d t') := by
  induction h with
  | var n =>
    intro d
    simp only [Lyd.put]
    by_cases h1 : n < d
    · rw [if_pos h1, if_pos h1]; exact Par.refl _
    · rw [if_neg h1, if_neg h1]
      by_cases h2 : n = d
      · rw [if_pos h2, if_pos h2]; exact hv.lift d 0
      · rw [if_neg h2, if_neg h2]; exact Par.refl _
  | lam h ih => intro d; exact .lam (ih (d + 1))
  | app h k ih1 ih2 => intro d; exact .app (ih1 d) (ih2 d)
  | @beta m b b' a a' h k ih1 ih2 =>
    intro d
    have e := put_put v' a' d b' 0
    rw [Nat.add_zero] at e
    rw [e]
    exact .beta (ih1 (d + 1)) (ih2 d)
abbrev all1 : L → Bool := fun _ => true
theorem Par.dev {t t' : Tm L} (h : Par t t') : Par t' (dev all1 t) := by
  induction h with
  | var n => exact .var n
  | lam h ih => exact .lam ih
  | @app f f' a a' h k ih1 ih2 =>
    cases f with
    | var n => exact .app ih1 ih2
    | app f x => exact .app ih1 ih2
    | lam m b =>
      cases h with
      | lam h =>
        cases ih1 with
        | lam ih1 =>
          show Par _ (if all1 m = true then Lyd.put (Lyd.dev all1 a) 0 (Lyd.dev all1 b) else _)
          rw [if_pos rfl]
          exact .beta ih1 ih2
  | @beta m b b' a a' h k ih1 ih2 =>
    show Par _ (if all1 m = true then Lyd.put (Lyd.dev all1 a) 0 (Lyd.dev all1 b) else _)
    rw [if_pos rfl]
    exact ih1.put ih2 0
inductive Pars : Tm L → Tm L → Prop where
  | nil (t : Tm L) : Pars t t
  | cons {t u v : Tm L} (h : Par t u) (k : Pars u v) : Pars t v
theorem Pars.trans {t u v : Tm L} (h : Pars t u) (k : Pars u v) : Pars t v := by
  induction h with
  | nil t => exact k
  | cons h _ ih => exact .cons h (ih k)
theorem Pars.map_dev {t u : Tm L} (h : Pars t u) : Pars (dev all1 t) (dev all1 u) := by
  induction h with
  | nil t => exact .nil _
  | cons h _ ih => exact .cons h.dev.dev ih
def devs : Nat → Tm L → Tm L
  | 0, t => t
  | n + 1, t => devs n (dev all1 t)
theorem Pars.map_devs {t u : Tm L} (h : Pars t u) : ∀ n, Pars (devs n t) (devs n u)
  | 0 => h
  | n + 1 => h.map_dev.map_devs n
theorem Pars.devs {t u : Tm L} (h : Pars t u) : ∃ n, Pars u (Lyd.devs n t) := by
  induction h with
  | nil t => exact ⟨0, .nil _⟩
  | @cons t u v h _ ih =>
    obtain ⟨n, k⟩ := ih
    exact ⟨n + 1, k.trans ((Pars.cons h.dev (.nil _)).map_devs n)⟩

/-! ### redexes, steps -/
inductive Dr where
  | b | f | a
  deriving DecidableEq
abbrev Place := List Dr
def headLab : Tm L → List (Place × L)
  | .lam m _ => [([], m)]
  | _ => []
def at_ (d : Dr) (l : List (Place × L)) : List (Place × L) := l.map fun x => (d :: x.1, x.2)
/-- the redexes, in order, with the labels of their abstractions -/
def rdx : Tm L → List (Place × L)
  | .var _ => []
  | .lam _ b => at_ .b (rdx b)
  | .app f a => headLab f ++ (at_ .f (rdx f) ++ at_ .a (rdx a))
def step : Tm L → Place → Option (Tm L)
  | .app (.lam _ b) a, [] => some (put a 0 b)
  | .lam m b, .b :: p => (step b p).map (.lam m)
  | .app f a, .f :: p => (step f p).map fun f' => .app f' a
  | .app f a, .a :: p => (step a p).map fun a' => .app f a'
  | _, _ => none
theorem step_b {m : L} {b : Tm L} {p : Place} : step (.lam m b) (.b :: p) = (step b p).map (.lam m) := by simp [step]
theorem step_f {f a : Tm L} {p : Place} : step (.app f a) (.f :: p) = (step f p).map fun f' => .app f' a := by simp [step]
theorem step_a {f a : Tm L} {p : Place} : step (.app f a) (.a :: p) = (step a p).map fun a' => .app f a' := by simp [step]
theorem step_nil {m : L} {b a : Tm L} : step (.app (.lam m b) a) [] = some (put a 0 b) := by simp [step]
def normal_ (t : Tm L) : Prop := rdx t = []
def follow_ : Tm L → List Place → Option (Tm L)
  | t, [] => some t
  | t, p :: r => (step t p).bind fun u => follow_ u r
theorem at_nil {d : Dr} {l : List (Place × L)} : at_ d l = [] ↔ l = [] := by
  unfold at_; exact List.map_eq_nil_iff
theorem mem_at {d : Dr} {l : List (Place × L)} {q : Place} {m : L} : (q, m) ∈ at_ d l ↔ ∃ p, q = d :: p ∧ (p, m) ∈ l := by
  unfold at_
  rw [List.mem_map]
  constructor
  · rintro ⟨⟨p, m'⟩, h, e⟩
    cases e
    exact ⟨p, rfl, h⟩
  · rintro ⟨p, rfl, h⟩
    exact ⟨(p, m), h, rfl⟩
/-- a redex can be stepped -/
theorem step_some : ∀ (t : Tm L) (q : Place) (m : L), (q, m) ∈ rdx t → ∃ u, step t q = some u
  | .var n, q, m, h => by simp [rdx] at h
  | .lam k b, q, m, h => by
    obtain ⟨p, rfl, h1⟩ := mem_at.mp h
    obtain ⟨u, e⟩ := step_some b p m h1
    exact ⟨_, by rw [step_b, e]; rfl⟩
  | .app f a, q, m, h => by
    rcases List.mem_append.mp h with h | h
    · cases f with
      | lam k b =>
        have e : (q, m) = ([], k) := by simpa [headLab] using h
        cases e
        exact ⟨_, step_nil⟩
      | var n => simp [headLab] at h
      | app f x => simp [headLab] at h
    · rcases List.mem_append.mp h with h | h
      · obtain ⟨p, rfl, h1⟩ := mem_at.mp h
        obtain ⟨u, e⟩ := step_some f p m h1
        exact ⟨_, by rw [step_f, e]; rfl⟩
      · obtain ⟨p, rfl, h1⟩ := mem_at.mp h
        obtain ⟨u, e⟩ := step_some a p m h1
        exact ⟨_, by rw [step_a, e]; rfl⟩
theorem some_step : ∀ {t : Tm L} {q : Place} {u : Tm L}, step t q = some u → ∃ m, (q, m) ∈ rdx t
  | .var n, q, u, h => by simp [step] at h
  | .lam k b, q, u, h => by
    match q, h with
    | [], h => simp [step] at h
    | .f :: p, h => simp [step] at h
    | .a :: p, h => simp [step] at h
    | .b :: p, h =>
      rw [step_b] at h
      cases e : step b p with
      | none => rw [e] at h; cases h
      | some v =>
        obtain ⟨m, hm⟩ := some_step e
        exact ⟨m, mem_at.mpr ⟨p, rfl, hm⟩⟩
  | .app f a, q, u, h => by
    match q, h with
    | [], h =>
      cases f with
      | lam k b => exact ⟨k, by simp [rdx, headLab]⟩
      | var n => simp [step] at h
      | app f x => simp [step] at h
    | .b :: p, h => simp [step] at h
    | .f :: p, h =>
      rw [step_f] at h
      cases e : step f p with
      | none => rw [e] at h; cases h
      | some v =>
        obtain ⟨m, hm⟩ := some_step e
        exact ⟨m, List.mem_append_right _ (List.mem_append_left _ (mem_at.mpr ⟨p, rfl, hm⟩))⟩
    | .a :: p, h =>
      rw [step_a] at h
      cases e : step a p with
      | none => rw [e] at h; cases h
      | some v =>
        obtain ⟨m, hm⟩ := some_step e
        exact ⟨m, List.mem_append_right _ (List.mem_append_right _ (mem_at.mpr ⟨p, rfl, hm⟩))⟩
theorem step_par : ∀ {t : Tm L} {q : Place} {u : Tm L}, step t q = some u → Par t u
  | .var n, q, u, h => by simp [step] at h
  | .lam k b, q, u, h => by
    match q, h with
    | [], h => simp [step] at h
    | .f :: p, h => simp [step] at h
    | .a :: p, h => simp [step] at h
    | .b :: p, h =>
      rw [step_b] at h
      cases e : step b p with
      | none => rw [e] at h; cases h
      | some v =>
        rw [e] at h
        cases h
        exact .lam (step_par e)
  | .app f a, q, u, h => by
    match q, h with
    | [], h =>
      cases f with
      | lam k b =>
        rw [step_nil] at h
        cases h
        exact .beta (.refl _) (.refl _)
      | var n => simp [step] at h
      | app f x => simp [step] at h
    | .b :: p, h => simp [step] at h
    | .f :: p, h =>
      rw [step_f] at h
      cases e : step f p with
      | none => rw [e] at h; cases h
      | some v =>
        rw [e] at h
        cases h
        exact .app (step_par e) (.refl _)
    | .a :: p, h =>
      rw [step_a] at h
      cases e : step a p with
      | none => rw [e] at h; cases h
      | some v =>
        rw [e] at h
        cases h
        exact .app (.refl _) (step_par e)
theorem follow_pars : ∀ {r : List Place} {t u : Tm L}, follow_ t r = some u → Pars t u
  | [], t, u, h => by cases h; exact .nil _
  | p :: r, t, u, h => by
    simp only [follow_] at h
    cases e : step t p with
    | none => rw [e] at h; cases h
    | some v =>
      rw [e] at h
      exact .cons (step_par e) (follow_pars h)
theorem normal_par {t u : Tm L} (h : Par t u) : normal_ t → u = t := by
  unfold normal_
  induction h with
  | var n => intro _; rfl
  | lam h ih =>
    intro n
    rw [ih (at_nil.mp n)]
  | app h k ih1 ih2 =>
    intro n
    simp only [rdx] at n
    have n2 := List.append_eq_nil_iff.mp n
    have n3 := List.append_eq_nil_iff.mp n2.2
    rw [ih1 (at_nil.mp n3.1), ih2 (at_nil.mp n3.2)]
  | beta h k _ _ =>
    intro n
    simp [rdx, headLab] at n
theorem normal_pars {t u : Tm L} (h : Pars t u) : normal_ t → u = t := by
  induction h with
  | nil t => intro _; rfl
  | cons h _ ih =>
    intro n
    have e := normal_par h n
    subst e
    exact ih n
theorem devs_add : ∀ (n m : Nat) (t : Tm L), devs (n + m) t = devs m (devs n t)
  | 0, m, t => by rw [Nat.zero_add]; rfl
  | n + 1, m, t => by
    rw [show n + 1 + m = n + m + 1 by omega]
    exact devs_add n m _
theorem devs_normal {t : Tm L} (h : normal_ t) : ∀ n, devs n t = t
  | 0 => rfl
  | n + 1 => by
    have e : dev all1 t = t := normal_par (Par.dev (Par.refl t)) h
    show devs n (dev all1 t) = t
    rw [e]
    exact devs_normal h n
/-- two normal terms that one term leads to are the same -/
theorem unique {t u v : Tm L} (h : Pars t u) (k : Pars t v) (nu : normal_ u) (nv : normal_ v) : u = v := by
  obtain ⟨n, h1⟩ := h.devs
  obtain ⟨m, k1⟩ := k.devs
  have e1 := normal_pars h1 nu
  have e2 := normal_pars k1 nv
  have f1 : devs (n + m) t = u := by rw [devs_add, e1]; exact devs_normal nu m
  have f2 : devs (n + m) t = v := by rw [Nat.add_comm, devs_add, e2]; exact devs_normal nv n
  exact f1.symm.trans f2
end
end Lyd

set_option Elab.async false
set_option linter.all false
/-! The order of steps: the first redex stays, the residuals of a redex behind the step at the first one. -/
namespace Lyd
section
variable {L : Type}
/-! ### labels that stand at functions alone -/
def good (p : L → Bool) : Tm L → Prop
  | .var _ => True
  | .lam m b => p m = false ∧ good p b
  | .app (.lam _ b) a => good p b ∧ good p a
  | .app (.var _) a => good p a
  | .app (.app f x) a => good p (.app f x) ∧ good p a
/-- .. in the place of a function -/
def goodF (p : L → Bool) : Tm L → Prop
  | .lam _ b => good p b
  | .var _ => True
  | .app f x => good p (.app f x)
theorem good_app {p : L → Bool} {f a : Tm L} : good p (.app f a) ↔ goodF p f ∧ good p a := by
  cases f with
  | var n => simp [good, goodF]
  | lam m b => simp [good, goodF]
  | app f x => simp [good, goodF]
theorem good.F {p : L → Bool} {f : Tm L} (h : good p f) : goodF p f := by
  cases f with
  | var n => exact True.intro
  | lam m b => exact h.2
  | app f x => exact h
theorem goodF.of {p : L → Bool} {f : Tm L} (h : goodF p f) (k : isLam f = false) : good p f := by
  cases f with
  | var n => exact True.intro
  | lam m b => cases k
  | app f x => exact h
theorem dev_good {p : L → Bool} {f a : Tm L} (h : good p f) : dev p (.app f a) = .app (dev p f) (dev p a) := by
  cases f with
  | var n => rfl
  | lam m b =>
    show (if p m = true then _ else _) = _
    rw [if_neg (by rw [h.1]; exact Bool.false_ne_true)]
    rfl
  | app f x => rfl
theorem isLam_lift {c d : Nat} {t : Tm L} : isLam (lift c d t) = isLam t := by cases t <;> rfl
theorem good_lift {p : L → Bool} {c : Nat} : ∀ (t : Tm L) (d : Nat), (good p (lift c d t) ↔ good p t) ∧ (goodF p (lift c d t) ↔ goodF p t)
  | .var n, d => ⟨Iff.rfl, Iff.rfl⟩
  | .lam m b, d => by
    have h := good_lift (p := p) (c := c) b (d + 1)
    exact ⟨⟨fun x => ⟨x.1, h.1.mp x.2⟩, fun x => ⟨x.1, h.1.mpr x.2⟩⟩, h.1⟩
  | .app f a, d => by
    have h := good_lift (p := p) (c := c) f d
    have k := good_lift (p := p) (c := c) a d
    have e : good p (lift c d (.app f a)) ↔ good p (.app f a) := by
      show good p (.app (lift c d f) (lift c d a)) ↔ _
      rw [good_app, good_app, h.2, k.1]
    exact ⟨e, e⟩
theorem dev_lift {p : L → Bool} {c : Nat} : ∀ (t : Tm L) (d : Nat), dev p (lift c d t) = lift c d (dev p t)
  | .var n, d => rfl
  | .lam m b, d => by
    show Tm.lam m (dev p (lift c (d + 1) b)) = Tm.lam m (lift c (d + 1) (dev p b))
    rw [dev_lift b]
  | .app (.lam m b) a, d => by
    show (if p m = true then put (dev p (lift c d a)) 0 (dev p (lift c (d + 1) b)) else .app (.lam m (dev p (lift c (d + 1) b))) (dev p (lift c d a))) =
      lift c d (if p m = true then put (dev p a) 0 (dev p b) else .app (.lam m (dev p b)) (dev p a))
    rw [dev_lift b, dev_lift a]
    split
    · have e := lift_put_high (dev p a) c d (dev p b) 0
      rw [Nat.zero_add] at e
      exact e.symm
    · rfl
  | .app (.var n) a, d => by
    show Tm.app (.var (if n < d then n else n + c)) (dev p (lift c d a)) = Tm.app (.var (if n < d then n else n + c)) (lift c d (dev p a))
    rw [dev_lift a]
  | .app (.app f x) a, d => by
    show Tm.app (dev p (lift c d (.app f x))) (dev p (lift c d a)) = Tm.app (lift c d (dev p (.app f x))) (lift c d (dev p a))
    rw [dev_lift (.app f x), dev_lift a]
theorem good_putF {p : L → Bool} {v : Tm L} (hv : good p v) : ∀ (t : Tm L) (d : Nat), (good p t → good p (put v d t)) ∧ (goodF p t → goodF p (put v d t))
  | .var n, d => by
    have h : good p (put v d (.var n)) := by
      simp only [put]
      split
      · exact True.intro
      · split
        · exact (good_lift v 0).1.mpr hv
        · exact True.intro
    exact ⟨fun _ => h, fun _ => h.F⟩
  | .lam m b, d => by
    have h := good_putF hv b (d + 1)
    exact ⟨fun x => ⟨x.1, h.1 x.2⟩, fun x => h.1 x⟩
  | .app f a, d => by
    have h := good_putF hv f d
    have k := good_putF hv a d
    have e : good p (.app f a) → good p (put v d (.app f a)) := fun x => by
      have y := good_app.mp x
      exact good_app.mpr ⟨h.2 y.1, k.1 y.2⟩
    exact ⟨e, e⟩
theorem dev_put {p : L → Bool} {v : Tm L} (hv : good p v) : ∀ (t : Tm L) (d : Nat), good p t → dev p (put v d t) = put (dev p v) d (dev p t)
  | .var n, d, _ => by
    simp only [put, dev]
    split
    · rfl
    · split
      · exact dev_lift v 0
      · rfl
  | .lam m b, d, h => by
    show Tm.lam m (dev p (put v (d + 1) b)) = Tm.lam m (put (dev p v) (d + 1) (dev p b))
    rw [dev_put hv b (d + 1) h.2]
  | .app (.lam m b) a, d, h => by
    show (if p m = true then put (dev p (put v d a)) 0 (dev p (put v (d + 1) b)) else .app (.lam m (dev p (put v (d + 1) b))) (dev p (put v d a))) =
      put (dev p v) d (if p m = true then put (dev p a) 0 (dev p b) else .app (.lam m (dev p b)) (dev p a))
    rw [dev_put hv b (d + 1) h.1, dev_put hv a d h.2]
    split
    · have e := put_put (dev p v) (dev p a) d (dev p b) 0
      rw [Nat.add_zero] at e
      exact e.symm
    · rfl
  | .app (.var n) a, d, h => by
    show dev p (.app (put v d (.var n)) (put v d a)) = .app (put (dev p v) d (dev p (.var n))) (put (dev p v) d (dev p a))
    rw [dev_good ((good_putF hv (.var n) d).1 True.intro), dev_put hv a d h, dev_put hv (.var n) d True.intro]
  | .app (.app f x) a, d, h => by
    show Tm.app (dev p (put v d (.app f x))) (dev p (put v d a)) = Tm.app (put (dev p v) d (dev p (.app f x))) (put (dev p v) d (dev p a))
    rw [dev_put hv (.app f x) d h.1, dev_put hv a d h.2]
theorem good_step {p : L → Bool} : ∀ (t : Tm L) (q : Place) (u : Tm L), step t q = some u → (good p t → good p u) ∧ (goodF p t → isLam t = true → goodF p u)
  | .var n, q, u, h => by simp [step] at h
  | .lam k b, q, u, h => by
    match q, h with
    | [], h => simp [step] at h
    | .f :: q, h => simp [step] at h
    | .a :: q, h => simp [step] at h
    | .b :: q, h =>
      rw [step_b] at h
      cases e : step b q with
      | none => rw [e] at h; cases h
      | some v =>
        rw [e] at h
        cases h
        have ih := good_step (p := p) b q v e
        exact ⟨fun x => ⟨x.1, ih.1 x.2⟩, fun x _ => ih.1 x⟩
  | .app f a, q, u, h => by
    refine ⟨fun x => ?_, fun _ z => nomatch z⟩
    have y := good_app.mp x
    match q, h with
    | [], h =>
      cases f with
      | lam k b =>
        rw [step_nil] at h
        cases h
        exact (good_putF y.2 b 0).1 y.1
      | var n => simp [step] at h
      | app f x => simp [step] at h
    | .b :: q, h => simp [step] at h
    | .f :: q, h =>
      rw [step_f] at h
      cases e : step f q with
      | none => rw [e] at h; cases h
      | some v =>
        rw [e] at h
        cases h
        have ih := good_step (p := p) f q v e
        refine good_app.mpr ⟨?_, y.2⟩
        cases z : isLam f with
        | true => exact ih.2 y.1 z
        | false => exact (ih.1 (y.1.of z)).F
    | .a :: q, h =>
      rw [step_a] at h
      cases e : step a q with
      | none => rw [e] at h; cases h
      | some v =>
        rw [e] at h
        cases h
        exact good_app.mpr ⟨y.1, (good_step (p := p) a q v e).1 y.2⟩

/-! ### the first redex -/
theorem headLab_nil {f : Tm L} (h : isLam f = false) : headLab f = [] := by cases f <;> first | rfl | cases h
theorem head_at {d : Dr} {l : List (Place × L)} {q : Place} {m : L} : (at_ d l).head? = some (q, m) ↔ ∃ q', q = d :: q' ∧ l.head? = some (q', m) := by
  cases l with
  | nil => simp [at_]
  | cons x r =>
    obtain ⟨q', m'⟩ := x
    simp only [at_, List.map_cons, List.head?_cons, Option.some.injEq, Prod.mk.injEq]
    constructor
    · rintro ⟨rfl, rfl⟩
      exact ⟨q', rfl, rfl, rfl⟩
    · rintro ⟨q2, rfl, rfl, rfl⟩
      exact ⟨rfl, rfl⟩
theorem head_append {α : Type} {l r : List α} {x : α} (h : (l ++ r).head? = some x) : l.head? = some x ∨ (l = [] ∧ r.head? = some x) := by
  cases l with
  | nil => exact .inr ⟨rfl, h⟩
  | cons y l => exact .inl h
theorem head_left {α : Type} {l r : List α} {x : α} (h : l.head? = some x) : (l ++ r).head? = some x := by
  cases l with
  | nil => cases h
  | cons y l => exact h
/-- the first redex of an application of no abstraction -/
theorem head_app {f a : Tm L} {q : Place} {m : L} (hf : isLam f = false) (h : (rdx (.app f a)).head? = some (q, m)) :
    (∃ q', q = .f :: q' ∧ (rdx f).head? = some (q', m)) ∨ (rdx f = [] ∧ ∃ q', q = .a :: q' ∧ (rdx a).head? = some (q', m)) := by
  simp only [rdx] at h
  rw [headLab_nil hf, List.nil_append] at h
  rcases head_append h with h | ⟨e, h⟩
  · exact .inl (head_at.mp h)
  · exact .inr ⟨at_nil.mp e, head_at.mp h⟩
theorem head_app_f {f a : Tm L} {q : Place} {m : L} (hf : isLam f = false) (h : (rdx f).head? = some (q, m)) : (rdx (.app f a)).head? = some (.f :: q, m) := by
  simp only [rdx]
  rw [headLab_nil hf, List.nil_append]
  exact head_left (head_at.mpr ⟨q, rfl, h⟩)
theorem head_app_a {f a : Tm L} {q : Place} {m : L} (hf : isLam f = false) (e : rdx f = []) (h : (rdx a).head? = some (q, m)) : (rdx (.app f a)).head? = some (.a :: q, m) := by
  simp only [rdx]
  rw [headLab_nil hf, List.nil_append, e]
  exact head_at.mpr ⟨q, rfl, h⟩
theorem step_root {f u : Tm L} {q : Place} (h : step f q = some u) (hf : isLam f = false) (hq : q ≠ []) : isLam u = false := by
  cases f with
  | var n => simp [step] at h
  | lam m b => cases hf
  | app f a =>
    match q, h with
    | [], h => exact absurd rfl hq
    | .b :: q, h => simp [step] at h
    | .f :: q, h =>
      rw [step_f] at h
      cases e : step f q with
      | none => rw [e] at h; cases h
      | some v => rw [e] at h; cases h; rfl
    | .a :: q, h =>
      rw [step_a] at h
      cases e : step a q with
      | none => rw [e] at h; cases h
      | some v => rw [e] at h; cases h; rfl
/-- a step elsewhere leaves the first redex the first one -/
theorem first_stays : ∀ (t : Tm L) (q : Place) (u : Tm L) (p : Place) (m : L), step t q = some u → (rdx t).head? = some (p, m) → q ≠ p → (rdx u).head? = some (p, m)
  | .var n, q, u, p, m, h, _, _ => by simp [step] at h
  | .lam k b, q, u, p, m, h, hp, hn => by
    obtain ⟨p', rfl, hp'⟩ := head_at.mp hp
    match q, h, hn with
    | [], h, _ => simp [step] at h
    | .f :: q, h, _ => simp [step] at h
    | .a :: q, h, _ => simp [step] at h
    | .b :: q, h, hn =>
      rw [step_b] at h
      cases e : step b q with
      | none => rw [e] at h; cases h
      | some v =>
        rw [e] at h
        cases h
        exact head_at.mpr ⟨p', rfl, first_stays b q v p' m e hp' fun z => hn (by rw [z])⟩
  | .app f a, q, u, p, m, h, hp, hn => by
    cases hf : isLam f with
    | true =>
      cases f with
      | var n => cases hf
      | app f x => cases hf
      | lam k b =>
        have e0 : ([], k) = (p, m) := by simpa [rdx, headLab] using hp
        cases e0
        match q, h, hn with
        | [], _, hn => exact absurd rfl hn
        | .b :: q, h, _ => simp [step] at h
        | .f :: q, h, _ =>
          rw [step_f] at h
          match q, h with
          | [], h => simp [step] at h
          | .f :: q, h => simp [step] at h
          | .a :: q, h => simp [step] at h
          | .b :: q, h =>
            rw [step_b] at h
            cases e : step b q with
            | none => rw [e] at h; cases h
            | some v => rw [e] at h; cases h; rfl
        | .a :: q, h, _ =>
          rw [step_a] at h
          cases e : step a q with
          | none => rw [e] at h; cases h
          | some v => rw [e] at h; cases h; rfl
    | false =>
      match q, h, hn with
      | [], h, _ =>
        cases f with
        | lam k b => cases hf
        | var n => simp [step] at h
        | app f x => simp [step] at h
      | .b :: q, h, _ => simp [step] at h
      | .f :: q, h, hn =>
        rw [step_f] at h
        cases e : step f q with
        | none => rw [e] at h; cases h
        | some v =>
          rw [e] at h
          cases h
          rcases head_app hf hp with ⟨p', rfl, hp'⟩ | ⟨e0, _⟩
          · have ne : q ≠ p' := fun z => hn (by rw [z])
            have ih := first_stays f q v p' m e hp' ne
            refine head_app_f ?_ ih
            by_cases hq : q = []
            · subst hq
              cases f with
              | var n => simp [step] at e
              | lam k b => cases hf
              | app f x =>
                cases f with
                | var n => simp [step] at e
                | app f y => simp [step] at e
                | lam k b =>
                  have e0 : ([], k) = (p', m) := by simpa [rdx, headLab] using hp'
                  cases e0
                  exact absurd rfl ne
            · exact step_root e hf hq
          · obtain ⟨m', hm⟩ := some_step e
            rw [e0] at hm
            cases hm
      | .a :: q, h, hn =>
        rw [step_a] at h
        cases e : step a q with
        | none => rw [e] at h; cases h
        | some v =>
          rw [e] at h
          cases h
          rcases head_app hf hp with ⟨p', rfl, hp'⟩ | ⟨e0, p', rfl, hp'⟩
          · exact head_app_f hf hp'
          · exact head_app_a hf e0 (first_stays a q v p' m e hp' fun z => hn (by rw [z]))

/-- the step at the first redex and the development of others -/
theorem first_dev {k : L → Bool} : ∀ (t : Tm L) (q : Place) (m : L) (u : Tm L), (rdx t).head? = some (q, m) → k m = false → good k t → step t q = some u → step (dev k t) q = some (dev k u)
  | .var n, q, m, u, h, _, _, _ => by cases h
  | .lam l b, q, m, u, h, hm, hg, hs => by
    obtain ⟨q', rfl, h'⟩ := head_at.mp h
    rw [step_b] at hs
    cases e : step b q' with
    | none => rw [e] at hs; cases hs
    | some v =>
      rw [e] at hs
      cases hs
      show step (.lam l (dev k b)) (.b :: q') = _
      rw [step_b, first_dev b q' m v h' hm hg.2 e]
      rfl
  | .app f a, q, m, u, h, hm, hg, hs => by
    have y := good_app.mp hg
    cases hf : isLam f with
    | true =>
      cases f with
      | var n => cases hf
      | app f x => cases hf
      | lam l b =>
        have e0 : ([], l) = (q, m) := by simpa [rdx, headLab] using h
        cases e0
        rw [step_nil] at hs
        cases hs
        show step (if k m = true then put (dev k a) 0 (dev k b) else .app (.lam m (dev k b)) (dev k a)) [] = _
        rw [if_neg (by rw [hm]; exact Bool.false_ne_true), step_nil, dev_put y.2 b 0 y.1]
    | false =>
      rw [dev_app hf]
      rcases head_app hf h with ⟨q', rfl, h'⟩ | ⟨e0, q', rfl, h'⟩
      · rw [step_f] at hs ⊢
        cases e : step f q' with
        | none => rw [e] at hs; cases hs
        | some v =>
          rw [e] at hs
          cases hs
          rw [first_dev f q' m v h' hm (y.1.of hf) e, dev_good ((good_step f q' v e).1 (y.1.of hf))]
          rfl
      · rw [step_a] at hs ⊢
        cases e : step a q' with
        | none => rw [e] at hs; cases hs
        | some v =>
          rw [e] at hs
          cases hs
          rw [first_dev a q' m v h' hm y.2 e, dev_app hf]
          rfl

/-! ### the redexes of a label, the last one first, are a road to the development -/
def wm (k : L → Bool) (t : Tm L) : List Place := ((rdx t).filter fun x => k x.2).map (·.1)
theorem follow_append : ∀ (r s : List Place) (t : Tm L), follow_ t (r ++ s) = (follow_ t r).bind fun u => follow_ u s
  | [], s, t => rfl
  | p :: r, s, t => by
    show (step t p).bind (fun u => follow_ u (r ++ s)) = ((step t p).bind fun u => follow_ u r).bind fun u => follow_ u s
    cases step t p with
    | none => rfl
    | some v => exact follow_append r s v
theorem follow_b {m : L} : ∀ (r : List Place) (b : Tm L), follow_ (.lam m b) (r.map (Dr.b :: ·)) = (follow_ b r).map (.lam m)
  | [], b => rfl
  | p :: r, b => by
    show (step (.lam m b) (.b :: p)).bind (fun u => follow_ u (r.map (Dr.b :: ·))) = ((step b p).bind fun u => follow_ u r).map (.lam m)
    rw [step_b]
    cases step b p with
    | none => rfl
    | some v => exact follow_b r v
theorem follow_f {a : Tm L} : ∀ (r : List Place) (f : Tm L), follow_ (.app f a) (r.map (Dr.f :: ·)) = (follow_ f r).map fun f' => .app f' a
  | [], b => rfl
  | p :: r, f => by
    show (step (.app f a) (.f :: p)).bind (fun u => follow_ u (r.map (Dr.f :: ·))) = ((step f p).bind fun u => follow_ u r).map fun f' => .app f' a
    rw [step_f]
    cases step f p with
    | none => rfl
    | some v => exact follow_f r v
theorem follow_a {f : Tm L} : ∀ (r : List Place) (a : Tm L), follow_ (.app f a) (r.map (Dr.a :: ·)) = (follow_ a r).map fun a' => .app f a'
  | [], b => rfl
  | p :: r, a => by
    show (step (.app f a) (.a :: p)).bind (fun u => follow_ u (r.map (Dr.a :: ·))) = ((step a p).bind fun u => follow_ u r).map fun a' => .app f a'
    rw [step_a]
    cases step a p with
    | none => rfl
    | some v => exact follow_a r v
theorem head_lam {k : L → Bool} {m : L} {b : Tm L} : ((headLab (.lam m b)).filter fun x => k x.2).map (·.1) = if k m = true then [[]] else [] := by
  unfold headLab
  rw [List.filter_cons]
  split <;> rfl
theorem wm_at {k : L → Bool} {d : Dr} {l : List (Place × L)} : ((at_ d l).filter fun x => k x.2).map (·.1) = ((l.filter fun x => k x.2).map (·.1)).map (d :: ·) := by
  induction l with
  | nil => rfl
  | cons x r ih =>
    have e : at_ d (x :: r) = (d :: x.1, x.2) :: at_ d r := rfl
    rw [e, List.filter_cons, List.filter_cons]
    show (if k x.2 = true then _ else _ : List (Place × L)).map (·.1) = _
    split
    · rw [List.map_cons, List.map_cons, List.map_cons, ih]
    · exact ih
theorem wm_lam {k : L → Bool} {m : L} {b : Tm L} : wm k (.lam m b) = (wm k b).map (Dr.b :: ·) := wm_at
theorem wm_app {k : L → Bool} {f a : Tm L} : wm k (.app f a) = ((headLab f).filter fun x => k x.2).map (·.1) ++ ((wm k f).map (Dr.f :: ·) ++ (wm k a).map (Dr.a :: ·)) := by
  unfold wm
  simp only [rdx, List.filter_append, List.map_append]
  rw [wm_at, wm_at]
theorem wm_dev {k : L → Bool} : ∀ t : Tm L, follow_ t (wm k t).reverse = some (dev k t)
  | .var n => rfl
  | .lam m b => by
    rw [wm_lam, ← List.map_reverse, follow_b, wm_dev b]
    rfl
  | .app f a => by
    rw [wm_app, List.reverse_append, List.reverse_append, List.append_assoc, follow_append, ← List.map_reverse, follow_a, wm_dev a]
    show follow_ (.app f (dev k a)) _ = _
    rw [follow_append, ← List.map_reverse, follow_f, wm_dev f]
    show follow_ (.app (dev k f) (dev k a)) _ = _
    cases f with
    | var n => rfl
    | app f x => rfl
    | lam m b =>
      rw [head_lam]
      show follow_ (.app (.lam m (dev k b)) (dev k a)) _ = some (if k m = true then put (dev k a) 0 (dev k b) else .app (.lam m (dev k b)) (dev k a))
      split
      · show (step (.app (.lam m (dev k b)) (dev k a)) []).bind _ = _
        rw [step_nil]
        rfl
      · rfl

/-! ### labels that stand once -/
def labs : Tm L → List L
  | .var _ => []
  | .lam m b => m :: labs b
  | .app f a => labs f ++ labs a
theorem none_of {k : L → Bool} : ∀ t : Tm L, (labs t).countP k = 0 → good k t ∧ wm k t = []
  | .var n, _ => ⟨True.intro, rfl⟩
  | .lam m b, h => by
    simp only [labs, List.countP_cons] at h
    have h1 : (labs b).countP k = 0 := by omega
    have h2 : k m = false := by
      cases e : k m with
      | false => rfl
      | true => rw [e] at h; simp at h
    have ih := none_of b h1
    exact ⟨⟨h2, ih.1⟩, by rw [wm_lam, ih.2]; rfl⟩
  | .app f a, h => by
    simp only [labs, List.countP_append] at h
    have ih1 := none_of (k := k) f (by omega)
    have ih2 := none_of (k := k) a (by omega)
    refine ⟨good_app.mpr ⟨ih1.1.F, ih2.1⟩, ?_⟩
    rw [wm_app, ih1.2, ih2.2]
    cases f with
    | var n => rfl
    | app f x => rfl
    | lam m b =>
      rw [head_lam, ih1.1.1]
      rfl
theorem mem_labs : ∀ (t : Tm L) (q : Place) (m : L), (q, m) ∈ rdx t → m ∈ labs t
  | .var n, q, m, h => by cases h
  | .lam l b, q, m, h => by
    obtain ⟨q', _, h'⟩ := mem_at.mp h
    exact List.mem_cons_of_mem _ (mem_labs b q' m h')
  | .app f a, q, m, h => by
    rcases List.mem_append.mp h with h | h
    · cases f with
      | var n => cases h
      | app f x => cases h
      | lam l b =>
        have e : (q, m) = ([], l) := by simpa [headLab] using h
        cases e
        exact List.mem_append_left _ List.mem_cons_self
    · rcases List.mem_append.mp h with h | h
      · obtain ⟨q', _, h'⟩ := mem_at.mp h
        exact List.mem_append_left _ (mem_labs f q' m h')
      · obtain ⟨q', _, h'⟩ := mem_at.mp h
        exact List.mem_append_right _ (mem_labs a q' m h')
theorem pos_of {k : L → Bool} {t : Tm L} {q : Place} {m : L} (h : (q, m) ∈ rdx t) (hm : k m = true) : 0 < (labs t).countP k := List.countP_pos_iff.mpr ⟨m, mem_labs t q m h, hm⟩
theorem once_of {k : L → Bool} : ∀ (t : Tm L) (q : Place) (m : L), (q, m) ∈ rdx t → k m = true → (labs t).countP k ≤ 1 → good k t ∧ wm k t = [q]
  | .var n, q, m, h, _, _ => by cases h
  | .lam l b, q, m, h, hm, hc => by
    obtain ⟨q', rfl, h'⟩ := mem_at.mp h
    have hp := pos_of h' hm
    simp only [labs, List.countP_cons] at hc
    have h2 : k l = false := by
      cases e : k l with
      | false => rfl
      | true => rw [e, if_pos rfl] at hc; omega
    have ih := once_of b q' m h' hm (by omega)
    exact ⟨⟨h2, ih.1⟩, by rw [wm_lam, ih.2]; rfl⟩
  | .app f a, q, m, h, hm, hc => by
    simp only [labs, List.countP_append] at hc
    rcases List.mem_append.mp h with h | h
    · cases f with
      | var n => cases h
      | app f x => cases h
      | lam l b =>
        have e : (q, m) = ([], l) := by simpa [headLab] using h
        cases e
        simp only [labs, List.countP_cons, if_pos hm] at hc
        have ih1 := none_of (k := k) b (by omega)
        have ih2 := none_of (k := k) a (by omega)
        refine ⟨⟨ih1.1, ih2.1⟩, ?_⟩
        rw [wm_app, wm_lam, ih1.2, ih2.2, head_lam, hm]
        rfl
    · rcases List.mem_append.mp h with h | h
      · obtain ⟨q', rfl, h'⟩ := mem_at.mp h
        have hp := pos_of h' hm
        have ih1 := once_of f q' m h' hm (by omega)
        have ih2 := none_of a (k := k) (by omega)
        refine ⟨good_app.mpr ⟨ih1.1.F, ih2.1⟩, ?_⟩
        rw [wm_app, ih1.2, ih2.2]
        cases f with
        | var n => rfl
        | app f x => rfl
        | lam l b =>
          rw [head_lam, ih1.1.1]
          rfl
      · obtain ⟨q', rfl, h'⟩ := mem_at.mp h
        have hp := pos_of h' hm
        have ih1 := none_of f (k := k) (by omega)
        have ih2 := once_of a q' m h' hm (by omega)
        refine ⟨good_app.mpr ⟨ih1.1.F, ih2.1⟩, ?_⟩
        rw [wm_app, ih1.2, ih2.2]
        cases f with
        | var n => rfl
        | app f x => rfl
        | lam l b =>
          rw [head_lam, ih1.1.1]
          rfl
/-- THE DIAMOND: p the first redex, q another one whose label (by k) stands once -/
theorem diamond {k : L → Bool} {t t0 t1 : Tm L} {p q : Place} {mp mq : L} (hp : (rdx t).head? = some (p, mp)) (hq : (q, mq) ∈ rdx t) (hk : k mq = true) (hc : (labs t).countP k ≤ 1) (ne : q ≠ p)
    (h0 : step t p = some t0) (h1 : step t q = some t1) : ∃ u, follow_ t0 (wm k t0).reverse = some u ∧ step t1 p = some u := by
  obtain ⟨g, w⟩ := once_of t q mq hq hk hc
  have hkp : k mp = false := by
    cases e : k mp with
    | false => rfl
    | true =>
      have hm : (p, mp) ∈ rdx t := List.mem_of_mem_head? hp
      have h2 : p ∈ wm k t := List.mem_map.mpr ⟨(p, mp), List.mem_filter.mpr ⟨hm, e⟩, rfl⟩
      rw [w] at h2
      exact absurd (List.mem_singleton.mp h2).symm ne
  have d := wm_dev (k := k) t
  rw [w] at d
  have d' : (step t q).bind (fun u => some u) = some (dev k t) := d
  rw [h1] at d'
  have e1 : t1 = dev k t := Option.some.inj d'
  refine ⟨dev k t0, wm_dev t0, ?_⟩
  rw [e1]
  exact first_dev t p mp t0 hp hkp g h0

/-! ### labels changed -/
def relab {M : Type} (g : L → M) : Tm L → Tm M
  | .var n => .var n
  | .lam m b => .lam (g m) (relab g b)
  | .app f a => .app (relab g f) (relab g a)
section
variable {M : Type} {g : L → M}
theorem relab_lift {c : Nat} : ∀ (t : Tm L) (d : Nat), relab g (lift c d t) = lift c d (relab g t)
  | .var n, d => rfl
  | .lam m b, d => by simp only [lift, relab]; rw [relab_lift b]
  | .app f a, d => by simp only [lift, relab]; rw [relab_lift f, relab_lift a]
theorem relab_put {v : Tm L} : ∀ (t : Tm L) (d : Nat), relab g (put v d t) = put (relab g v) d (relab g t)
  | .var n, d => by
    simp only [put, relab]
    split
    · rfl
    · split
      · exact relab_lift v 0
      · rfl
  | .lam m b, d => by simp only [put, relab]; rw [relab_put b]
  | .app f a, d => by simp only [put, relab]; rw [relab_put f, relab_put a]
theorem relab_step : ∀ (t : Tm L) (q : Place), step (relab g t) q = (step t q).map (relab g)
  | .var n, q => by simp [relab, step]
  | .lam m b, q => by
    match q with
    | [] => simp [relab, step]
    | .f :: q => simp [relab, step]
    | .a :: q => simp [relab, step]
    | .b :: q =>
      show step (.lam (g m) (relab g b)) (.b :: q) = _
      rw [step_b, step_b, relab_step b q]
      cases step b q <;> rfl
  | .app f a, q => by
    match q with
    | [] =>
      cases f with
      | var n => simp [relab, step]
      | app f x => simp [relab, step]
      | lam m b =>
        show step (.app (.lam (g m) (relab g b)) (relab g a)) [] = _
        rw [step_nil, step_nil]
        show _ = some (relab g (put a 0 b))
        rw [relab_put]
    | .b :: q => simp [relab, step]
    | .f :: q =>
      show step (.app (relab g f) (relab g a)) (.f :: q) = _
      rw [step_f, step_f, relab_step f q]
      cases step f q <;> rfl
    | .a :: q =>
      show step (.app (relab g f) (relab g a)) (.a :: q) = _
      rw [step_a, step_a, relab_step a q]
      cases step a q <;> rfl
theorem relab_follow : ∀ (r : List Place) (t : Tm L), follow_ (relab g t) r = (follow_ t r).map (relab g)
  | [], t => rfl
  | p :: r, t => by
    show (step (relab g t) p).bind _ = ((step t p).bind _).map _
    rw [relab_step]
    cases step t p with
    | none => rfl
    | some v => exact relab_follow r v
theorem relab_at {d : Dr} {l : List (Place × L)} : (at_ d l).map (fun x => (x.1, g x.2)) = at_ d (l.map fun x => (x.1, g x.2)) := by
  unfold at_
  rw [List.map_map, List.map_map]
  rfl
theorem relab_rdx : ∀ t : Tm L, rdx (relab g t) = (rdx t).map fun x => (x.1, g x.2)
  | .var n => rfl
  | .lam m b => by
    show at_ .b (rdx (relab g b)) = _
    rw [relab_rdx b]
    exact relab_at.symm
  | .app f a => by
    show headLab (relab g f) ++ (at_ .f (rdx (relab g f)) ++ at_ .a (rdx (relab g a))) = (headLab f ++ (at_ .f (rdx f) ++ at_ .a (rdx a))).map _
    rw [relab_rdx f, relab_rdx a, List.map_append, List.map_append, relab_at, relab_at]
    cases f <;> rfl
end

/-! ### roads of first redexes -/
/-- n steps at the first redex -/
inductive Fst : Nat → Tm L → Tm L → Prop where
  | nil (t : Tm L) : Fst 0 t t
  | cons {n : Nat} {t u v : Tm L} {p : Place} {m : L} (h : (rdx t).head? = some (p, m)) (s : step t p = some u) (k : Fst n u v) : Fst (n + 1) t v
theorem Fst.snoc {n : Nat} {t u v : Tm L} {p : Place} {m : L} (k : Fst n t u) (h : (rdx u).head? = some (p, m)) (s : step u p = some v) : Fst (n + 1) t v := by
  induction k with
  | nil t => exact .cons h s (.nil _)
  | cons h' s' _ ih => exact .cons h' s' (ih h s)
theorem Fst.pars {n : Nat} {t u : Tm L} (k : Fst n t u) : Pars t u := by
  induction k with
  | nil t => exact .nil _
  | cons h s _ ih => exact .cons (step_par s) ih
theorem Fst.same {n m : Nat} {t u v : Tm L} (h : Fst n t u) (k : Fst m t v) (nu : normal_ u) (nv : normal_ v) : n = m := by
  induction h generalizing m with
  | nil t =>
    cases k with
    | nil => rfl
    | cons h s _ =>
      unfold normal_ at nu
      rw [nu] at h
      cases h
  | cons h s _ ih =>
    cases k with
    | nil =>
      unfold normal_ at nv
      rw [nv] at h
      cases h
    | cons h' s' k' =>
      rw [h] at h'
      cases h'
      rw [s] at s'
      cases s'
      rw [ih k' nu]
end
end Lyd

set_option Elab.async false
set_option linter.all false
/-! Terms as lists of nodes. -/
namespace Lyd
open PySem L2
abbrev T := Tm V
def flat : T → List V
  | .var n => [.int (n : Nat)]
  | .lam m b => m :: flat b
  | .app f a => .str "app" :: (flat f ++ flat a)
def root : T → V
  | .var n => .int (n : Nat)
  | .lam m _ => m
  | .app _ _ => .str "app"
abbrev sz (t : T) : Nat := (flat t).length
theorem flat_root : ∀ t : T, ∃ r, flat t = root t :: r
  | .var n => ⟨[], rfl⟩
  | .lam m b => ⟨flat b, rfl⟩
  | .app f a => ⟨flat f ++ flat a, rfl⟩
theorem sz_pos (t : T) : 0 < sz t := by
  obtain ⟨r, e⟩ := flat_root t
  show 0 < (flat t).length
  rw [e]
  exact Nat.succ_pos _
theorem sz_lam {m : V} {b : T} : sz (.lam m b) = sz b + 1 := rfl
theorem sz_app {f a : T} : sz (.app f a) = sz f + sz a + 1 := by
  show (V.str "app" :: (flat f ++ flat a)).length = _
  rw [List.length_cons, List.length_append]

/-! ### the parts in order, each with a datum that goes down with it -/
section
variable {α : Type} (cb cf ca : α → α)
def nds : α → T → List (α × T)
  | d, .var n => [(d, .var n)]
  | d, .lam m b => (d, .lam m b) :: nds (cb d) b
  | d, .app f a => (d, .app f a) :: (nds (cf d) f ++ nds (ca d) a)
def kidsP (d : α) : T → List (α × T)
  | .var _ => []
  | .lam _ b => [(cb d, b)]
  | .app f a => [(cf d, f), (ca d, a)]
def flatP (P : List (α × T)) : List V := (P.map fun x => flat x.2).flatten
def ndsP (P : List (α × T)) : List (α × T) := (P.map fun x => nds cb cf ca x.1 x.2).flatten
variable {cb cf ca}
theorem nds_len : ∀ (t : T) (d : α), (nds cb cf ca d t).length = sz t
  | .var n, d => rfl
  | .lam m b, d => by
    show (nds cb cf ca (cb d) b).length + 1 = sz b + 1
    rw [nds_len b]
  | .app f a, d => by
    show (nds cb cf ca (cf d) f ++ nds cb cf ca (ca d) a).length + 1 = _
    rw [List.length_append, nds_len f, nds_len a, sz_app]
theorem flatP_cons {x : α × T} {P : List (α × T)} : flatP (x :: P) = flat x.2 ++ flatP P := by
  unfold flatP
  rw [List.map_cons, List.flatten_cons]
theorem ndsP_cons {x : α × T} {P : List (α × T)} : ndsP cb cf ca (x :: P) = nds cb cf ca x.1 x.2 ++ ndsP cb cf ca P := by
  unfold ndsP
  rw [List.map_cons, List.flatten_cons]
theorem flatP_nil : flatP ([] : List (α × T)) = [] := rfl
theorem ndsP_nil : ndsP cb cf ca [] = [] := rfl
theorem flatP_eq_nil {P : List (α × T)} (h : flatP P = []) : P = [] := by
  cases P with
  | nil => rfl
  | cons x P =>
    rw [flatP_cons] at h
    have := (List.append_eq_nil_iff.mp h).1
    obtain ⟨r, e⟩ := flat_root x.2
    rw [e] at this
    cases this
/-- one node is taken from the front -/
theorem pend_step {P : List (α × T)} {x : V} {r : List V} (h : flatP P = x :: r) :
    ∃ d s P', P = (d, s) :: P' ∧ x = root s ∧ flatP (kidsP cb cf ca d s ++ P') = r ∧ ndsP cb cf ca P = (d, s) :: ndsP cb cf ca (kidsP cb cf ca d s ++ P') := by
  cases P with
  | nil => cases h
  | cons y P' =>
    obtain ⟨d, s⟩ := y
    rw [flatP_cons] at h
    refine ⟨d, s, P', rfl, ?_⟩
    cases s with
    | var n =>
      have h' : V.int (n : Nat) :: flatP P' = x :: r := h
      injection h' with e1 e2
      exact ⟨e1.symm, e2, by rw [ndsP_cons]; rfl⟩
    | lam m b =>
      have h' : m :: (flat b ++ flatP P') = x :: r := h
      injection h' with e1 e2
      refine ⟨e1.symm, ?_, ?_⟩
      · show flatP ((cb d, b) :: P') = r
        rw [flatP_cons]
        exact e2
      · rw [ndsP_cons]
        show (d, Tm.lam m b) :: (nds cb cf ca (cb d) b ++ _) = _ :: ndsP cb cf ca ((cb d, b) :: P')
        rw [ndsP_cons]
    | app f a =>
      have h' : V.str "app" :: ((flat f ++ flat a) ++ flatP P') = x :: r := h
      injection h' with e1 e2
      refine ⟨e1.symm, ?_, ?_⟩
      · show flatP ((cf d, f) :: (ca d, a) :: P') = r
        rw [flatP_cons, flatP_cons, ← List.append_assoc]
        exact e2
      · rw [ndsP_cons]
        show (d, Tm.app f a) :: ((nds cb cf ca (cf d) f ++ nds cb cf ca (ca d) a) ++ _) = _ :: ndsP cb cf ca ((cf d, f) :: (ca d, a) :: P')
        rw [ndsP_cons, ndsP_cons, List.append_assoc]
/-- the part with the number j stands in the term's list at j -/
theorem nds_at : ∀ (t : T) (d : α) (j : Nat) (x : α) (s : T), (nds cb cf ca d t)[j]? = some (x, s) → ∃ pre post, flat t = pre ++ (flat s ++ post) ∧ pre.length = j
  | .var n, d, j, x, s, h => by
    cases j with
    | zero =>
      have e : (d, Tm.var n) = (x, s) := Option.some.inj h
      cases e
      exact ⟨[], [], rfl, rfl⟩
    | succ j => simp [nds] at h
  | .lam m b, d, j, x, s, h => by
    cases j with
    | zero =>
      have e : (d, Tm.lam m b) = (x, s) := Option.some.inj h
      cases e
      exact ⟨[], [], by simp, rfl⟩
    | succ j =>
      obtain ⟨pre, post, e, l⟩ := nds_at b (cb d) j x s h
      exact ⟨m :: pre, post, by show m :: flat b = _; rw [e]; rfl, by rw [List.length_cons, l]⟩
  | .app f a, d, j, x, s, h => by
    cases j with
    | zero =>
      have e : (d, Tm.app f a) = (x, s) := Option.some.inj h
      cases e
      exact ⟨[], [], by simp, rfl⟩
    | succ j =>
      have h' : (nds cb cf ca (cf d) f ++ nds cb cf ca (ca d) a)[j]? = some (x, s) := h
      by_cases c : j < (nds cb cf ca (cf d) f).length
      · rw [List.getElem?_append_left c] at h'
        obtain ⟨pre, post, e, l⟩ := nds_at f (cf d) j x s h'
        refine ⟨V.str "app" :: pre, post ++ flat a, ?_, by rw [List.length_cons, l]⟩
        show V.str "app" :: (flat f ++ flat a) = _
        rw [e]
        simp
      · rw [List.getElem?_append_right (Nat.le_of_not_lt c)] at h'
        obtain ⟨pre, post, e, l⟩ := nds_at a (ca d) _ x s h'
        rw [nds_len] at c l
        refine ⟨V.str "app" :: (flat f ++ pre), post, ?_, ?_⟩
        · show V.str "app" :: (flat f ++ flat a) = _
          rw [e]
          simp
        · rw [List.length_cons, List.length_append, l]
          show (flat f).length + (j - (flat f).length) + 1 = j + 1
          have : ¬ j < (flat f).length := c
          omega
end

/-! ### the depths, lifting and putting on lists -/
def dns (d : Nat) (t : T) : List (Nat × T) := nds (· + 1) (fun x => x) (fun x => x) d t
def deps (d : Nat) (t : T) : List Nat := (dns d t).map (·.1)
theorem deps_len (t : T) (d : Nat) : (deps d t).length = sz t := by
  unfold deps dns
  rw [List.length_map, nds_len]
theorem deps_lam {m : V} {b : T} {d : Nat} : deps d (.lam m b) = d :: deps (d + 1) b := rfl
theorem deps_app {f a : T} {d : Nat} : deps d (.app f a) = d :: (deps d f ++ deps d a) := by
  unfold deps dns
  simp only [nds, List.map_cons, List.map_append]
/-- lam labels are no numbers -/
def Labd (t : T) : Prop := ∀ m ∈ labs t, ∀ i, m ≠ V.int i
def liftN (c : Nat) (x : V) (d : Nat) : V := match x with
  | .int i => if i < (d : Nat) then .int i else .int (i + (c : Nat))
  | v => v
theorem liftN_lab {c : Nat} {m : V} {d : Nat} (h : ∀ i, m ≠ V.int i) : liftN c m d = m := by
  cases m with
  | int i => exact absurd rfl (h i)
  | _ => rfl
theorem zip_append {α β γ : Type} (f : α → β → γ) : ∀ (a b : List α) (c d : List β), a.length = c.length → List.zipWith f (a ++ b) (c ++ d) = List.zipWith f a c ++ List.zipWith f b d
  | [], b, [], d, _ => rfl
  | x :: a, b, y :: c, d, h => by
    show f x y :: List.zipWith f (a ++ b) (c ++ d) = _
    rw [zip_append f a b c d (by simpa using h)]
    rfl
  | [], b, y :: c, d, h => by cases h
  | x :: a, b, [], d, h => by cases h
theorem lift_flat {c : Nat} : ∀ (t : T) (d : Nat), Labd t → List.zipWith (liftN c) (flat t) (deps d t) = flat (lift c d t)
  | .var n, d, _ => by
    show [liftN c (.int (n : Nat)) d] = [.int ((if n < d then n else n + c : Nat) : Nat)]
    unfold liftN
    by_cases h : n < d
    · rw [if_pos h]
      simp only [Int.ofNat_lt, h, if_true]
    · rw [if_neg h]
      simp only [Int.ofNat_lt, h, if_false]
      rw [Int.natCast_add]
  | .lam m b, d, h => by
    rw [deps_lam]
    show liftN c m d :: List.zipWith (liftN c) (flat b) (deps (d + 1) b) = m :: flat (lift c (d + 1) b)
    rw [lift_flat b (d + 1) fun x hx => h x (List.mem_cons_of_mem _ hx), liftN_lab (h m List.mem_cons_self)]
  | .app f a, d, h => by
    rw [deps_app]
    show V.str "app" :: List.zipWith (liftN c) (flat f ++ flat a) (deps d f ++ deps d a) = V.str "app" :: (flat (lift c d f) ++ flat (lift c d a))
    rw [zip_append _ _ _ _ _ (deps_len f d).symm, lift_flat f d fun x hx => h x (List.mem_append_left _ hx), lift_flat a d fun x hx => h x (List.mem_append_right _ hx)]
def putN (v : T) (x : V) (d : Nat) : List V := match x with
  | .int i => if i < (d : Nat) then [.int i] else if i = (d : Nat) then flat (lift d 0 v) else [.int (i - 1)]
  | u => [u]
theorem putN_lab {v : T} {m : V} {d : Nat} (h : ∀ i, m ≠ V.int i) : putN v m d = [m] := by
  cases m with
  | int i => exact absurd rfl (h i)
  | _ => rfl
theorem put_flat {v : T} : ∀ (t : T) (d : Nat), Labd t → (List.zipWith (putN v) (flat t) (deps d t)).flatten = flat (put v d t)
  | .var n, d, _ => by
    show [putN v (.int (n : Nat)) d].flatten = flat (if n < d then .var n else if n = d then lift d 0 v else .var (n - 1))
    unfold putN
    by_cases h : n < d
    · rw [if_pos h]
      simp only [Int.ofNat_lt, h, if_true]
      rfl
    · rw [if_neg h]
      by_cases h2 : n = d
      · rw [if_pos h2]
        simp [h2]
      · rw [if_neg h2]
        simp only [Int.ofNat_lt, h, if_false]
        have h3 : ¬ (n : Int) = (d : Int) := by omega
        rw [if_neg h3]
        show [V.int ((n : Int) - 1)] = [V.int ((n - 1 : Nat) : Nat)]
        congr 2
        omega
  | .lam m b, d, h => by
    rw [deps_lam]
    show (putN v m d :: List.zipWith (putN v) (flat b) (deps (d + 1) b)).flatten = m :: flat (put v (d + 1) b)
    rw [List.flatten_cons, put_flat b (d + 1) fun x hx => h x (List.mem_cons_of_mem _ hx), putN_lab (h m List.mem_cons_self)]
    rfl
  | .app f a, d, h => by
    rw [deps_app]
    show ([V.str "app"] :: List.zipWith (putN v) (flat f ++ flat a) (deps d f ++ deps d a)).flatten = V.str "app" :: (flat (put v d f) ++ flat (put v d a))
    rw [List.flatten_cons, zip_append _ _ _ _ _ (deps_len f d).symm, List.flatten_append, put_flat f d fun x hx => h x (List.mem_append_left _ hx), put_flat a d fun x hx => h x (List.mem_append_right _ hx)]
    rfl

/-! ### places -/
def pns (p : Place) (t : T) : List (Place × T) := nds (· ++ [Dr.b]) (· ++ [Dr.f]) (· ++ [Dr.a]) p t
def ix : T → Place → Option (Nat × T)
  | t, [] => some (0, t)
  | .lam _ b, .b :: p => (ix b p).map fun r => (r.1 + 1, r.2)
  | .app f _, .f :: p => (ix f p).map fun r => (r.1 + 1, r.2)
  | .app f a, .a :: p => (ix a p).map fun r => (r.1 + 1 + sz f, r.2)
  | _, _ => none
theorem ix_nil {t : T} : ix t [] = some (0, t) := by cases t <;> rfl
theorem ix_b {m : V} {b : T} {p : Place} : ix (.lam m b) (.b :: p) = (ix b p).map fun r => (r.1 + 1, r.2) := rfl
theorem ix_f {f a : T} {p : Place} : ix (.app f a) (.f :: p) = (ix f p).map fun r => (r.1 + 1, r.2) := rfl
theorem ix_a {f a : T} {p : Place} : ix (.app f a) (.a :: p) = (ix a p).map fun r => (r.1 + 1 + sz f, r.2) := rfl
/-- the part at a place, as it stands in the list -/
theorem ix_split : ∀ (p : Place) (t : T) (i : Nat) (s : T), ix t p = some (i, s) → ∃ pre post, flat t = pre ++ (flat s ++ post) ∧ pre.length = i
  | [], t, i, s, h => by
    rw [ix_nil] at h
    cases h
    exact ⟨[], [], by simp, rfl⟩
  | d :: p, .var n, i, s, h => by cases d <;> cases h
  | .b :: p, .lam m b, i, s, h => by
    rw [ix_b] at h
    cases e : ix b p with
    | none => rw [e] at h; cases h
    | some r =>
      rw [e] at h
      cases h
      obtain ⟨pre, post, e2, l⟩ := ix_split p b r.1 r.2 e
      exact ⟨m :: pre, post, by show m :: flat b = _; rw [e2]; rfl, by rw [List.length_cons, l]⟩
  | .f :: p, .lam m b, i, s, h => by cases h
  | .a :: p, .lam m b, i, s, h => by cases h
  | .b :: p, .app f a, i, s, h => by cases h
  | .f :: p, .app f a, i, s, h => by
    rw [ix_f] at h
    cases e : ix f p with
    | none => rw [e] at h; cases h
    | some r =>
      rw [e] at h
      cases h
      obtain ⟨pre, post, e2, l⟩ := ix_split p f r.1 r.2 e
      refine ⟨V.str "app" :: pre, post ++ flat a, ?_, by rw [List.length_cons, l]⟩
      show V.str "app" :: (flat f ++ flat a) = _
      rw [e2]
      simp
  | .a :: p, .app f a, i, s, h => by
    rw [ix_a] at h
    cases e : ix a p with
    | none => rw [e] at h; cases h
    | some r =>
      rw [e] at h
      cases h
      obtain ⟨pre, post, e2, l⟩ := ix_split p a r.1 r.2 e
      refine ⟨V.str "app" :: (flat f ++ pre), post, ?_, ?_⟩
      · show V.str "app" :: (flat f ++ flat a) = _
        rw [e2]
        simp
      · rw [List.length_cons, List.length_append, l]
        show sz f + r.1 + 1 = r.1 + 1 + sz f
        omega
/-- a step on lists -/
theorem step_flat : ∀ (p : Place) (t u : T), step t p = some u → ∃ i m b a pre post, ix t p = some (i, .app (.lam m b) a) ∧ pre.length = i ∧ flat t = pre ++ (flat (.app (.lam m b) a) ++ post) ∧ flat u = pre ++ (flat (put a 0 b) ++ post)
  | [], t, u, h => by
    cases t with
    | var n => simp [step] at h
    | lam m b => simp [step] at h
    | app f a =>
      cases f with
      | var n => simp [step] at h
      | app f x => simp [step] at h
      | lam m b =>
        rw [step_nil] at h
        cases h
        exact ⟨0, m, b, a, [], [], ix_nil, rfl, by simp, by simp⟩
  | d :: p, .var n, u, h => by simp [step] at h
  | .b :: p, .lam m b, u, h => by
    rw [step_b] at h
    cases e : step b p with
    | none => rw [e] at h; cases h
    | some v =>
      rw [e] at h
      cases h
      obtain ⟨i, m', b', a', pre, post, e1, e2, e3, e4⟩ := step_flat p b v e
      refine ⟨i + 1, m', b', a', m :: pre, post, by rw [ix_b, e1]; rfl, by rw [List.length_cons, e2], ?_, ?_⟩
      · show m :: flat b = _
        rw [e3]
        rfl
      · show m :: flat v = _
        rw [e4]
        rfl
  | .f :: p, .lam m b, u, h => by simp [step] at h
  | .a :: p, .lam m b, u, h => by simp [step] at h
  | .b :: p, .app f a, u, h => by simp [step] at h
  | .f :: p, .app f a, u, h => by
    rw [step_f] at h
    cases e : step f p with
    | none => rw [e] at h; cases h
    | some v =>
      rw [e] at h
      cases h
      obtain ⟨i, m', b', a', pre, post, e1, e2, e3, e4⟩ := step_flat p f v e
      refine ⟨i + 1, m', b', a', V.str "app" :: pre, post ++ flat a, by rw [ix_f, e1]; rfl, by rw [List.length_cons, e2], ?_, ?_⟩
      · show V.str "app" :: (flat f ++ flat a) = _
        rw [e3]
        simp
      · show V.str "app" :: (flat v ++ flat a) = _
        rw [e4]
        simp
  | .a :: p, .app f a, u, h => by
    rw [step_a] at h
    cases e : step a p with
    | none => rw [e] at h; cases h
    | some v =>
      rw [e] at h
      cases h
      obtain ⟨i, m', b', a', pre, post, e1, e2, e3, e4⟩ := step_flat p a v e
      refine ⟨i + 1 + sz f, m', b', a', V.str "app" :: (flat f ++ pre), post, by rw [ix_a, e1]; rfl, ?_, ?_, ?_⟩
      · rw [List.length_cons, List.length_append, e2]
        show sz f + i + 1 = _
        omega
      · show V.str "app" :: (flat f ++ flat a) = _
        rw [e3]
        simp
      · show V.str "app" :: (flat f ++ flat v) = _
        rw [e4]
        simp
theorem pns_len (t : T) (p : Place) : (pns p t).length = sz t := nds_len t p
theorem pns_lam {m : V} {b : T} {p : Place} : pns p (.lam m b) = (p, .lam m b) :: pns (p ++ [Dr.b]) b := rfl
theorem pns_app {f a : T} {p : Place} : pns p (.app f a) = (p, .app f a) :: (pns (p ++ [Dr.f]) f ++ pns (p ++ [Dr.a]) a) := rfl
/-- the j-th part stands at its place -/
theorem pns_ix : ∀ (t : T) (p0 : Place) (j : Nat) (q : Place) (s : T), (pns p0 t)[j]? = some (q, s) → ∃ p, q = p0 ++ p ∧ ix t p = some (j, s)
  | .var n, p0, j, q, s, h => by
    cases j with
    | zero =>
      have e : (p0, Tm.var n) = (q, s) := Option.some.inj h
      cases e
      exact ⟨[], by simp, rfl⟩
    | succ j => simp [pns, nds] at h
  | .lam m b, p0, j, q, s, h => by
    rw [pns_lam] at h
    cases j with
    | zero =>
      have e : (p0, Tm.lam m b) = (q, s) := Option.some.inj h
      cases e
      exact ⟨[], by simp, rfl⟩
    | succ j =>
      have h' : (pns (p0 ++ [Dr.b]) b)[j]? = some (q, s) := h
      obtain ⟨p, rfl, e⟩ := pns_ix b (p0 ++ [Dr.b]) j q s h'
      exact ⟨.b :: p, by simp, by rw [ix_b, e]; rfl⟩
  | .app f a, p0, j, q, s, h => by
    rw [pns_app] at h
    cases j with
    | zero =>
      have e : (p0, Tm.app f a) = (q, s) := Option.some.inj h
      cases e
      exact ⟨[], by simp, rfl⟩
    | succ j =>
      have h' : (pns (p0 ++ [Dr.f]) f ++ pns (p0 ++ [Dr.a]) a)[j]? = some (q, s) := h
      by_cases c : j < (pns (p0 ++ [Dr.f]) f).length
      · rw [List.getElem?_append_left c] at h'
        obtain ⟨p, rfl, e⟩ := pns_ix f (p0 ++ [Dr.f]) j q s h'
        exact ⟨.f :: p, by simp, by rw [ix_f, e]; rfl⟩
      · rw [List.getElem?_append_right (Nat.le_of_not_lt c)] at h'
        obtain ⟨p, rfl, e⟩ := pns_ix a (p0 ++ [Dr.a]) _ q s h'
        refine ⟨.a :: p, by simp, ?_⟩
        rw [ix_a, e]
        rw [pns_len] at c ⊢
        show some (j - sz f + 1 + sz f, s) = some (j + 1, s)
        congr 2
        omega
theorem ix_pns : ∀ (t : T) (p0 p : Place) (j : Nat) (s : T), ix t p = some (j, s) → (pns p0 t)[j]? = some (p0 ++ p, s)
  | .var n, p0, p, j, s, h => by
    match p, h with
    | [], h => cases h; simp [pns, nds]
    | .b :: p, h => cases h
    | .f :: p, h => cases h
    | .a :: p, h => cases h
  | .lam m b, p0, p, j, s, h => by
    match p, h with
    | [], h => cases h; simp [pns, nds]
    | .f :: p, h => cases h
    | .a :: p, h => cases h
    | .b :: p, h =>
      rw [ix_b] at h
      cases e : ix b p with
      | none => rw [e] at h; cases h
      | some r =>
        rw [e] at h
        cases h
        have := ix_pns b (p0 ++ [Dr.b]) p r.1 r.2 e
        rw [pns_lam]
        show (pns (p0 ++ [Dr.b]) b)[r.1]? = _
        rw [this]
        simp
  | .app f a, p0, p, j, s, h => by
    match p, h with
    | [], h => cases h; simp [pns, nds]
    | .b :: p, h => cases h
    | .f :: p, h =>
      rw [ix_f] at h
      cases e : ix f p with
      | none => rw [e] at h; cases h
      | some r =>
        rw [e] at h
        cases h
        have q := ix_pns f (p0 ++ [Dr.f]) p r.1 r.2 e
        rw [pns_app]
        show (pns (p0 ++ [Dr.f]) f ++ pns (p0 ++ [Dr.a]) a)[r.1]? = _
        rw [List.getElem?_append_left (List.getElem?_eq_some_iff.mp q).1, q]
        simp
    | .a :: p, h =>
      rw [ix_a] at h
      cases e : ix a p with
      | none => rw [e] at h; cases h
      | some r =>
        rw [e] at h
        cases h
        have q := ix_pns a (p0 ++ [Dr.a]) p r.1 r.2 e
        rw [pns_app]
        show (_ :: (pns (p0 ++ [Dr.f]) f ++ pns (p0 ++ [Dr.a]) a))[r.1 + 1 + sz f]? = _
        rw [show r.1 + 1 + sz f = (sz f + r.1) + 1 by omega, List.getElem?_cons_succ, List.getElem?_append_right (by rw [pns_len]; omega), pns_len, show sz f + r.1 - sz f = r.1 by omega, q]
        simp
/-- the label of a redex at the root -/
def rlab : T → Option V
  | .app (.lam m _) _ => some m
  | _ => none
theorem rdx_pns : ∀ (t : T) (p0 : Place), (pns p0 t).filterMap (fun x => (rlab x.2).map fun m => (x.1, m)) = (rdx t).map fun x => (p0 ++ x.1, x.2)
  | .var n, p0 => rfl
  | .lam m b, p0 => by
    rw [pns_lam]
    show (pns (p0 ++ [Dr.b]) b).filterMap _ = (at_ .b (rdx b)).map _
    rw [rdx_pns b (p0 ++ [Dr.b])]
    unfold at_
    rw [List.map_map]
    apply List.map_congr_left
    intro x _
    simp
  | .app f a, p0 => by
    rw [pns_app]
    have e1 := rdx_pns f (p0 ++ [Dr.f])
    have e2 := rdx_pns a (p0 ++ [Dr.a])
    have f1 : ((rdx f).map fun x => (p0 ++ [Dr.f] ++ x.1, x.2)) = (at_ .f (rdx f)).map fun x => (p0 ++ x.1, x.2) := by
      unfold at_
      rw [List.map_map]
      apply List.map_congr_left
      intro x _
      simp
    have f2 : ((rdx a).map fun x => (p0 ++ [Dr.a] ++ x.1, x.2)) = (at_ .a (rdx a)).map fun x => (p0 ++ x.1, x.2) := by
      unfold at_
      rw [List.map_map]
      apply List.map_congr_left
      intro x _
      simp
    have e3 : ((p0, Tm.app f a) :: (pns (p0 ++ [Dr.f]) f ++ pns (p0 ++ [Dr.a]) a)).filterMap (fun x => (rlab x.2).map fun m => (x.1, m)) =
        ((headLab f).map fun x => (p0 ++ x.1, x.2)) ++ (pns (p0 ++ [Dr.f]) f ++ pns (p0 ++ [Dr.a]) a).filterMap (fun x => (rlab x.2).map fun m => (x.1, m)) := by
      cases f with
      | var n => rfl
      | app f x => rfl
      | lam m b => simp [rlab, headLab]
    rw [e3, List.filterMap_append, e1, e2, f1, f2]
    show _ = ((headLab f) ++ (at_ .f (rdx f) ++ at_ .a (rdx a))).map _
    rw [List.map_append, List.map_append]
theorem rdx_ix {t : T} {p : Place} {m : V} : (p, m) ∈ rdx t ↔ ∃ j b a, ix t p = some (j, .app (.lam m b) a) := by
  have e := rdx_pns t []
  have e' : (rdx t).map (fun x => (([] : Place) ++ x.1, x.2)) = rdx t := by
    have : (fun x : Place × V => (([] : Place) ++ x.1, x.2)) = id := by funext x; rfl
    rw [this, List.map_id]
  rw [e'] at e
  rw [← e, List.mem_filterMap]
  constructor
  · rintro ⟨⟨q, s⟩, hm, h⟩
    obtain ⟨j, hj⟩ := List.getElem?_of_mem hm
    obtain ⟨p', e0, hi⟩ := pns_ix t [] j q s hj
    have e0' : q = p' := e0
    rw [← e0'] at hi
    cases hr : rlab s with
    | none => rw [hr] at h; cases h
    | some m' =>
      rw [hr] at h
      have h' : (q, m') = (p, m) := Option.some.inj h
      cases h'
      cases s with
      | var n => cases hr
      | lam k b => cases hr
      | app f a =>
        cases f with
        | var n => cases hr
        | app f x => cases hr
        | lam k b =>
          cases hr
          exact ⟨j, b, a, hi⟩
  · rintro ⟨j, b, a, h⟩
    exact ⟨([] ++ p, _), List.mem_of_getElem? (ix_pns t [] p j _ h), rfl⟩

/-! ### sizes -/
theorem sz_lift {c : Nat} : ∀ (t : T) (d : Nat), sz (lift c d t) = sz t
  | .var n, d => rfl
  | .lam m b, d => by
    show sz (lift c (d + 1) b) + 1 = sz b + 1
    rw [sz_lift b]
  | .app f a, d => by
    show sz (.app (lift c d f) (lift c d a)) = _
    rw [sz_app, sz_app, sz_lift f, sz_lift a]
theorem sz_put {v : T} : ∀ (t : T) (d : Nat), sz (put v d t) ≤ sz t * sz v
  | .var n, d => by
    have hp := sz_pos v
    show sz (if n < d then .var n else if n = d then lift d 0 v else .var (n - 1)) ≤ 1 * sz v
    split
    · show 1 ≤ _
      omega
    · split
      · rw [sz_lift]
        omega
      · show 1 ≤ _
        omega
  | .lam m b, d => by
    have hp := sz_pos v
    have ih := sz_put (v := v) b (d + 1)
    show sz (put v (d + 1) b) + 1 ≤ (sz b + 1) * sz v
    rw [Nat.add_mul]
    omega
  | .app f a, d => by
    have hp := sz_pos v
    have i1 := sz_put (v := v) f d
    have i2 := sz_put (v := v) a d
    show sz (.app (put v d f) (put v d a)) ≤ _
    rw [sz_app, sz_app, Nat.add_mul, Nat.add_mul]
    omega
theorem sz_step {t u : T} {p : Place} (h : step t p = some u) : sz u ≤ sz t * sz t := by
  obtain ⟨i, m, b, a, pre, post, _, _, e3, e4⟩ := step_flat p t u h
  have l3 : sz t = pre.length + (sz b + sz a + 2 + post.length) := by
    show (flat t).length = _
    rw [e3, List.length_append, List.length_append]
    show pre.length + (sz (.app (.lam m b) a) + post.length) = _
    rw [sz_app, sz_lam]
    omega
  have l4 : sz u = pre.length + (sz (put a 0 b) + post.length) := by
    show (flat u).length = _
    rw [e4, List.length_append, List.length_append]
  have hs := sz_put (v := a) b 0
  have hm : sz b * sz a ≤ sz b * sz t := Nat.mul_le_mul_left _ (by omega)
  have hq : sz t * sz t = sz t * (pre.length + 2 + sz a + post.length) + sz t * sz b := by
    rw [← Nat.mul_add]
    congr 1
    omega
  have hc : sz b * sz t = sz t * sz b := Nat.mul_comm _ _
  have hr : pre.length + 2 + sz a + post.length ≤ sz t * (pre.length + 2 + sz a + post.length) := Nat.le_mul_of_pos_left _ (sz_pos t)
  omega
/-! ### variables -/
def vb (N : Nat) : T → Prop
  | .var n => n ≤ N
  | .lam _ b => vb N b
  | .app f a => vb N f ∧ vb N a
theorem vb_mono {N M : Nat} (h : N ≤ M) : ∀ t : T, vb N t → vb M t
  | .var n, k => Nat.le_trans k h
  | .lam m b, k => vb_mono h b k
  | .app f a, k => ⟨vb_mono h f k.1, vb_mono h a k.2⟩
theorem vb_lift {N c : Nat} : ∀ (t : T) (d : Nat), vb N t → vb (N + c) (lift c d t)
  | .var n, d, k => by
    have k' : n ≤ N := k
    show (if n < d then n else n + c) ≤ N + c
    split <;> omega
  | .lam m b, d, k => vb_lift b (d + 1) k
  | .app f a, d, k => ⟨vb_lift f d k.1, vb_lift a d k.2⟩
theorem vb_put {N : Nat} {v : T} (hv : vb N v) : ∀ (t : T) (d : Nat), vb N t → vb (N + d + sz t) (put v d t)
  | .var n, d, k => by
    have k' : n ≤ N := k
    show vb _ (if n < d then .var n else if n = d then lift d 0 v else .var (n - 1))
    split
    · show n ≤ _
      omega
    · split
      · exact vb_mono (by omega) _ (vb_lift v 0 hv)
      · show n - 1 ≤ _
        omega
  | .lam m b, d, k => by
    have ih := vb_put hv b (d + 1) k
    show vb _ (put v (d + 1) b)
    exact vb_mono (by rw [sz_lam]; omega) _ ih
  | .app f a, d, k => ⟨vb_mono (by rw [sz_app]; omega) _ (vb_put hv f d k.1), vb_mono (by rw [sz_app]; omega) _ (vb_put hv a d k.2)⟩
theorem vb_step {N : Nat} : ∀ (p : Place) (t u : T), step t p = some u → vb N t → vb (N + sz t) u
  | [], t, u, h, k => by
    cases t with
    | var n => simp [step] at h
    | lam m b => simp [step] at h
    | app f a =>
      cases f with
      | var n => simp [step] at h
      | app f x => simp [step] at h
      | lam m b =>
        rw [step_nil] at h
        cases h
        exact vb_mono (by rw [sz_app, sz_lam]; omega) _ (vb_put k.2 b 0 k.1)
  | d :: p, .var n, u, h, k => by simp [step] at h
  | .b :: p, .lam m b, u, h, k => by
    rw [step_b] at h
    cases e : step b p with
    | none => rw [e] at h; cases h
    | some v =>
      rw [e] at h
      cases h
      exact vb_mono (by rw [sz_lam]; omega) _ (vb_step p b v e k)
  | .f :: p, .lam m b, u, h, k => by simp [step] at h
  | .a :: p, .lam m b, u, h, k => by simp [step] at h
  | .b :: p, .app f a, u, h, k => by simp [step] at h
  | .f :: p, .app f a, u, h, k => by
    rw [step_f] at h
    cases e : step f p with
    | none => rw [e] at h; cases h
    | some v =>
      rw [e] at h
      cases h
      exact ⟨vb_mono (by rw [sz_app]; omega) _ (vb_step p f v e k.1), vb_mono (by omega) _ k.2⟩
  | .a :: p, .app f a, u, h, k => by
    rw [step_a] at h
    cases e : step a p with
    | none => rw [e] at h; cases h
    | some v =>
      rw [e] at h
      cases h
      exact ⟨vb_mono (by omega) _ k.1, vb_mono (by rw [sz_app]; omega) _ (vb_step p a v e k.2)⟩
/-! ### labels behind a step -/
theorem labs_lift {c : Nat} : ∀ (t : T) (d : Nat), labs (lift c d t) = labs t
  | .var n, d => rfl
  | .lam m b, d => by
    show m :: labs (lift c (d + 1) b) = _
    rw [labs_lift b]
    rfl
  | .app f a, d => by
    show labs (lift c d f) ++ labs (lift c d a) = _
    rw [labs_lift f, labs_lift a]
    rfl
theorem labs_put {v : T} : ∀ (t : T) (d : Nat) (m : V), m ∈ labs (put v d t) → m ∈ labs t ∨ m ∈ labs v
  | .var n, d, m, h => by
    have h' : m ∈ labs (if n < d then .var n else if n = d then lift d 0 v else .var (n - 1)) := h
    split at h'
    · cases h'
    · split at h'
      · rw [labs_lift] at h'
        exact .inr h'
      · cases h'
  | .lam k b, d, m, h => by
    rcases List.mem_cons.mp h with rfl | h
    · exact .inl List.mem_cons_self
    · rcases labs_put b (d + 1) m h with h | h
      · exact .inl (List.mem_cons_of_mem _ h)
      · exact .inr h
  | .app f a, d, m, h => by
    rcases List.mem_append.mp h with h | h
    · rcases labs_put f d m h with h | h
      · exact .inl (List.mem_append_left _ h)
      · exact .inr h
    · rcases labs_put a d m h with h | h
      · exact .inl (List.mem_append_right _ h)
      · exact .inr h
theorem labs_step : ∀ (p : Place) (t u : T), step t p = some u → ∀ m, m ∈ labs u → m ∈ labs t
  | [], t, u, h, m, hm => by
    cases t with
    | var n => simp [step] at h
    | lam m b => simp [step] at h
    | app f a =>
      cases f with
      | var n => simp [step] at h
      | app f x => simp [step] at h
      | lam k b =>
        rw [step_nil] at h
        cases h
        rcases labs_put b 0 m hm with h | h
        · exact List.mem_append_left _ (List.mem_cons_of_mem _ h)
        · exact List.mem_append_right _ h
  | d :: p, .var n, u, h, m, hm => by simp [step] at h
  | .b :: p, .lam k b, u, h, m, hm => by
    rw [step_b] at h
    cases e : step b p with
    | none => rw [e] at h; cases h
    | some v =>
      rw [e] at h
      cases h
      rcases List.mem_cons.mp hm with rfl | hm
      · exact List.mem_cons_self
      · exact List.mem_cons_of_mem _ (labs_step p b v e m hm)
  | .f :: p, .lam k b, u, h, m, hm => by simp [step] at h
  | .a :: p, .lam k b, u, h, m, hm => by simp [step] at h
  | .b :: p, .app f a, u, h, m, hm => by simp [step] at h
  | .f :: p, .app f a, u, h, m, hm => by
    rw [step_f] at h
    cases e : step f p with
    | none => rw [e] at h; cases h
    | some v =>
      rw [e] at h
      cases h
      rcases List.mem_append.mp hm with hm | hm
      · exact List.mem_append_left _ (labs_step p f v e m hm)
      · exact List.mem_append_right _ hm
  | .a :: p, .app f a, u, h, m, hm => by
    rw [step_a] at h
    cases e : step a p with
    | none => rw [e] at h; cases h
    | some v =>
      rw [e] at h
      cases h
      rcases List.mem_append.mp hm with hm | hm
      · exact List.mem_append_left _ hm
      · exact List.mem_append_right _ (labs_step p a v e m hm)
/-- the nodes of a term's list -/
theorem mem_flat : ∀ (t : T) (x : V), x ∈ flat t → x = .str "app" ∨ x ∈ labs t ∨ ∃ n : Nat, x = .int n
  | .var n, x, h => .inr (.inr ⟨n, List.mem_singleton.mp h⟩)
  | .lam m b, x, h => by
    rcases List.mem_cons.mp h with rfl | h
    · exact .inr (.inl List.mem_cons_self)
    · rcases mem_flat b x h with h | h | h
      · exact .inl h
      · exact .inr (.inl (List.mem_cons_of_mem _ h))
      · exact .inr (.inr h)
  | .app f a, x, h => by
    rcases List.mem_cons.mp h with rfl | h
    · exact .inl rfl
    · rcases List.mem_append.mp h with h | h
      · rcases mem_flat f x h with h | h | h
        · exact .inl h
        · exact .inr (.inl (List.mem_append_left _ h))
        · exact .inr (.inr h)
      · rcases mem_flat a x h with h | h | h
        · exact .inl h
        · exact .inr (.inl (List.mem_append_right _ h))
        · exact .inr (.inr h)
theorem int_flat {N : Nat} : ∀ (t : T) (i : Int), vb N t → Labd t → V.int i ∈ flat t → 0 ≤ i ∧ i ≤ N
  | .var n, i, k, _, h => by
    have e := List.mem_singleton.mp h
    injection e with e
    have k' : n ≤ N := k
    omega
  | .lam m b, i, k, l, h => by
    rcases List.mem_cons.mp h with e | h
    · exact absurd e.symm (l m List.mem_cons_self i)
    · exact int_flat b i k (fun x hx => l x (List.mem_cons_of_mem _ hx)) h
  | .app f a, i, k, l, h => by
    rcases List.mem_cons.mp h with e | h
    · cases e
    · rcases List.mem_append.mp h with h | h
      · exact int_flat f i k.1 (fun x hx => l x (List.mem_append_left _ hx)) h
      · exact int_flat a i k.2 (fun x hx => l x (List.mem_append_right _ hx)) h
end Lyd

set_option Elab.async false
set_option linter.all false
set_option maxRecDepth 100000
set_option maxHeartbeats 1000000
/-! Rules of our own: zip of a tuple and a list, enumerate of a tuple, extend by a tuple, max with a default, t * 1. -/
namespace Lyd
open PySem PySem.Spec PyProof.Rows L2

/-! ### what is new in the heap -/
theorem same_new {H : Hp} {p : Addr} {o : HO} (h : H p = none) : Same H (upd H p o) := fun b u e => by
  rw [upd_ne (ne_of_none e h)]
  exact e
theorem same_mut {H H' : Hp} {p : Addr} {o : HO} (s : Same H H') (h : H p = none) : Same H (upd H' p o) := fun b u e => by
  rw [upd_ne (ne_of_none e h)]
  exact s b u e
theorem same_t {K : PySem.W.Frag} {H H' : Hp} {a : Addr} {xs : List V} (e : Same H H') (h : SqT K H a xs) : SqT K H' a xs := by
  rcases h with (h | ⟨o, h⟩) | h
  · exact .inl (.inl (e _ _ h))
  · exact .inl (.inr ⟨o, e _ _ h⟩)
  · exact .inr h

/-! ### zip(t, l), t a tuple and l a list -/
def ItM (K : PySem.W.Frag) (a b : Addr) : It where
  go := fun i H => ∃ (xs ys : List V) (x y : V), SqT K H a xs ∧ SqL K H b ys ∧ xs[i]? = some x ∧ ys[i]? = some y
  yld := fun i H v H' => ∃ T x y, v = .ref T ∧ H T = none ∧ H' = upd H T (.tup [x, y]) ∧ (∀ xs, SqT K H a xs → xs[i]? = some x) ∧ ∀ ys, SqL K H b ys → ys[i]? = some y
  stop := fun i H => ∃ xs ys : List V, SqT K H a xs ∧ SqL K H b ys ∧ i = min xs.length ys.length
/-- the five records of such a zip, at turn i -/
def ZipM (a b z TI TO i1 i2 : Addr) (i : Nat) (h : Heap) : Prop :=
  IsZip h z TI TO .none ∧ IsTupOf2 h TI (.ref i1) (.ref i2) ∧ (∃ x y, IsTupOf2 h TO x y) ∧ h.IsTupleIter i1 a i ∧ h.IsListIter i2 b i
theorem turnM {P : Program} {w : World} {K : PySem.W.Frag} {elts : List Expr} {kk : Nat} {tpos : Pos} {a b z TI TO i1 i2 : Addr} (na : a ≠ i1) (nb : b ≠ i2)
    (D : ZipSep2 z TI TO i1 i2 [i1, a] [i2, b]) : Turn P w K (.Tuple elts kk tpos) (ItM K a b) [z, TI, TO, i1, i2] z (ZipM a b z TI TO i1 i2) where
  mem := List.mem_cons_self
  obj := fun i h st c hc => by
    obtain ⟨hz, hI, ⟨x, y, hO⟩, ⟨o1, e1, _, d1⟩, ⟨o2, e2, _, d2⟩⟩ := st
    simp only [List.mem_cons, List.not_mem_nil, or_false] at hc
    rcases hc with rfl | rfl | rfl | rfl | rfl
    · exact ⟨_, hz, fun v q => by cases q⟩
    · exact ⟨_, hI, fun v q => by cases q⟩
    · exact ⟨_, hO, fun v q => by cases q⟩
    · refine ⟨o1, e1, fun v q => ?_⟩
      rw [d1] at q
      cases q
    · refine ⟨o2, e2, fun v q => ?_⟩
      rw [d2] at q
      cases q
  keep := fun i h h' st k => by
    obtain ⟨hz, hI, ⟨x, y, hO⟩, h1, h2⟩ := st
    refine ⟨k z (by simp) _ hz, k TI (by simp) _ hI, ⟨x, y, k TO (by simp) _ hO⟩, h1.at fun o q => ?_, h2.at fun o q => ?_⟩
    · exact k i1 (by simp) o q
    · exact k i2 (by simp) o q
  item := by
    intro X hP hw hK hc i pins s σ H E I hf st hg
    subst hP hw hK
    obtain ⟨hz, hI, hO, h1, h2⟩ := st
    obtain ⟨xs, ys, x, y, qx, qy, hx, hy⟩ := hg
    obtain ⟨us, rv, pu, _⟩ := I.tuple qx
    obtain ⟨ws, rw', pw, _⟩ := I.list qy
    have hh := I.ok.hd hc
    have lx : i < us.toArray.size := by
      rw [List.size_toArray, ← rv.length]
      exact (List.getElem?_eq_some_iff.mp hx).1
    have ly : i < ws.toArray.size := by
      rw [List.size_toArray, ← rw'.length]
      exact (List.getElem?_eq_some_iff.mp hy).1
    have G := GoesN.zip2 (prog := X.prog) (w := X.w) (A := X.A) (elts := elts) (x1 := kk) (pos := tpos) D (Draws.tuple (A := X.A.in1) hh i1 a na us.toArray) (Draws.list (A := X.A.in1) hh i2 b nb ws.toArray)
    refine G.goes i s _ E (Nat.lt_min.mpr ⟨lx, ly⟩) ⟨hz, hI, hO, ⟨h1, pu⟩, ⟨h2, pw.isList⟩⟩ fun v h' tk hY st' hk htk => ?_
    obtain ⟨T, u1, u2, rfl, hT, e1, e2, hTT⟩ := hY
    obtain ⟨u, eu, ru⟩ := rv.get hx
    obtain ⟨u', eu', ru'⟩ := rw'.get hy
    have f1 : u1 = u := by
      rw [List.getElem?_toArray, eu] at e1
      exact (Option.some.inj e1).symm
    have f2 : u2 = u' := by
      rw [List.getElem?_toArray, eu'] at e2
      exact (Option.some.inj e2).symm
    subst f1 f2
    have hn : H T = none := I.hok.fresh hT
    have new : ObjOk X.prog X.w (upd H T (.tup [x, y])) h' T (.tup [x, y]) := ⟨by show 2 ≤ sizeLine; decide, [u1, u2], .cons ru (.cons ru' .nil), hTT⟩
    have I1 : Inv X pins σ (upd H T (.tup [x, y])) { s with heap := h', toks := tk } :=
      I.turnedNew (ch := [z, TI, TO, i1, i2]) (fun c o hb q => hk c o (fun z' => hb (by
        simp only [List.mem_cons, List.not_mem_nil, or_false] at z' ⊢
        rcases z' with z' | z' | z' | z' <;> simp [z'])) q) hf hT new
    refine ⟨.ref T, _, I1, rfl, ⟨T, x, y, rfl, hn, rfl, fun l hl => ?_, fun l hl => ?_⟩, ⟨st'.1, st'.2.1, st'.2.2.1, st'.2.2.2.1.1, st'.2.2.2.2.1⟩, fun c hcm => ?_⟩
    · rw [I.tuple_inj hl qx]
      exact hx
    · rw [I.list_inj hl qy]
      exact hy
    · have hlt : c < s.heap.objs.size := by
        obtain ⟨x0, y0, hO'⟩ := hO
        obtain ⟨_, g1, _⟩ := h1
        obtain ⟨_, g2, _⟩ := h2
        simp only [List.mem_cons, List.not_mem_nil, or_false] at hcm
        rcases hcm with rfl | rfl | rfl | rfl | rfl
        · exact Heap.lt_size hz
        · exact Heap.lt_size hI
        · exact Heap.lt_size hO'
        · exact Heap.lt_size g1
        · exact Heap.lt_size g2
      rw [upd_ne (Nat.ne_of_lt (Nat.lt_of_lt_of_le hlt hT))]
      exact (hf c hcm).1
  done := by
    intro X hP hw hK hc i pins s σ H E I hf st hg
    subst hP hw hK
    obtain ⟨hz, hI, hO, h1, h2⟩ := st
    obtain ⟨xs, ys, qx, qy, hi⟩ := hg
    obtain ⟨us, rv, pu, _⟩ := I.tuple qx
    obtain ⟨ws, rw', pw, _⟩ := I.list qy
    have hh := I.ok.hd hc
    have G := GoesN.zip2 (prog := X.prog) (w := X.w) (A := X.A) (elts := elts) (x1 := kk) (pos := tpos) D (Draws.tuple (A := X.A.in1) hh i1 a na us.toArray) (Draws.list (A := X.A.in1) hh i2 b nb ws.toArray)
    have e : i = min us.toArray.size ws.toArray.size := by
      rw [List.size_toArray, List.size_toArray, ← rv.length, ← rw'.length]
      exact hi
    refine G.stops s _ E (by rw [← e]; exact ⟨hz, hI, hO, ⟨h1, pu⟩, ⟨h2, pw.isList⟩⟩) fun h' tk hk htk => ?_
    exact I.turnedL (ch := [z, TI, TO, i1, i2]) (fun c o hb q => hk c o (fun z' => hb (by
      simp only [List.mem_cons, List.not_mem_nil, or_false] at z' ⊢
      rcases z' with z' | z' | z' | z' <;> simp [z'])) q) hf
  self := fun A i s Q E st h => wpAny_pyIter_zip st.1 h
def iZipM (K : PySem.W.Frag) (ta : TA) : TI := fun σ H R => ta σ H fun vs H1 => ∃ a b xs ys, vs = [.ref a, .ref b] ∧ SqT K H1 a xs ∧ SqL K H1 b ys ∧ R (ItM K a b) H1
theorem pi_zipM {X : Cx} {e e2 : Expr} {ta : TA} {p pos tpos : Pos} {elts : List Expr} {kk : Nat} (hg : Gl X "zip") (hm : X.mg "zip" = none) (ha : PA X [e, e2] ta)
    (hs : starEach [e, e2] X.env = (false, eval e X.env) :: starEach [e2] X.env := by rfl) (hpl : (backTo pos (starEach [e2] X.env)).any (·.1) = false := by rfl) :
    PI X (.Tuple elts kk tpos) (.Call (.Name "zip" p) [e, e2] [] pos) (iZipM X.K ta) := by
  refine ⟨fun pins s σ H R I h => ?_⟩
  refine Call_ (ld_blt I hg hm PyProof.Rows.boot_zip (PyProof.Rows.callWith_type1 (thn (ha.run pos pins s σ H _ I h) fun us s1 hh => ?_) hs hpl))
  obtain ⟨vs, H1, I1, r1, a, b, xs, ys, ex, qx, qy, q⟩ := hh
  subst ex
  obtain ⟨u1, u2, rfl, ra, rb⟩ := vals2 r1
  cases ra
  cases rb
  obtain ⟨us, rv, pu, _⟩ := I1.tuple qx
  obtain ⟨ws, rw', pw, _⟩ := I1.list qy
  have la : a < s1.heap.objs.size := pu.lt
  have lb : b < s1.heap.objs.size := pw.lt
  refine zip_begins2 (begins_tuple a us.toArray) (begins_list b ws.toArray) pu pw.isList fun h' hz hI hO g1 g2 hsz hk => wpAny_pyIter_zip hz ?_
  have I2 : Inv X pins σ H1 { s1 with heap := h' } := I1.kept (t' := s1.toks) hk
  have sep := zip_sep2 (N := s1.heap.objs.size) (fp1 := [a]) (fp2 := [b]) (fun c hc => by rw [List.mem_singleton.mp hc]; exact la) (fun c hc => by rw [List.mem_singleton.mp hc]; exact lb)
  refine ⟨s1.heap.objs.size + 4, [s1.heap.objs.size + 4, s1.heap.objs.size + 2, s1.heap.objs.size + 3, s1.heap.objs.size, s1.heap.objs.size + 1], _, _, H1, rfl, I2,
    turnM (Nat.ne_of_lt la) (Nat.ne_of_lt (Nat.lt_succ_of_lt lb)) sep, ⟨hz, hI, ⟨_, _, hO⟩, ⟨_, g1, rfl, rfl⟩, ⟨_, g2, rfl, rfl⟩⟩, fun c hcm => ?_, q⟩
  have hle : s1.heap.objs.size ≤ c := by
    simp only [List.mem_cons, List.not_mem_nil, or_false] at hcm
    rcases hcm with rfl | rfl | rfl | rfl | rfl
    · exact Nat.le_add_right _ _
    · exact Nat.le_add_right _ _
    · exact Nat.le_add_right _ _
    · exact Nat.le_refl _
    · exact Nat.le_add_right _ _
  exact I1.fpOk hle (I1.hok.fresh hle)
theorem walk_zipM {K : PySem.W.Frag} {a b : Addr} {xs ys : List V} (hn : ys.length = xs.length) : Walk (ItM K a b) xs.length (fun H => SqT K H a xs ∧ SqL K H b ys) (YPair (fun i => xs[i]?) (fun i => ys[i]?)) := by
  refine ⟨fun i H hi q => ?_, fun H q => ⟨xs, ys, q.1, q.2, by omega⟩, fun i H v H' _ q y => ?_⟩
  · exact ⟨xs, ys, xs[i], ys[i]'(by omega), q.1, q.2, by simp [hi], by simp [hn, hi]⟩
  · obtain ⟨T, x, z, h1, h2, h3, h4, h5⟩ := y
    exact ⟨T, x, z, h1, h2, h3, h4 xs q.1, h5 ys q.2⟩

/-! ### enumerate(t), t a tuple -/
theorem meets_enumT (l : Addr) (items : Array Value) : Meets (Builtin.«enumerate.__new__» ⟨[.type "enumerate", .ref l], []⟩) (fun _ R s => s.heap.IsTuple l items ∧
      R (.ok (.ret (.ref (s.heap.push { cls := .type "tuple_iterator", data := .fields #[.ref l, .int 0 0] }).objs.size)))
        { s with heap := (s.heap.push { cls := .type "tuple_iterator", data := .fields #[.ref l, .int 0 0] }).push { cls := .type "enumerate", data := .fields #[.none, .bool false, .ref s.heap.objs.size, rawInt 0, .none, .none] } }) :=
  .of_wp fun prog w A R s h => by
    obtain ⟨hp, g, d, tk, os⟩ := s
    obtain ⟨hl, h⟩ := h
    have hsub := sub_enumerate
    have hT : Heap.IsTuple (Shared.heap ⟨hp, g, d, tk, os⟩) l items := hl
    wp_walk using wpAny_pyIter_tuple hT
    refine wpAny_stack_any fun st => wpAny_pure ?_
    split
    · rename_i c _ _ _ _ _
      cases (c == Value.type "enumerate")
      · wp_walk using wpAny_pyIter_tuple hT
        exact ⟨_, rfl, h⟩
      · wp_walk using wpAny_pyIter_tuple hT
        exact ⟨_, rfl, h⟩
    · wp_walk using wpAny_pyIter_tuple hT
      exact ⟨_, rfl, h⟩
end Lyd

set_option Elab.async false
set_option linter.all false
set_option maxRecDepth 100000
set_option maxHeartbeats 1000000
namespace Lyd
open PySem PySem.Spec PyProof.Rows L2
section
variable {prog : Program} {w : World} {A : Around} {E : Value → Shared → Prop} {s : Shared}
theorem enumT_begins {l : Addr} {items : Array Value} {Q : Value → Shared → Prop} (hT : s.heap.IsTuple l items)
    (h : ∀ h', IsEnum h' (s.heap.objs.size + 1) s.heap.objs.size 0 .none → h'.IsTupleIter s.heap.objs.size l 0 → (∀ b o, s.heap.get? b = some o → h'.get? b = some o) → Q (.ref (s.heap.objs.size + 1)) { s with heap := h' }) :
    wpAny (model prog w) A (call (.type "enumerate") [.ref l]) Q E s := by
  refine callType_new F.called_enumerate (by decide) (F.typeCall_enumerate_1 _) (F.newCall_enumerate_1 _) (fun obj => F.args_object_init_2 obj _) F.entry_enumerate_new (meets_enumT l items) ⟨hT, ?_⟩
  generalize ho : ({ cls := .type "tuple_iterator", data := .fields #[.ref l, .int 0 0] } : Obj) = o
  have hf : o.isFreed = false := by rw [← ho]; rfl
  have hz : (s.heap.push o).objs.size = s.heap.objs.size + 1 := Heap.size_push ..
  show _ ∧ _
  rw [hz]
  have he : IsEnum ((s.heap.push o).push { cls := .type "enumerate", data := .fields #[.none, .bool false, .ref s.heap.objs.size, rawInt 0, .none, .none] }) (s.heap.objs.size + 1) s.heap.objs.size 0 .none := by
    have q := Heap.get?_push_size (s.heap.push o) (o := { cls := .type "enumerate", data := .fields #[.none, .bool false, .ref s.heap.objs.size, rawInt 0, .none, .none] }) rfl
    rw [hz] at q
    exact q
  refine ⟨⟨_, he, rfl⟩, h _ he ⟨o, Heap.get?_push_of_some _ (Heap.get?_push_size _ hf), ?_, ?_⟩ fun b o' x => Heap.get?_push_of_some _ (Heap.get?_push_of_some _ x)⟩
  · rw [← ho]
  · rw [← ho]
    rfl
end
def ItE (K : PySem.W.Frag) (a : Addr) : It where
  go := fun i H => ∃ (xs : List V) (x : V), SqT K H a xs ∧ xs[i]? = some x
  yld := fun i H v H' => ∃ T x, v = .ref T ∧ H T = none ∧ H' = upd H T (.tup [.int (i : Nat), x]) ∧ ∀ xs, SqT K H a xs → xs[i]? = some x
  stop := fun i H => ∃ xs : List V, SqT K H a xs ∧ i = xs.length
theorem turnE {P : Program} {w : World} {K : PySem.W.Frag} {elts : List Expr} {kk : Nat} {tpos : Pos} {a e it : Addr} (na : a ≠ it) (ne : e ≠ it) (nea : e ≠ a) :
    Turn P w K (.Tuple elts kk tpos) (ItE K a) [e, it] e (fun i h => (∃ old, IsEnum h e it ((0 : Int) + (i : Int)) old) ∧ h.IsTupleIter it a i) where
  mem := List.mem_cons_self
  obj := fun i h st c hc => by
    obtain ⟨⟨old, he⟩, ⟨o1, e1, _, d1⟩⟩ := st
    simp only [List.mem_cons, List.not_mem_nil, or_false] at hc
    rcases hc with rfl | rfl
    · exact ⟨_, he, fun v q => by cases q⟩
    · refine ⟨o1, e1, fun v q => ?_⟩
      rw [d1] at q
      cases q
  keep := fun i h h' st k => by
    obtain ⟨⟨old, he⟩, h1⟩ := st
    exact ⟨⟨old, k e (by simp) _ he⟩, h1.at fun o q => k it (by simp) o q⟩
  item := by
    intro X hP hw hK hc i pins s σ H E I hf st hg
    subst hP hw hK
    obtain ⟨⟨old, he⟩, h1⟩ := st
    obtain ⟨xs, x, qx, hx⟩ := hg
    obtain ⟨us, rv, pu, _⟩ := I.tuple qx
    have hh := I.ok.hd hc
    have lx : i < us.toArray.size := by
      rw [List.size_toArray, ← rv.length]
      exact (List.getElem?_eq_some_iff.mp hx).1
    have G := GoesN.enumFrom (prog := X.prog) (w := X.w) (A := X.A) (elts := elts) (x1 := kk) (pos := tpos) 0 (Draws.tuple (A := X.A.in1) hh it a na us.toArray) e ne (by simp [ne, nea]) (by simp)
    refine G.goes i s _ E lx ⟨⟨old, he⟩, ⟨h1, pu⟩⟩ fun v h' tk hY st' hk htk => ?_
    obtain ⟨T, t, u1, rfl, hT, e1, hTT⟩ := hY
    obtain ⟨u, eu, ru⟩ := rv.get hx
    have f1 : u1 = u := by
      rw [List.getElem?_toArray, eu] at e1
      exact (Option.some.inj e1).symm
    subst f1
    have hn : H T = none := I.hok.fresh hT
    have ei : (0 : Int) + (i : Int) = (i : Nat) := Int.zero_add _
    have new : ObjOk X.prog X.w (upd H T (.tup [.int (i : Nat), x])) h' T (.tup [.int (i : Nat), x]) := ⟨by show 2 ≤ sizeLine; decide, [.int ((0 : Int) + (i : Int)) t, u1], .cons ⟨t, by rw [ei]⟩ (.cons ru .nil), hTT⟩
    have I1 : Inv X pins σ (upd H T (.tup [.int (i : Nat), x])) { s with heap := h', toks := tk } := I.turnedNew (ch := [e, it]) (fun c o hb q => hk c o hb q) hf hT new
    refine ⟨.ref T, _, I1, rfl, ⟨T, x, rfl, hn, rfl, fun l hl => ?_⟩, ⟨st'.1, st'.2.1⟩, fun c hcm => ?_⟩
    · rw [I.tuple_inj hl qx]
      exact hx
    · have hlt : c < s.heap.objs.size := by
        obtain ⟨_, g1, _⟩ := h1
        simp only [List.mem_cons, List.not_mem_nil, or_false] at hcm
        rcases hcm with rfl | rfl
        · exact Heap.lt_size he
        · exact Heap.lt_size g1
      rw [upd_ne (Nat.ne_of_lt (Nat.lt_of_lt_of_le hlt hT))]
      exact (hf c hcm).1
  done := by
    intro X hP hw hK hc i pins s σ H E I hf st hg
    subst hP hw hK
    obtain ⟨⟨old, he⟩, h1⟩ := st
    obtain ⟨xs, qx, hi⟩ := hg
    obtain ⟨us, rv, pu, _⟩ := I.tuple qx
    have hh := I.ok.hd hc
    have G := GoesN.enumFrom (prog := X.prog) (w := X.w) (A := X.A) (elts := elts) (x1 := kk) (pos := tpos) 0 (Draws.tuple (A := X.A.in1) hh it a na us.toArray) e ne (by simp [ne, nea]) (by simp)
    have ei : i = us.toArray.size := by
      rw [List.size_toArray, ← rv.length]
      exact hi
    refine G.stops s _ E (by rw [← ei]; exact ⟨⟨old, he⟩, ⟨h1, pu⟩⟩) fun h' tk hk htk => ?_
    exact I.turnedL (ch := [e, it]) (fun c o hb q => hk c o hb q) hf
  self := fun A i s Q E st h => by
    obtain ⟨⟨old, he⟩, _⟩ := st
    exact wpAny_pyIter_enum he h
def iEnumT (K : PySem.W.Frag) (ta : TA) : TI := fun σ H R => ta σ H fun vs H1 => ∃ a xs, vs = [.ref a] ∧ SqT K H1 a xs ∧ R (ItE K a) H1
theorem pi_enumT {X : Cx} {e : Expr} {ta : TA} {p pos tpos : Pos} {elts : List Expr} {kk : Nat} (hg : Gl X "enumerate") (hm : X.mg "enumerate" = none) (ha : PA X [e] ta) (hs : starEach [e] X.env = [(false, eval e X.env)] := by rfl) :
    PI X (.Tuple elts kk tpos) (.Call (.Name "enumerate" p) [e] [] pos) (iEnumT X.K ta) := by
  refine ⟨fun pins s σ H R I h => ?_⟩
  refine Call_ (ld_blt I hg hm boot_enumerate (PyProof.Rows.callWith_type1 (thn (ha.run pos pins s σ H _ I h) fun us s1 hh => ?_) hs rfl))
  obtain ⟨vs, H1, I1, r1, a, xs, ex, qx, q⟩ := hh
  subst ex
  obtain ⟨u1, rfl, ra⟩ := vals1 r1
  cases ra
  obtain ⟨us, rv, pu, _⟩ := I1.tuple qx
  have la : a < s1.heap.objs.size := pu.lt
  refine enumT_begins pu fun h' he h1 hk => wpAny_pyIter_enum he ?_
  have I2 : Inv X pins σ H1 { s1 with heap := h' } := I1.kept (t' := s1.toks) hk
  refine ⟨s1.heap.objs.size + 1, [s1.heap.objs.size + 1, s1.heap.objs.size], _, _, H1, rfl, I2, turnE (a := a) (it := s1.heap.objs.size) (Nat.ne_of_lt la) (Nat.succ_ne_self _) (Nat.ne_of_gt (Nat.lt_succ_of_lt la)), ⟨⟨.none, he⟩, h1⟩, fun c hcm => ?_, q⟩
  have hle : s1.heap.objs.size ≤ c := by
    simp only [List.mem_cons, List.not_mem_nil, or_false] at hcm
    rcases hcm with rfl | rfl
    · exact Nat.le_add_right _ _
    · exact Nat.le_refl _
  exact I1.fpOk hle (I1.hok.fresh hle)
theorem walk_enumT {K : PySem.W.Frag} {a : Addr} {xs : List V} : Walk (ItE K a) xs.length (fun H => SqT K H a xs) (YPair (fun i => some (.int (i : Nat))) (fun i => xs[i]?)) := by
  refine ⟨fun i H hi q => ⟨xs, xs[i], q, by simp [hi]⟩, fun H q => ⟨xs, q, rfl⟩, fun i H v H' _ q y => ?_⟩
  obtain ⟨T, x, h1, h2, h3, h4⟩ := y
  exact ⟨T, .int (i : Nat), x, h1, h2, h3, rfl, h4 xs q⟩

/-! ### l.extend(t), t a tuple -/
theorem meets_extT (l : Addr) (items : Array Value) (n : Nat) (b : Addr) (items2 : Array Value) (n2 : Nat) (dd : Option Addr) (sl : Array (Option Value)) (h0 : ¬(!items.isEmpty && Builtin.List.listTooLong (items.size + items2.size)) = true) (h1 : items.size ≤ sizeLine) (h2 : (items ++ items2).size ≤ sizeLine + 1) :
    Meets (Builtin.«list.extend» ⟨[.ref l, .ref b], []⟩) (fun _ R s => s.heap.get? l = some { cls := .type "list", dict := none, data := .seq items n, slots := #[] } ∧ s.heap.get? b = some { cls := .type "tuple", dict := dd, data := .seq items2 n2, slots := sl } ∧ R (.ok (.ret Value.none)) { s with heap := s.heap.update l (Obj.mapSeq fun x => x ++ items2), toks := s.toks }) :=
  .of_wp fun prog w A R s h => by
    obtain ⟨hp, g, d, tk, os⟩ := s
    obtain ⟨hl, hb, h⟩ := h
    have f2 := AutoSeq1.sub_tuple_tuple
    have f3 := AutoSeq1.sub_list_list
    have f4 := AutoSeq1.sub_tuple_list
    have f5 := AutoSeq1.sub_list_tuple
    wp_walk using (wpAny_updateSeq hl rfl (hz := h1) (_hz' := h2)), AutoSeq1.wpAny_loadPart' hl, AutoSeq1.wpAny_loadPart' hb
    exact ⟨_, rfl, h⟩
def rExtT (K : PySem.W.Frag) : V → List V → Hp → VK → Prop := fun x vs H Q => ∃ l b xs zs, x = .ref l ∧ vs = [.ref b] ∧ H l = some (.lst xs) ∧ SqT K H b zs ∧ xs.length + zs.length ≤ sizeLine ∧ Q .non (upd H l (.lst (xs ++ zs)))
theorem mt_extT {X : Cx} : MtR X "list.extend" (rExtT X.K) := by
  intro pins s σ H x vs v us Q I rx rv h
  obtain ⟨l, b, xs, zs, rfl, rfl, hH, hB, hz, q⟩ := h
  cases rx
  obtain ⟨u, rfl, ru⟩ := rv.one
  cases ru
  obtain ⟨z, its, n, r, hl, e⟩ := I.lstM hH
  obtain ⟨its2, r2, ⟨⟨cls, dd, data, sl⟩, e2, hc, n2, hd⟩, _⟩ := I.tuple hB
  simp only at hc hd
  subst hc hd
  have hl2 := r2.length
  have hsz : its.toArray.size + its2.toArray.size ≤ sizeLine := by
    rw [List.size_toArray, List.size_toArray]
    omega
  have hlong : ¬ (!its.toArray.isEmpty && Builtin.List.listTooLong (its.toArray.size + its2.toArray.size)) = true := by
    rw [notLongL hsz, Bool.and_false]
    exact Bool.false_ne_true
  refine call_meets F.slot_list_extend ⟨_, e, rfl⟩ F.entry_list_extend (F.args_list_extend_2 _ _) (meets_extT l its.toArray n b its2.toArray n2 dd sl hlong (by rw [List.size_toArray]; omega) (by rw [Array.size_append]; omega)) ⟨e, e2, ?_⟩
  refine ⟨.non, _, I.lset (its' := its ++ its2) hH e (by simp) (r.append r2) ?_, rfl, q⟩
  rw [List.length_append]
  omega

/-! ### max(l, default=d), l a list of ints -/
/-- the greatest of these and d where there is none -/
def rMaxD (K : PySem.W.Frag) : List V → List V → Hp → VK → Prop := fun vs zs H Q => ∃ (a : Addr) (ns : List Int) (d : V), vs = [V.ref a] ∧ zs = [d] ∧ SqL K H a (ns.map V.int) ∧ (ns = [] → Q d H) ∧ ∀ m, m ∈ ns → (∀ y, y ∈ ns → y ≤ m) → Q (.int m) H
theorem maxOf_mem : ∀ (ys : List Int) (y : Int), PySem.W.maxOf y ys ∈ y :: ys ∧ ∀ z, z ∈ y :: ys → z ≤ PySem.W.maxOf y ys
  | [], y => ⟨List.mem_cons_self, fun z h => by
    rcases List.mem_cons.mp h with rfl | h
    · exact Int.le_refl _
    · cases h⟩
  | x :: ys, y => by
    have e : PySem.W.maxOf y (x :: ys) = PySem.W.maxOf (if decide (y < x) = true then x else y) ys := rfl
    rw [e]
    have ih := maxOf_mem ys (if decide (y < x) = true then x else y)
    by_cases c : y < x
    · rw [if_pos (decide_eq_true c)] at ih ⊢
      refine ⟨List.mem_cons_of_mem _ ih.1, fun z h => ?_⟩
      rcases List.mem_cons.mp h with rfl | h
      · exact Int.le_trans (Int.le_of_lt c) (ih.2 x List.mem_cons_self)
      · exact ih.2 z h
    · rw [if_neg (by rw [decide_eq_false c]; exact Bool.false_ne_true)] at ih ⊢
      refine ⟨?_, fun z h => ?_⟩
      · rcases List.mem_cons.mp ih.1 with q | q
        · rw [q]
          exact List.mem_cons_self
        · exact List.mem_cons_of_mem _ (List.mem_cons_of_mem _ q)
      · rcases List.mem_cons.mp h with rfl | h
        · exact ih.2 _ List.mem_cons_self
        · rcases List.mem_cons.mp h with rfl | h
          · exact Int.le_trans (Int.not_lt.mp c) (ih.2 y List.mem_cons_self)
          · exact ih.2 z (List.mem_cons_of_mem _ h)
theorem cr_maxD {X : Cx} (hc : X.calm = true) (hu : X.A.units + 1 < cLine) : CallRK X (.builtin "max") [Str.ofString "default"] (rMaxD X.K) := by
  intro pins s σ H xs zs us ws Q I rx rz h
  obtain ⟨a, ns, d, rfl, rfl, hs, q0, q1⟩ := h
  obtain ⟨u, rfl, ru⟩ := vals1 rx
  cases ru
  obtain ⟨dv, rfl, rd⟩ := vals1 rz
  obtain ⟨its, rv, p, _⟩ := I.list hs
  have hold : PySem.W.HoldAll s.heap its.toArray.toList ns := PySem.W.HoldAll.of_ints (Vals.ints rv)
  refine PySem.W.max_list_datum_default (I.ok.hd hc) p.isList hold hu (fun e h' tk hk => ?_) fun y ys i v h' tk e hi hv hk => ?_
  · exact ⟨d, H, I.kept (t' := tk) hk, rd, q0 e⟩
  · obtain ⟨as, rr⟩ := hv
    have ⟨t, ev⟩ : ∃ t, v = .int (PySem.W.maxOf y ys) t := by
      cases rr with
      | int i t => exact ⟨t, rfl⟩
    have m := maxOf_mem ys y
    rw [← e] at m
    exact ⟨.int _, H, I.kept (t' := tk) hk, ⟨t, ev⟩, q1 _ m.1 m.2⟩

/-! ### t * 1 -/
theorem meets_mul1 (l : Addr) (items : Array Value) (n : Nat) (dd : Option Addr) (sl : Array (Option Value)) (u : Tok) :
    Meets (Builtin.«tuple.__mul__» ⟨[.ref l, .int 1 u], []⟩) (fun _ R s => s.heap.get? l = some { cls := .type "tuple", dict := dd, data := .seq items n, slots := sl } ∧ R (.ok (.ret (.ref l))) s) :=
  .of_wp fun prog w A R s h => by
    obtain ⟨hp, g, d, tk, os⟩ := s
    obtain ⟨hl, h⟩ := h
    have f1 := AutoSeq1.idx_int
    wp_walk using AutoSeq1.wpAny_loadPart' hl
    repeat (first
      | (refine wpAny_ite_true (decide_eq_true (by simp)) ?_; wp_walk using AutoSeq1.wpAny_loadPart' hl)
      | (refine wpAny_ite_false (by simp) ?_; wp_walk using AutoSeq1.wpAny_loadPart' hl))
    exact ⟨_, rfl, h⟩
end Lyd

set_option Elab.async false
set_option linter.all false
set_option maxRecDepth 100000
set_option maxHeartbeats 1000000
namespace Lyd
open PySem PySem.Spec PyProof.Rows L2
/-! ### t * 1 -/
def rRep1 (K : PySem.W.Frag) : R2 := fun x y H Q => ∃ l xs, x = .ref l ∧ y = .int 1 ∧ SqT K H l xs ∧ Q (.ref l) H
theorem op_rep1 {X : Cx} : OpR X (binaryOp .Mult) (rRep1 X.K) := by
  intro pins s σ H x y v u Q I rx ry h
  obtain ⟨l, xs, rfl, rfl, hT, q⟩ := h
  cases rx
  obtain ⟨t, rfl⟩ := ry
  obtain ⟨its, r, ⟨⟨cls, dd, data, sl⟩, ho, hc, n, hd⟩, hs⟩ := I.tuple hT
  simp only at hc hd
  subst hc hd
  have go : wpAny (model X.prog X.w) X.A (call (.builtin "tuple.__mul__") [.ref l, .int 1 t]) (EP X pins σ Q) X.xe s :=
    call_meets F.slot_tuple_mul ⟨_, ho, rfl⟩ F.entry_tuple_mul (F.args_tuple_mul_2 _ _) (meets_mul1 l its.toArray n dd sl t) ⟨ho, .ref l, H, I, rfl, q⟩
  refine wpAny_binaryOp_repeat_ref (T := "tuple") (U := "int") (by decide) ⟨_, ho, rfl⟩ (fun s' => typeIs_int s' 1 t) noFill_tuple_mul F.fills_int_mul F.slot_int_rmul repeat_tuple F.slot_int_index.lookup ?_
  exact call_meets F.slot_int_rmul (typeIs_int s 1 t) F.entry_int_rmul (F.args_int_rmul_2 _ _) (int_rmul_tuple 1 t l its.toArray n dd sl) ⟨ho, rfl, ⟨_, ho, rfl⟩, go⟩

/-! ### nodes -/
/-- what stands in a term's tuple: a variable, "app", "lam", or a marked abstraction -/
inductive Nod (K : PySem.W.Frag) (H : Hp) : V → Prop where
  | int (i : Int) : Nod K H (.int i)
  | app : Nod K H (.str "app")
  | lam : Nod K H (.str "lam")
  | mk (a : Addr) (k : Int) (h : SqT K H a [.str "lam", .int k]) : Nod K H (.ref a)
theorem Nod.mono {K : PySem.W.Frag} {H H' : Hp} {x : V} (n : Nod K H x) (e : Same H H') : Nod K H' x := by
  cases n with
  | int i => exact .int i
  | app => exact .app
  | lam => exact .lam
  | mk a k h => exact .mk a k (same_t e h)
def isI : V → Bool
  | .int _ => true
  | _ => false
def isR : V → Bool
  | .ref _ => true
  | _ => false
def nodD : V → Int → PyData
  | .int i, _ => .int i
  | .str s, _ => .str s
  | _, k => .tuple [.str "lam", .int k]
theorem Nod.data {K : PySem.W.Frag} {H : Hp} {x : V} (n : Nod K H x) : ∃ d, Dp K H x d ∧ SeqAt.shaped d = true ∧ ∀ s : Str, PyData.eqv d (.str s) = decide (x = .str s) := by
  cases n with
  | int i => exact ⟨_, .int i, rfl, fun s => by rw [decide_eq_false (fun q => nomatch q)]; rfl⟩
  | app =>
    refine ⟨_, .str _, by decide +kernel, fun s => ?_⟩
    rw [dec_str]
    rfl
  | lam =>
    refine ⟨_, .str _, by decide +kernel, fun s => ?_⟩
    rw [dec_str]
    rfl
  | mk a k h =>
    refine ⟨_, .tup h (.cons (.str _) (.cons (.int k) .nil)), ?_, fun s => by rw [decide_eq_false (fun q => nomatch q)]; rfl⟩
    have e : SeqAt.shaped (.tuple [.str "lam", .int k]) = SeqAt.shaped (.tuple [.str "lam", .int 0]) := rfl
    rw [e]
    decide +kernel
def rEqS (K : PySem.W.Frag) : R2 := fun x y H Q => ∃ s, y = .str s ∧ PyData.canLay0 (.str s) = true ∧ Nod K H x ∧ Q (.bl (decide (x = .str s))) H
def rNeS (K : PySem.W.Frag) : R2 := fun x y H Q => ∃ s, y = .str s ∧ PyData.canLay0 (.str s) = true ∧ Nod K H x ∧ Q (.bl (!decide (x = .str s))) H
theorem shaped_str {s : Str} (h : PyData.canLay0 (.str s) = true) : SeqAt.shaped (.str s) = true := by
  unfold SeqAt.shaped
  rw [h]
  rfl
section
variable {X : Cx}
theorem op_eqS (hu : X.A.units + 64 < cLine) : OpR X (compareOp .Eq) (rEqS X.K) := by
  intro pins s σ H x y v u Q I rx ry h
  obtain ⟨w, rfl, hw, n, q⟩ := h
  obtain ⟨d, hd, sd, e⟩ := n.data
  exact op_eqD hu pins s σ H x _ v u Q I rx ry ⟨d, _, hd, .str w, sd, shaped_str hw, by rw [e]; exact q⟩
theorem op_neS (hu : X.A.units + 64 < cLine) : OpR X (compareOp .NotEq) (rNeS X.K) := by
  intro pins s σ H x y v u Q I rx ry h
  obtain ⟨w, rfl, hw, n, q⟩ := h
  obtain ⟨d, hd, sd, e⟩ := n.data
  exact op_neD hu pins s σ H x _ v u Q I rx ry ⟨d, _, hd, .str w, sd, shaped_str hw, by rw [e]; exact q⟩
/-- isinstance(x, int), isinstance(x, tuple), x a node -/
def rIsI (K : PySem.W.Frag) : List V → Hp → VK → Prop := fun xs H Q => ∃ x, xs = [x, .ty "int"] ∧ Nod K H x ∧ Q (.bl (isI x)) H
def rIsT (K : PySem.W.Frag) : List V → Hp → VK → Prop := fun xs H Q => ∃ x, xs = [x, .ty "tuple"] ∧ Nod K H x ∧ Q (.bl (isR x)) H
theorem tyx_tup {K : PySem.W.Frag} {H : Hp} {a : Addr} {xs : List V} (h : SqT K H a xs) : TyX K H (.ref a) (.type "tuple") := by
  rcases h with (h | ⟨o, h⟩) | ⟨o, its, n, hk, hc, _⟩
  · exact .base (.tup h)
  · exact .fTuple h
  · exact .kTuple hk hc
theorem kit_ii {K : PySem.W.Frag} : PySem.W.kitOne K (.type "int") (.type "int") = some true := kit_ty (by decide +kernel)
theorem kit_si {K : PySem.W.Frag} : PySem.W.kitOne K (.type "str") (.type "int") = some false := kit_ty (by decide +kernel)
theorem kit_ti {K : PySem.W.Frag} : PySem.W.kitOne K (.type "tuple") (.type "int") = some false := kit_ty (by decide +kernel)
theorem kit_it {K : PySem.W.Frag} : PySem.W.kitOne K (.type "int") (.type "tuple") = some false := kit_ty (by decide +kernel)
theorem kit_st {K : PySem.W.Frag} : PySem.W.kitOne K (.type "str") (.type "tuple") = some false := kit_ty (by decide +kernel)
theorem kit_tt {K : PySem.W.Frag} : PySem.W.kitOne K (.type "tuple") (.type "tuple") = some true := kit_ty (by decide +kernel)
theorem call_isI : CallR X (.builtin "isinstance") (rIsI X.K) := by
  intro pins s σ H xs us Q I r h
  obtain ⟨x, rfl, n, q⟩ := h
  cases n with
  | int i => exact call_isi pins s σ H _ us Q I r ⟨_, _, _, _, true, rfl, .ty "int", .base (.int i), kit_ii, q⟩
  | app => exact call_isi pins s σ H _ us Q I r ⟨_, _, _, _, false, rfl, .ty "int", .base (.str _), kit_si, q⟩
  | lam => exact call_isi pins s σ H _ us Q I r ⟨_, _, _, _, false, rfl, .ty "int", .base (.str _), kit_si, q⟩
  | mk a k h => exact call_isi pins s σ H _ us Q I r ⟨_, _, _, _, false, rfl, .ty "int", tyx_tup h, kit_ti, q⟩
theorem call_isT : CallR X (.builtin "isinstance") (rIsT X.K) := by
  intro pins s σ H xs us Q I r h
  obtain ⟨x, rfl, n, q⟩ := h
  cases n with
  | int i => exact call_isi pins s σ H _ us Q I r ⟨_, _, _, _, false, rfl, .ty "tuple", .base (.int i), kit_it, q⟩
  | app => exact call_isi pins s σ H _ us Q I r ⟨_, _, _, _, false, rfl, .ty "tuple", .base (.str _), kit_st, q⟩
  | lam => exact call_isi pins s σ H _ us Q I r ⟨_, _, _, _, false, rfl, .ty "tuple", .base (.str _), kit_st, q⟩
  | mk a k h => exact call_isi pins s σ H _ us Q I r ⟨_, _, _, _, true, rfl, .ty "tuple", tyx_tup h, kit_tt, q⟩
/-! ### the same where the written part is told by its name (within a comprehension) -/
variable {K : PySem.W.Frag}
theorem call_isIK (hK : X.K = K) : CallR X (.builtin "isinstance") (rIsI K) := hK ▸ call_isI
theorem call_isTK (hK : X.K = K) : CallR X (.builtin "isinstance") (rIsT K) := hK ▸ call_isT
theorem ix_listK (hK : X.K = K) : IxR X (rIxL K) := hK ▸ ix_list
theorem ix_tupK (hK : X.K = K) : IxR X (rIxT K) := hK ▸ ix_tup
theorem op_eqSK (hu : X.A.units + 64 < cLine) (hK : X.K = K) : OpR X (compareOp .Eq) (rEqS K) := hK ▸ op_eqS hu
theorem op_neSK (hu : X.A.units + 64 < cLine) (hK : X.K = K) : OpR X (compareOp .NotEq) (rNeS K) := hK ▸ op_neS hu
theorem pg_tupK {es : List Expr} {k : Nat} {t : TGs} {n : Nat} {pos : Pos} (hK : X.K = K) (hc : X.calm = true) (h : PGs X es t) (hn : (assignEach es X.env).length = n := by rfl) (hst : (assignEach es X.env).findIdx? (·.1) = none := by rfl) : PG X (.Tuple es k pos) (gTup K n t) := hK ▸ pg_tup hc h hn hst
end
end Lyd

set_option Elab.async false
set_option linter.all false
set_option maxRecDepth 100000
set_option maxHeartbeats 1000000
namespace Lyd
open PySem PySem.Spec PyProof.Rows L2
def topS (i : Nat) : Stmt := PySem.Challenge.pw_lydite_k33_whole_all_roads_to_normal_ter.main.body.getD i (.Pass ⟨0, 0, 0, 0⟩)
/-! ### what the top leaves -/
/-- the built-ins' names and the constants -/
structure Glb (K : PySem.W.Frag) (mg : Str → Option Value) : Prop where
  len : mg "len" = none
  max : mg "max" = none
  isi : mg "isinstance" = none
  int : mg "int" = none
  tup : mg "tuple" = none
  zip : mg "zip" = none
  enu : mg "enumerate" = none
  rng : mg "range" = none
  any : mg "any" = none
  lst : mg "list" = none
  abs : mg "abs" = none
  nodes : ∃ t, mg "MOST_NODES" = some (.int 1000 t)
  vars : ∃ t, mg "MOST_VARIABLE" = some (.int 1000000 t)
  road : ∃ t, mg "MOST_ROAD" = some (.int 200 t)
/-- an own error's class -/
structure Err (K : PySem.W.Frag) (mg : Str → Option Value) (x : Str) (C : Addr) : Prop where
  g : mg x = some (.ref C)
  x : PySem.W.excIn K C [.type "ValueError", .type "Exception", .type "BaseException", .type "object"] "ValueError.__new__" = true
  k : PySem.W.keepIn K (.ref C) = true
  b : PySem.W.subIn K (.ref C) (.type "BaseException") = some true
  t : PySem.W.typeIn K (.ref C) = some (.type "type")
/-- a def that keeps a promise, by its name -/
structure Df (P : Program) (w : World) (K : PySem.W.Frag) (mg : Str → Option Value) (base : Heap) (CX : CXT) (k : Nat) (x : Str) (ps : List Str) (sp : Sp) : Prop where
  ok : ∃ f fd, FnOk P w K mg base CX k f fd ps sp ∧ Binds K fd ps [] ∧ mg x = some (.ref f) ∧ PySem.W.keepIn K (.ref f) = true
def tCallD (sp : Sp) (E : XK) (t : TA) : TE := fun σ H Q => t σ H fun vs H1 => sp vs H1 Q E
section
variable {X : Cx} {CX : CXT} {k : Nat} {x : Str} {ps : List Str} {sp : Sp} {E : XK} {e : Expr} {es : List Expr} {t : TA} {p pos : Pos}
theorem pe_callD (D : Df X.prog X.w X.K X.mg X.base CX k x ps sp) (hr : Room k X.A) (hg : Gl X x) (hx : Passes CX X E) (ha : PA X (e :: es) t) (hdb : (x == ("__debug__" : Str)) = false := by decide)
    (he : starEach (e :: es) X.env = (false, eval e X.env) :: starEach es X.env := by rfl) (hpl : (backTo pos (starEach es X.env)).any (·.1) = false := by rfl) : PE X (.Call (.Name x p) (e :: es) [] pos) (tCallD sp E t) := by
  obtain ⟨f, fd, F, hb, hm, hk⟩ := D.ok
  refine ⟨fun pins s σ H Q I h => (pe_call F hr hg hm hk hb .nil hx ha hdb he hpl).run pins s σ H Q I ?_⟩
  have q : (fun vs H1 => sp (vs ++ []) H1 Q E) = fun vs H1 => sp vs H1 Q E := by
    funext vs H1
    rw [List.append_nil]
  show t σ H (fun vs H1 => sp (vs ++ []) H1 Q E)
  rw [q]
  exact h
/-- in the body of a try -/
theorem pe_callT {E : L2.St → XK} (D : Df X.prog X.w X.K X.mg X.base CX k x ps sp) (hr : Room k X.A) (hg : Gl X x) (hx : ∀ σ, PassesAt CX X σ (E σ)) (ha : PA X (e :: es) t) (hdb : (x == ("__debug__" : Str)) = false := by decide)
    (he : starEach (e :: es) X.env = (false, eval e X.env) :: starEach es X.env := by rfl) (hpl : (backTo pos (starEach es X.env)).any (·.1) = false := by rfl) : PE X (.Call (.Name x p) (e :: es) [] pos) (tCallS sp E t) := by
  obtain ⟨f, fd, F, hb, hm, hk⟩ := D.ok
  exact pe_callS F hr hg hm hk hb hx ha hdb he hpl
theorem pe_const {n : Int} (h : ∃ t, X.mg x = some (.int n t)) (hg : Gl X x) (hd : (x == ("__debug__" : Str)) = false := by decide) : PE X (.Name x pos) (tC (.int n)) := by
  obtain ⟨t, h⟩ := h
  exact pe_glob hg h ⟨t, rfl⟩ hd
/-- int, tuple as a value -/
theorem pe_type {n : String} (hg : Gl X x) (hm : X.mg x = none) (hv : bootBuiltins x = some (.type n)) (hn : x ≠ "__name__" := by decide) (hd : (x == ("__debug__" : Str)) = false := by decide) : PE X (.Name x pos) (tC (.ty n)) :=
  pe_bltn hg hm hv rfl hn hd
theorem ps_err {C : Addr} {W : WX} {m : Str} {j : Nat} {p2 pos2 : Pos} (Z : Err X.K X.mg x C) (hc : X.calm = true) (tk : Takes X W) (hg : Gl X x) (hdb : (x == ("__debug__" : Str)) = false := by decide) :
    PS X (.Raise (some (.Call (.Name x p) [.Constant (.str m) j p2] [] pos)) none pos2) (fun _ σ H => W (.ref C) none σ H) :=
  ps_raise hc tk (pmk_own F.excBase_ValueError Z.x Z.g Z.k (raises_own Z.b Z.t) hg hdb)
/-- a def that lets out what it is wished to -/
abbrev wE (E : XK) : WX := fun cls d _ H => E cls d H
end
/-- in a def's body what a callee lets out goes on -/
theorem passE {X : Cx} {E : XK} (tk : Takes X (wE E)) : Passes (L2.CX X.prog X.w) X E := passes_call tk fun _ _ _ _ h => h
/-- the room -/
theorem room_in {k j : Nat} {A : Around} (h : Room k A) (q : j ≤ k := by decide) : Room j A := h.mono q
theorem boot_int : bootBuiltins "int" = some (.type "int") := by decide +kernel
theorem boot_list' : bootBuiltins "list" = some (.type "list") := by decide +kernel
theorem boot_abs' : bootBuiltins "abs" = some (.builtin "abs") := by decide +kernel
theorem boot_any' : bootBuiltins "any" = some (.builtin "any") := by decide +kernel
/-! ### what a promise gives -/
/-- a value, the heap grown -/
def RV (v : V) (H : Hp) (Q : VK) : Prop := ∀ H', Same H H' → Q v H'
/-- a tuple of xs -/
def RT (K : PySem.W.Frag) (xs : List V) (H : Hp) (Q : VK) : Prop := ∀ p H', Same H H' → SqT K H' p xs → Q (.ref p) H'
/-- a new list of xs -/
def RL (xs : List V) (H : Hp) (Q : VK) : Prop := ∀ p H', H p = none → Same H H' → H' p = some (.lst xs) → Q (.ref p) H'
/-- all nodes -/
def Nods (K : PySem.W.Frag) (H : Hp) (xs : List V) : Prop := ∀ x ∈ xs, Nod K H x
theorem Nods.mono {K : PySem.W.Frag} {H H' : Hp} {xs : List V} (n : Nods K H xs) (e : Same H H') : Nods K H' xs := fun x hx => (n x hx).mono e
theorem Nods.at {K : PySem.W.Frag} {H : Hp} {xs : List V} {i : Nat} {x : V} (n : Nods K H xs) (h : xs[i]? = some x) : Nod K H x := n x (List.mem_of_getElem? h)
theorem get_pre {α : Type} {xs pre r : List α} {x : α} {n : Nat} (h : xs = pre ++ x :: r) (l : pre.length = n) : xs[n]? = some x := by
  rw [h, List.getElem?_append_right (Nat.le_of_eq l), l, Nat.sub_self]
  rfl
theorem ite_b {A B : Prop} {b : Bool} (h1 : b = true → A) (h2 : b = false → B) : if b = true then A else B := by
  cases b with
  | true => rw [if_pos rfl]; exact h1 rfl
  | false => rw [if_neg Bool.false_ne_true]; exact h2 rfl
theorem can_app : PyData.canLay0 (.str "app") = true := by decide +kernel
theorem can_lam : PyData.canLay0 (.str "lam") = true := by decide +kernel
theorem can_large : PyData.canLay0 (.str "large") = true := by decide +kernel
/-- a term whose abstractions are plain or marked -/
def Tmk (K : PySem.W.Frag) (H : Hp) (t : T) : Prop := ∀ m ∈ labs t, m = .str "lam" ∨ ∃ a k, m = .ref a ∧ SqT K H a [.str "lam", .int k]
section
variable {K : PySem.W.Frag} {H H' : Hp} {t b f a : T} {m : V}
theorem Tmk.mono (h : Tmk K H t) (e : Same H H') : Tmk K H' t := fun m hm => by
  rcases h m hm with h | ⟨a, k, h1, h2⟩
  · exact .inl h
  · exact .inr ⟨a, k, h1, same_t e h2⟩
theorem Tmk.nods (h : Tmk K H t) : Nods K H (flat t) := fun x hx => by
  rcases mem_flat t x hx with rfl | hm | ⟨n, rfl⟩
  · exact .app
  · rcases h x hm with rfl | ⟨a, k, rfl, h2⟩
    · exact .lam
    · exact .mk a k h2
  · exact .int _
theorem Tmk.labd (h : Tmk K H t) : Labd t := fun m hm i e => by
  rcases h m hm with z | ⟨a, k, z, _⟩
  · rw [e] at z; cases z
  · rw [e] at z; cases z
theorem Tmk.lam (h : Tmk K H (.lam m b)) : Tmk K H b := fun x hx => h x (List.mem_cons_of_mem _ hx)
theorem Tmk.app (h : Tmk K H (.app f a)) : Tmk K H f ∧ Tmk K H a := ⟨fun x hx => h x (List.mem_append_left _ hx), fun x hx => h x (List.mem_append_right _ hx)⟩
theorem Tmk.nlam (h : Tmk K H (.lam m b)) : m ≠ .str "app" ∧ isI m = false := by
  rcases h m List.mem_cons_self with rfl | ⟨a, k, rfl, _⟩
  · exact ⟨by decide +kernel, rfl⟩
  · exact ⟨(fun e => nomatch e), rfl⟩
theorem Tmk.root (h : Tmk K H t) : Nod K H (root t) := h.nods _ (by
  obtain ⟨r, e⟩ := flat_root t
  rw [e]
  exact List.mem_cons_self)
theorem Tmk.lift (h : Tmk K H t) (c d : Nat) : Tmk K H (Lyd.lift c d t) := fun x hx => h x (by rw [labs_lift] at hx; exact hx)
theorem Tmk.put {v : T} (h : Tmk K H t) (hv : Tmk K H v) (d : Nat) : Tmk K H (Lyd.put v d t) := fun x hx => by
  rcases labs_put t d x hx with z | z
  · exact h x z
  · exact hv x z
theorem Tmk.step {u : T} {p : Place} (h : Tmk K H t) (e : Lyd.step t p = some u) : Tmk K H u := fun x hx => h x (labs_step p t u e x hx)
end
theorem labs_ix : ∀ (p : Place) (t : T) (i : Nat) (s : T), ix t p = some (i, s) → ∀ m, m ∈ labs s → m ∈ labs t
  | [], t, i, s, h, m, hm => by
    rw [ix_nil] at h
    cases h
    exact hm
  | d :: p, .var n, i, s, h, m, hm => by cases d <;> cases h
  | .b :: p, .lam k b, i, s, h, m, hm => by
    rw [ix_b] at h
    cases e : ix b p with
    | none => rw [e] at h; cases h
    | some r =>
      rw [e] at h
      cases h
      exact List.mem_cons_of_mem _ (labs_ix p b r.1 r.2 e m hm)
  | .f :: p, .lam k b, i, s, h, m, hm => by cases h
  | .a :: p, .lam k b, i, s, h, m, hm => by cases h
  | .b :: p, .app f a, i, s, h, m, hm => by cases h
  | .f :: p, .app f a, i, s, h, m, hm => by
    rw [ix_f] at h
    cases e : ix f p with
    | none => rw [e] at h; cases h
    | some r =>
      rw [e] at h
      cases h
      exact List.mem_append_left _ (labs_ix p f r.1 r.2 e m hm)
  | .a :: p, .app f a, i, s, h, m, hm => by
    rw [ix_a] at h
    cases e : ix a p with
    | none => rw [e] at h; cases h
    | some r =>
      rw [e] at h
      cases h
      exact List.mem_append_right _ (labs_ix p a r.1 r.2 e m hm)
theorem Tmk.ix {K : PySem.W.Frag} {H : Hp} {t s : T} {p : Place} {i : Nat} (h : Tmk K H t) (e : Lyd.ix t p = some (i, s)) : Tmk K H s := fun x hx => h x (labs_ix p t i s e x hx)
theorem dec_ne {x y : V} (h : x ≠ y) : decide (x = y) = false := decide_eq_false h
section
variable {P : Program} {w : World} {K : PySem.W.Frag} {mg : Str → Option Value} {base : Heap} {f : Addr} {fd : FuncData}
/-! ### end_of -/
theorem sc_end_of : FnScope ["nodes", "start", "missing", "at", "node"] ["nodes", "start"] (defScope (topS 9)) := ⟨rfl, rfl, rfl, by decide +kernel, rfl, by decide +kernel, by decide +kernel⟩
def spEnd (K : PySem.W.Frag) : Sp := fun vs H Q _ => ∃ (a : Addr) (xs pre post : List V) (t : T) (n : Nat), vs = [.ref a, .int (n : Nat)] ∧ SqT K H a xs ∧ Tmk K H t ∧ xs = pre ++ (flat t ++ post) ∧ pre.length = n ∧ Q (.int ((n + sz t : Nat) : Nat)) H
/-- the loop: the pending parts -/
def wEnd (K : PySem.W.Frag) (a : Addr) (n : Nat) (xs : List V) (z : Nat) (H : Hp) : Nat → L2.St → Hp → Prop := fun m σ H' => H' = H ∧ ∃ (pre post : List V) (P : List (Unit × T)) (y : Option V),
  σ = [some (.ref a), some (.int (n : Nat)), some (.int (P.length : Nat)), some (.int (pre.length : Nat)), y] ∧ (∀ x ∈ P, Tmk K H x.2) ∧ xs = pre ++ (flatP P ++ post) ∧ pre.length + m = z ∧ m = (flatP P).length
theorem ok_end (F : Fun K "end_of" "end_of" (topS 9) f fd) (Z : Glb K mg) : FnOk P w K mg base CX0 1 f fd ["nodes", "start"] (spEnd K) := by
  refine F.ok sc_end_of (fun vs H Q E h => ?_) (fun cdv A outer s H vs Q E hr h => ?_)
  · obtain ⟨a, xs, pre, post, t, n, rfl, _⟩ := h
    rfl
  obtain ⟨a, xs, pre, post, t, n, rfl, hT, hN, hx, hl, q⟩ := h
  refine ⟨_, (pss_cons (ps_set (i := 2) sc_end_of.nd rfl (.inl rfl) pe_int)
      (pss_cons (ps_set (i := 3) sc_end_of.nd rfl (.inl rfl) (pv 1))
      (pss_cons (ps_while PassesOwn.never (pt_cmpR op_gt (pv 2) pe_int (nomark _)) (pss_cons (ps_set (i := 4) sc_end_of.nd rfl (.inl rfl) (pe_ix ix_tup (pv 0) (pv 3) (fun _ _ => rfl)))
      (pss_cons (ps_if (pt_cmpR (op_eqS hr.units) (pv 4) pe_str (nomark _)) (pss_one (ps_aug (i := 2) sc_end_of.nd rfl (.inl rfl) pe_int ip_add)) (pss_one (ps_if (pt_val (pe_callB call_isI (by rfl) Z.isi PyProof.Rows.boot_isinstance (pa_cons (pv 4) (pa_cons (pe_type (by rfl) Z.int boot_int) pa_nil)))) (pss_one (ps_aug (i := 2) sc_end_of.nd rfl (.inl rfl) pe_int ip_sub)) pss_nil)))
      (pss_one (ps_aug (i := 3) sc_end_of.nd rfl (.inl rfl) pe_int ip_add)))))
      (pss_one (ps_ret (pv 3)))))), ?_⟩
  refine ⟨_, rfl, ?_⟩
  refine ⟨wEnd K a n xs (n + sz t) H, ⟨sz t, rfl, pre, post, [((), t)], none, by rw [hl]; rfl, ?_, ?_, by rw [hl], ?_⟩, ?_⟩
  · intro x hx'
    rw [List.mem_singleton.mp hx']
    exact hN
  · rw [flatP_cons, flatP_nil, List.append_nil]; exact hx
  · rw [flatP_cons, flatP_nil, List.append_nil]
  rintro m σ H' ⟨rfl, pre', post', P, y, rfl, hP, hx', hm, hm'⟩
  refine ⟨_, rfl, _, _, rfl, rfl, _, rfl, ?_⟩
  cases P with
  | nil =>
    refine iteF ⟨_, rfl, ?_⟩
    have e : (pre'.length : Nat) = n + sz t := by
      rw [flatP_nil] at hm'
      rw [hm'] at hm
      exact hm
    show Q (.int ((pre'.length : Nat) : Int)) H'
    rw [e]
    exact q
  | cons z P' =>
    refine ite_b (fun _ => ⟨fun σ' H1 => ∃ m', m' < m ∧ wEnd K a n xs (n + sz t) H' m' σ' H1, fun _ _ h => h, ?_⟩) (fun c => absurd c (by simp))
    obtain ⟨r, hr'⟩ := flat_root z.2
    have hf : flatP (z :: P') = root z.2 :: (r ++ flatP P') := by
      rw [flatP_cons, hr']; rfl
    obtain ⟨d, s', P'', e1, e2, e3, _⟩ := pend_step (cb := fun x : Unit => x) (cf := fun x => x) (ca := fun x => x) hf
    injection e1 with e1 e1'
    subst e1 e1'
    have hs' : Tmk K H' s' := hP _ List.mem_cons_self
    have hg : xs[pre'.length]? = some (root s') := get_pre (r := r ++ flatP P' ++ post') (by rw [hx', hf]; simp) rfl
    refine ⟨_, rfl, _, rfl, _, _, _, _, rfl, rfl, hT, atI_nat hg, ?_⟩
    refine ⟨_, rfl, _, rfl, can_app, hs'.root, _, rfl, ?_⟩
    have fin : ∀ (KK : List (Unit × T)) (k : Int), KK = kidsP (fun x : Unit => x) (fun x => x) (fun x => x) d s' → (∀ x ∈ KK, Tmk K H' x.2) → k = ((KK ++ P').length : Nat) →
        ∃ m', m' < m ∧ wEnd K a n xs (n + sz t) H' m' [some (.ref a), some (.int (n : Nat)), some (.int k), some (.int ((pre'.length : Nat) + 1)), some (root s')] H' := fun KK k hK hKt hk => by
      refine ⟨(flatP (KK ++ P')).length, ?_, rfl, pre' ++ [root s'], post', KK ++ P', some (root s'), ?_, ?_, ?_, ?_, rfl⟩
      · rw [hm', hf, hK, e3, List.length_cons]
        omega
      · rw [hk, List.length_append, List.length_append]; rfl
      · intro x hxm
        rcases List.mem_append.mp hxm with h | h
        · exact hKt x h
        · exact hP x (List.mem_cons_of_mem _ h)
      · rw [hx', hf, hK, e3]; simp
      · rw [List.length_append, hK, e3, ← hm, hm', hf]
        simp only [List.length_cons, List.length_nil]
        omega
    cases s' with
    | var v =>
      refine iteF ⟨_, rfl, _, rfl, hs'.root, true, rfl, ?_⟩
      refine iteT ⟨_, rfl, _, _, rfl, rfl, _, rfl, _, _, rfl, rfl, ?_⟩
      exact fin [] _ rfl (fun x hx => by cases hx) (by rw [List.length_cons]; simp)
    | lam l b =>
      have hl := hs'.nlam
      show if decide (l = V.str "app") = true then _ else _
      rw [dec_ne hl.1]
      refine iteF ⟨_, rfl, _, rfl, hs'.root, _, rfl, ?_⟩
      show if isI l = true then _ else _
      rw [hl.2]
      refine iteF ⟨_, rfl, _, _, rfl, rfl, ?_⟩
      exact fin [(d, b)] _ rfl (fun x hx => by rw [List.mem_singleton.mp hx]; exact hs'.lam) (by simp)
    | app g x =>
      refine iteT ⟨_, rfl, _, _, rfl, rfl, _, rfl, _, _, rfl, rfl, ?_⟩
      refine fin [(d, g), (d, x)] _ rfl (fun z hz => ?_) (by simp)
      rcases List.mem_cons.mp hz with rfl | hz
      · exact hs'.app.1
      · rw [List.mem_singleton.mp hz]
        exact hs'.app.2
end
end Lyd

set_option Elab.async false
set_option linter.all false
set_option maxRecDepth 100000
set_option maxHeartbeats 1000000
namespace Lyd
open PySem PySem.Spec PyProof.Rows L2
theorem line_of {n : Nat} (h : n ≤ 1000000) : n < sizeLine := Nat.lt_of_le_of_lt h (by decide)
theorem line_le {n : Nat} (h : n ≤ 1000000) : n ≤ sizeLine := Nat.le_of_lt (line_of h)
theorem flatP_len {α : Type} : ∀ P : List (α × T), P.length ≤ (flatP P).length
  | [] => Nat.zero_le _
  | x :: P => by
    have ih := flatP_len P
    have h := sz_pos x.2
    rw [flatP_cons, List.length_append, List.length_cons]
    have h' : 0 < (flat x.2).length := h
    omega
/-- the stack as Python has it: its top last -/
def stk {α : Type} (en : α → V) (P : List (α × T)) : List V := (P.map fun x => en x.1).reverse
theorem stk_cons {α : Type} {en : α → V} {d : α} {s : T} {P : List (α × T)} : stk en ((d, s) :: P) = stk en P ++ [en d] := by
  unfold stk
  rw [List.map_cons, List.reverse_cons]
theorem stk_len {α : Type} {en : α → V} {P : List (α × T)} : (stk en P).length = P.length := by
  unfold stk
  rw [List.length_reverse, List.length_map]
theorem last_append {α : Type} (l : List α) (x : α) : (l ++ [x])[(l ++ [x]).length - 1]? = some x := by
  rw [List.length_append, List.length_singleton, Nat.add_sub_cancel, List.getElem?_append_right (Nat.le_refl _), Nat.sub_self]
  rfl
theorem drop_cons {α : Type} {l : List α} {i : Nat} {x : α} (h : l[i]? = some x) : l.drop i = x :: l.drop (i + 1) := by
  obtain ⟨hi, e⟩ := List.getElem?_eq_some_iff.mp h
  rw [List.drop_eq_getElem_cons hi, e]
section
variable {α : Type} {cb cf ca : α → α} {en : α → V}
/-- what stands at turn i of a walk down a term with a stack: the pending parts P, what is found so far -/
structure Stk (cb cf ca : α → α) (en : α → V) (t : T) (all : List V) (i : Nat) (P : List (α × T)) (F : List V) : Prop where
  rest : flatP P = (flat t).drop i
  all : F ++ (ndsP cb cf ca P).map (fun x => en x.1) = all
theorem Stk.start (d : α) (t : T) : Stk cb cf ca en t ((nds cb cf ca d t).map fun x => en x.1) 0 [(d, t)] [] :=
  ⟨by rw [flatP_cons, flatP_nil, List.append_nil]; rfl, by rw [ndsP_cons, ndsP_nil, List.append_nil]; rfl⟩
theorem Stk.turn {t : T} {all F : List V} {i : Nat} {P : List (α × T)} {x : V} (h : Stk cb cf ca en t all i P F) (hx : (flat t)[i]? = some x) :
    ∃ d s P', P = (d, s) :: P' ∧ x = root s ∧ Stk cb cf ca en t all (i + 1) (kidsP cb cf ca d s ++ P') (F ++ [en d]) := by
  have e := h.rest
  rw [drop_cons hx] at e
  obtain ⟨d, s, P', e1, e2, e3, e4⟩ := pend_step (cb := cb) (cf := cf) (ca := ca) e
  refine ⟨d, s, P', e1, e2, e3, ?_⟩
  rw [← h.all, e4, List.map_cons, List.append_assoc]
  rfl
theorem Stk.done {t : T} {all F : List V} {P : List (α × T)} (h : Stk cb cf ca en t all (flat t).length P F) : F = all := by
  have e := h.rest
  rw [List.drop_length] at e
  have e' := flatP_eq_nil e
  rw [← h.all, e', ndsP_nil, List.map_nil, List.append_nil]
theorem Stk.lenP {t : T} {all F : List V} {i : Nat} {P : List (α × T)} (h : Stk cb cf ca en t all i P F) : P.length ≤ sz t := by
  have := flatP_len P
  rw [h.rest, List.length_drop] at this
  exact Nat.le_trans this (Nat.sub_le _ _)
theorem Stk.lenF {t : T} {all F : List V} {i : Nat} {P : List (α × T)} (h : Stk cb cf ca en t all i P F) : F.length ≤ all.length := by
  rw [← h.all, List.length_append]
  exact Nat.le_add_right _ _
end
/-- the parts that are pending are terms of that kind -/
def Tmks {α : Type} (K : PySem.W.Frag) (H : Hp) (P : List (α × T)) : Prop := ∀ x ∈ P, Tmk K H x.2
theorem Tmks.kids {α : Type} {cb cf ca : α → α} {K : PySem.W.Frag} {H : Hp} {d : α} {s : T} {P : List (α × T)} (h : Tmks K H ((d, s) :: P)) : Tmk K H s ∧ Tmks K H (kidsP cb cf ca d s ++ P) := by
  have hs : Tmk K H s := h _ List.mem_cons_self
  refine ⟨hs, fun x hx => ?_⟩
  rcases List.mem_append.mp hx with hx | hx
  · cases s with
    | var n => cases hx
    | lam m b =>
      rw [List.mem_singleton.mp hx]
      exact hs.lam
    | app f a =>
      rcases List.mem_cons.mp hx with rfl | hx
      · exact hs.app.1
      · rw [List.mem_singleton.mp hx]
        exact hs.app.2
  · exact h x (List.mem_cons_of_mem _ hx)
theorem Tmks.mono {α : Type} {K : PySem.W.Frag} {H H' : Hp} {P : List (α × T)} (h : Tmks K H P) (e : Same H H') : Tmks K H' P := fun x hx => (h x hx).mono e
def eN (d : Nat) : V := .int (d : Nat)
abbrev depV (t : T) : List V := (deps 0 t).map eN
theorem depV_eq (t : T) : depV t = (nds (· + 1) (fun x => x) (fun x => x) 0 t).map fun x => eN x.1 := by
  unfold depV deps dns
  rw [List.map_map]
  rfl
section
variable {P : Program} {w : World} {K : PySem.W.Frag} {mg : Str → Option Value} {base : Heap} {f : Addr} {fd : FuncData}
/-! ### depths -/
theorem sc_depths : FnScope ["nodes", "found", "waiting", "node", "depth"] ["nodes"] (defScope (topS 10)) := ⟨rfl, rfl, rfl, by decide +kernel, rfl, by decide +kernel, by decide +kernel⟩
def spDep (K : PySem.W.Frag) : Sp := fun vs H Q _ => ∃ (a : Addr) (t : T), vs = [.ref a] ∧ SqT K H a (flat t) ∧ Tmk K H t ∧ sz t ≤ 100000 ∧ RL (depV t) H Q
/-- the loop's word -/
def wDep (K : PySem.W.Frag) (a fo wa : Addr) (t : T) (H : Hp) : Nat → L2.St → Hp → Prop := fun i σ H' => ∃ (P : List (Nat × T)) (F : List V) (y3 y4 : Option V),
  σ = [some (.ref a), some (.ref fo), some (.ref wa), y3, y4] ∧ Same H H' ∧ H' fo = some (.lst F) ∧ H' wa = some (.lst (stk eN P)) ∧ Tmks K H P ∧ Stk (· + 1) (fun x => x) (fun x => x) eN t (depV t) i P F
theorem ok_depths (F : Fun K "depths" "depths" (topS 10) f fd) (Z : Glb K mg) : FnOk P w K mg base CX0 1 f fd ["nodes"] (spDep K) := by
  refine F.ok sc_depths (fun vs H Q E h => ?_) (fun cdv A outer s H vs Q E hr h => ?_)
  · obtain ⟨a, t, rfl, _⟩ := h
    rfl
  obtain ⟨a, t, rfl, hT, hN, hz, q⟩ := h
  refine ⟨_, (pss_cons (ps_set (i := 1) sc_depths.nd rfl (.inl rfl) (pe_lst pa_nil))
      (pss_cons (ps_set (i := 2) sc_depths.nd rfl (.inl rfl) (pe_lst (pa_cons pe_int pa_nil)))
      (pss_cons (ps_for PassesOwn.never rfl (pi_tup (pv 0)) (pg_name (i := 3) sc_depths.nd rfl (.inl rfl)) (pss_cons (ps_set (i := 4) sc_depths.nd rfl (.inl rfl) (pe_bm0 PySem.F.plainAttrs_list PySem.F.slot_list_pop PySem.F.type_list_pop mt_pop (pv 2)))
      (pss_cons (ps_expr (pe_bm PySem.F.plainAttrs_list PySem.F.slot_list_append PySem.F.type_list_append mt_append (pv 1) (pa_cons (pv 4) pa_nil)))
      (pss_one (ps_if (pt_cmpR (op_eqS hr.units) (pv 3) pe_str (nomark _)) (pss_cons (ps_expr (pe_bm PySem.F.plainAttrs_list PySem.F.slot_list_append PySem.F.type_list_append mt_append (pv 2) (pa_cons (pv 4) pa_nil)))
      (pss_one (ps_expr (pe_bm PySem.F.plainAttrs_list PySem.F.slot_list_append PySem.F.type_list_append mt_append (pv 2) (pa_cons (pv 4) pa_nil))))) (pss_one (ps_if (pt_not (pt_val (pe_callB call_isI (by rfl) Z.isi PyProof.Rows.boot_isinstance (pa_cons (pv 3) (pa_cons (pe_type (by rfl) Z.int boot_int) pa_nil))))) (pss_one (ps_expr (pe_bm PySem.F.plainAttrs_list PySem.F.slot_list_append PySem.F.type_list_append mt_append (pv 2) (pa_cons (pe_op op_add (pv 4) pe_int) pa_nil)))) pss_nil)))))))
      (pss_one (ps_ret (pv 1)))))), ?_⟩
  refine ⟨Nat.zero_le _, fun fo nf => ?_⟩
  refine ⟨by show 1 ≤ sizeLine; decide, fun wa nw => ?_⟩
  have nfw : fo ≠ wa := fun e => by
    rw [← e, upd_same] at nw
    cases nw
  have nw' : H wa = none := by
    rw [upd_ne nfw.symm] at nw
    exact nw
  have s2 : Same H (upd (upd H fo (.lst [])) wa (.lst [.int 0])) := same_mut (same_new nf) nw'
  refine ⟨.ref a, rfl, a, rfl, ⟨_, same_t s2 hT⟩, for_tup (xs := flat t) (wDep K a fo wa t H) ?_ (fun i σ H' _ h => ?_) (fun i x σ H' hx h => ?_) (fun σ H' h => ?_)⟩
  · refine ⟨[(0, t)], [], none, none, rfl, s2, by rw [upd_ne nfw, upd_same], upd_same, ?_, ?_⟩
    · intro x hx
      rw [List.mem_singleton.mp hx]
      exact hN
    · rw [depV_eq]
      exact Stk.start 0 t
  · obtain ⟨P, F, y3, y4, _, sm, _⟩ := h
    exact same_t sm hT
  · obtain ⟨P, F, y3, y4, rfl, sm, eF, eW, hP, hS⟩ := h
    obtain ⟨d, s', P', rfl, rfl, hS'⟩ := hS.turn hx
    obtain ⟨hs0, hk⟩ := hP.kids (cb := (· + 1)) (cf := fun x => x) (ca := fun x => x)
    have hs' := hs0.mono sm
    have lF := hS'.lenF
    have lP := hS.lenP
    rw [List.length_append, List.length_singleton, List.length_map, deps_len] at lF
    -- depth = waiting.pop()
    have eW' : H' wa = some (.lst (stk eN P' ++ [eN d])) := by rw [eW, stk_cons]
    refine ⟨.ref wa, rfl, .inl ⟨rfl, _, .inl (.inl eW')⟩, wa, _, eN d, rfl, rfl, eW', last_append _ _, ?_⟩
    rw [List.dropLast_concat]
    have eF1 : (upd H' wa (.lst (stk eN P'))) fo = some (.lst F) := by rw [upd_ne nfw]; exact eF
    have sm1 : Same H (upd H' wa (.lst (stk eN P'))) := same_mut sm nw'
    -- found.append(depth)
    refine ⟨.ref fo, rfl, .inl ⟨rfl, _, .inl (.inl eF1)⟩, eN d, rfl, fo, F, eN d, rfl, rfl, eF1, line_of (by omega), ?_⟩
    have eF2 : (upd (upd H' wa (.lst (stk eN P'))) fo (.lst (F ++ [eN d]))) fo = some (.lst (F ++ [eN d])) := upd_same
    have eW2 : (upd (upd H' wa (.lst (stk eN P'))) fo (.lst (F ++ [eN d]))) wa = some (.lst (stk eN P')) := by rw [upd_ne nfw.symm, upd_same]
    have sm2 : Same H (upd (upd H' wa (.lst (stk eN P'))) fo (.lst (F ++ [eN d]))) := same_mut sm1 nf
    generalize (upd (upd H' wa (.lst (stk eN P'))) fo (.lst (F ++ [eN d]))) = H2 at eF2 eW2 sm2 ⊢
    have hs2 := hs0.mono sm2
    have lP' : (stk eN P').length < 100000 := by
      rw [stk_len]
      rw [List.length_cons] at lP
      omega
    refine ⟨_, rfl, _, rfl, can_app, hs2.root, _, rfl, ?_⟩
    cases s' with
    | var n =>
      refine iteF ⟨_, rfl, _, rfl, hs2.root, true, rfl, ?_⟩
      exact ⟨P', F ++ [eN d], _, _, rfl, sm2, eF2, eW2, hk, hS'⟩
    | lam l b =>
      have hl := hs2.nlam
      show if decide (l = V.str "app") = true then _ else _
      rw [dec_ne hl.1]
      refine iteF ⟨_, rfl, _, rfl, hs2.root, _, rfl, ?_⟩
      show if (!isI l) = true then _ else _
      rw [hl.2]
      refine iteT ⟨.ref wa, rfl, .inl ⟨rfl, _, .inl (.inl eW2)⟩, _, rfl, _, _, rfl, rfl, wa, _, _, rfl, rfl, eW2, line_of (by omega), ?_⟩
      exact ⟨(d + 1, b) :: P', F ++ [eN d], _, _, rfl, same_mut sm2 nw', by rw [upd_ne nfw]; exact eF2, by rw [upd_same, stk_cons]; rfl, hk, hS'⟩
    | app g x =>
      refine iteT ⟨.ref wa, rfl, .inl ⟨rfl, _, .inl (.inl eW2)⟩, _, rfl, wa, _, _, rfl, rfl, eW2, line_of (by omega), ?_⟩
      refine ⟨.ref wa, rfl, .inl ⟨rfl, _, .inl (.inl upd_same)⟩, _, rfl, wa, _, _, rfl, rfl, upd_same, line_of (by rw [List.length_append, List.length_singleton]; omega), ?_⟩
      exact ⟨(d, g) :: (d, x) :: P', F ++ [eN d], _, _, rfl, same_mut (same_mut sm2 nw') nw', by rw [upd_ne nfw, upd_ne nfw]; exact eF2, by rw [upd_same, stk_cons, stk_cons], hk, hS'⟩
  · obtain ⟨P, F, y3, y4, rfl, sm, eF, eW, hP, hS⟩ := h
    rw [hS.done] at eF
    exact ⟨.ref fo, rfl, q fo H' nf sm eF⟩
end
end Lyd

set_option Elab.async false
set_option linter.all false
set_option maxRecDepth 100000
set_option maxHeartbeats 1000000
namespace Lyd
open PySem PySem.Spec PyProof.Rows L2
/-- a for over pairs, its target two names -/
theorem for_pair {K : PySem.W.Frag} {J : It} {n : Nat} {G : Hp → Prop} {xs ys : Nat → Option V} (w : Walk J n G (YPair xs ys)) {j k : Nat} {tb : TS} {D : Ends} {σ : L2.St} {H : Hp} (Pv : Nat → L2.St → Hp → Prop) (h0 : Pv 0 σ H) (hG : ∀ i σ H, i ≤ n → Pv i σ H → G H)
    (hs : ∀ i x y σ H H', i < n → xs i = some x → ys i = some y → Pv i σ H → Same H H' → tb { D with nx := Pv (i + 1), ct := Pv (i + 1), bk := D.nx } ((σ.set j (some x)).set k (some y)) H') (hd : ∀ σ H, Pv n σ H → D.nx σ H) :
    ∃ W : Nat → Nat → L2.St → Hp → Prop, (∃ m, W 0 m σ H) ∧ ∀ i m σ H, W i m σ H →
      (J.stop i H ∧ D.nx σ H) ∨ (J.go i H ∧ ∃ N : L2.St → Hp → Prop, (∀ σ' H', N σ' H' → ∃ m', m' < m ∧ W (i + 1) m' σ' H') ∧ ∀ x H', J.yld i H x H' → gTup K 2 (gCons (gName j) (gCons (gName k) gNil)) x σ H' fun σ2 H2 => tb { D with nx := N, ct := N, bk := D.nx } σ2 H2) :=
  for_it w Pv h0 hG (fun i v σ H H' hi hp hy => by
    obtain ⟨T, x, y, rfl, hT, rfl, ex, ey⟩ := hy
    exact ⟨T, [x, y], rfl, .inl (.inl upd_same), rfl, x, [y], rfl, y, [], rfl, rfl, hs i x y σ H _ hi ex ey hp (same_new hT)⟩) hd
theorem zw_get {α β γ : Type} (f : α → β → γ) : ∀ {a : List α} {b : List β} {i : Nat} {x : α} {y : β}, a[i]? = some x → b[i]? = some y → (List.zipWith f a b)[i]? = some (f x y)
  | [], b, i, x, y, h, _ => by simp at h
  | _ :: _, [], i, x, y, _, h => by simp at h
  | p :: a, q :: b, 0, x, y, h, k => by
    have e1 : p = x := Option.some.inj h
    have e2 : q = y := Option.some.inj k
    rw [← e1, ← e2]
    rfl
  | p :: a, q :: b, i + 1, x, y, h, k => zw_get f (a := a) (b := b) (i := i) h k
theorem take_more {α : Type} {l : List α} {i : Nat} {x : α} (h : l[i]? = some x) : l.take (i + 1) = l.take i ++ [x] := by
  rw [List.take_add_one, h]
  rfl
theorem depV_len (t : T) : (depV t).length = (flat t).length := by
  rw [List.length_map, deps_len]
theorem depV_at {t : T} {i : Nat} {y : V} (h : (depV t)[i]? = some y) : ∃ d, (deps 0 t)[i]? = some d ∧ y = .int (d : Nat) := by
  rw [List.getElem?_map] at h
  cases e : (deps 0 t)[i]? with
  | none => rw [e] at h; cases h
  | some d =>
    rw [e] at h
    exact ⟨d, rfl, (Option.some.inj h).symm⟩
section
variable {P : Program} {w : World} {K : PySem.W.Frag} {mg : Str → Option Value} {base : Heap} {f : Addr} {fd : FuncData}
/-! ### lifted -/
theorem sc_lifted : FnScope ["nodes", "count", "found", "node", "depth"] ["nodes", "count"] (defScope (topS 11)) := ⟨rfl, rfl, rfl, by decide +kernel, rfl, by decide +kernel, by decide +kernel⟩
def spLift (K : PySem.W.Frag) : Sp := fun vs H Q _ => ∃ (a : Addr) (t : T) (c : Nat), vs = [.ref a, .int (c : Nat)] ∧ SqT K H a (flat t) ∧ Tmk K H t ∧ sz t ≤ 100000 ∧ RT K (flat (lift c 0 t)) H Q
def wLift (K : PySem.W.Frag) (a fo dl : Addr) (t : T) (c : Nat) (H : Hp) : Nat → L2.St → Hp → Prop := fun i σ H' => ∃ y3 y4, σ = [some (.ref a), some (.int (c : Nat)), some (.ref fo), y3, y4] ∧ Same H H' ∧
  H' fo = some (.lst ((List.zipWith (liftN c) (flat t) (deps 0 t)).take i)) ∧ H' dl = some (.lst (depV t))
theorem ok_lifted (F : Fun K "lifted" "lifted" (topS 11) f fd) (Z : Glb K mg) (D_depths : Df P w K mg base CX0 1 "depths" ["nodes"] (spDep K)) : FnOk P w K mg base CX0 2 f fd ["nodes", "count"] (spLift K) := by
  refine F.ok sc_lifted (fun vs H Q E h => ?_) (fun cdv A outer s H vs Q E hr h => ?_)
  · obtain ⟨a, t, c, rfl, _⟩ := h
    rfl
  obtain ⟨a, t, c, rfl, hT, hN, hz, q⟩ := h
  refine ⟨_, (pss_cons (ps_set (i := 2) sc_lifted.nd rfl (.inl rfl) (pe_lst pa_nil))
      (pss_cons (ps_for PassesOwn.never rfl (pi_zipM (by rfl) Z.zip (pa_cons (pv 0) (pa_cons (pe_callD D_depths (room_in hr) (by rfl) pass0 (pa_cons (pv 0) pa_nil)) pa_nil))) (pg_tup rfl (pgs_cons (pg_name (i := 3) sc_lifted.nd rfl (.inl rfl)) (pgs_cons (pg_name (i := 4) sc_lifted.nd rfl (.inl rfl)) pgs_nil))) (pss_one (ps_if (PW.pt (pw_and (pt_val (pe_callB call_isI (by rfl) Z.isi PyProof.Rows.boot_isinstance (pa_cons (pv 3) (pa_cons (pe_type (by rfl) Z.int boot_int) pa_nil)))) (pw_and1 (pt_cmpR op_ge (pv 3) (pv 4) (nomark _))))) (pss_one (ps_expr (pe_bm PySem.F.plainAttrs_list PySem.F.slot_list_append PySem.F.type_list_append mt_append (pv 2) (pa_cons (pe_op op_add (pv 3) (pv 1)) pa_nil)))) (pss_one (ps_expr (pe_bm PySem.F.plainAttrs_list PySem.F.slot_list_append PySem.F.type_list_append mt_append (pv 2) (pa_cons (pv 3) pa_nil)))))))
      (pss_one (ps_ret (pe_callTy call_tuple_of (by rfl) Z.tup PyProof.Rows.boot_tuple (pa_cons (pv 2) pa_nil)))))), ?_⟩
  refine ⟨Nat.zero_le _, fun fo nf => ?_⟩
  have s1 : Same H (upd H fo (.lst [])) := same_new nf
  refine ⟨.ref a, rfl, .ref a, rfl, a, t, rfl, same_t s1 hT, hN.mono s1, hz, fun dl H1 nd s2 ed => ?_⟩
  have s12 := s1.trans s2
  have nfd : fo ≠ dl := ne_of_none upd_same nd
  refine ⟨a, dl, _, _, rfl, same_t s12 hT, .inl (.inl ed), for_pair (walk_zipM (depV_len t)) (wLift K a fo dl t c H) ⟨none, none, rfl, s12, s2 _ _ upd_same, ed⟩ (fun i σ H' _ h => ?_) (fun i x y σ H2 H3 hi hx hy h sm => ?_) (fun σ H' h => ?_)⟩
  · obtain ⟨y3, y4, _, s3, _, e2⟩ := h
    exact ⟨same_t s3 hT, .inl (.inl e2)⟩
  · obtain ⟨y3, y4, rfl, s3, e1, e2⟩ := h
    obtain ⟨d, hd, rfl⟩ := depV_at hy
    have hx' : (flat t)[i]? = some x := hx
    have e1' := sm _ _ e1
    have e2' := sm _ _ e2
    have s3' := s3.trans sm
    have hn : Nod K H3 x := (hN.mono s3').nods.at hx'
    have hg := zw_get (liftN c) hx' hd
    have hlen : ((List.zipWith (liftN c) (flat t) (deps 0 t)).take i).length < sizeLine := by
      rw [List.length_take]
      exact line_of (by
        have : (flat t).length ≤ 100000 := hz
        have hi' : i < (flat t).length := hi
        omega)
    have fin : ∀ v : V, v = liftN c x d → wLift K a fo dl t c H (i + 1) [some (.ref a), some (.int (c : Nat)), some (.ref fo), some x, some (.int (d : Nat))] (upd H3 fo (.lst ((List.zipWith (liftN c) (flat t) (deps 0 t)).take i ++ [v]))) := fun v hv =>
      ⟨some x, some (.int (d : Nat)), rfl, same_mut s3' nf, by rw [upd_same, take_more hg, hv], by rw [upd_ne nfd.symm]; exact e2'⟩
    refine ⟨_, rfl, _, rfl, hn, _, rfl, ?_⟩
    refine ite_b (fun hb => ?_) (fun hb => ?_)
    · cases x with
      | int v =>
        refine ⟨_, rfl, _, rfl, _, _, rfl, rfl, _, rfl, ?_⟩
        refine ite_b (fun c1 => ?_) (fun c1 => ?_)
        · have c2 : (d : Int) ≤ v := of_decide_eq_true c1
          refine ⟨.ref fo, rfl, .inl ⟨rfl, _, .inl (.inl e1')⟩, _, rfl, _, rfl, _, _, rfl, rfl, fo, _, _, rfl, rfl, e1', hlen, fin _ ?_⟩
          show V.int (v + (c : Nat)) = if v < (d : Nat) then .int v else .int (v + (c : Nat))
          rw [if_neg (by omega)]
        · have c2 : ¬ (d : Int) ≤ v := of_decide_eq_false c1
          refine ⟨.ref fo, rfl, .inl ⟨rfl, _, .inl (.inl e1')⟩, _, rfl, fo, _, _, rfl, rfl, e1', hlen, fin _ ?_⟩
          show V.int v = if v < (d : Nat) then .int v else .int (v + (c : Nat))
          rw [if_pos (by omega)]
      | _ => cases hb
    · refine iteF ⟨.ref fo, rfl, .inl ⟨rfl, _, .inl (.inl e1')⟩, _, rfl, fo, _, _, rfl, rfl, e1', hlen, fin _ ?_⟩
      cases x with
      | int v => cases hb
      | _ => rfl
  · obtain ⟨y3, y4, rfl, s3, e1, e2⟩ := h
    have ef : (List.zipWith (liftN c) (flat t) (deps 0 t)).take (flat t).length = flat (lift c 0 t) := by
      rw [← lift_flat t 0 hN.labd, List.take_of_length_le]
      rw [List.length_zipWith]
      exact Nat.min_le_left _ _
    rw [ef] at e1
    exact ⟨.ref fo, rfl, fo, _, rfl, .inl ⟨.inl (.inl e1), fun p hp => q p _ (s3.trans (same_new hp)) (.inl (.inl upd_same))⟩⟩
end
/-! ### places as texts -/
def cdr : Dr → Nat
  | .b => 98
  | .f => 102
  | .a => 97
def plS (p : Place) : Str := ⟨(p.map cdr).toArray⟩
theorem plS_snoc (p : Place) (d : Dr) : plS (p ++ [d]) = plS p ++ (⟨#[cdr d]⟩ : Str) := by
  show (⟨((p ++ [d]).map cdr).toArray⟩ : Str) = ⟨(p.map cdr).toArray ++ #[cdr d]⟩
  rw [List.map_append]
  simp
theorem str_b : (Str.ofString "b") = ⟨#[98]⟩ := by decide +kernel
theorem str_f : (Str.ofString "f") = ⟨#[102]⟩ := by decide +kernel
theorem str_a : (Str.ofString "a") = ⟨#[97]⟩ := by decide +kernel
theorem str_e : (Str.ofString "") = plS [] := by decide +kernel
theorem cdr_inj {x y : Dr} (h : cdr x = cdr y) : x = y := by cases x <;> cases y <;> first | rfl | cases h
theorem plS_inj {p q : Place} (h : plS p = plS q) : p = q := by
  have h1 : (p.map cdr).toArray = (q.map cdr).toArray := congrArg Str.cps h
  have h2 : p.map cdr = q.map cdr := by simpa using congrArg Array.toList h1
  clear h h1
  induction p generalizing q with
  | nil =>
    cases q with
    | nil => rfl
    | cons y q => cases h2
  | cons x p ih =>
    cases q with
    | nil => cases h2
    | cons y q =>
      injection h2 with e1 e2
      rw [cdr_inj e1, ih e2]
theorem plS_len (p : Place) : (plS p).length = p.length := by
  show (p.map cdr).toArray.size = _
  rw [List.size_toArray, List.length_map]
def eP (p : Place) : V := .str (plS p)
abbrev plV (t : T) : List V := (pns [] t).map fun x => eP x.1
theorem plV_len (t : T) : (plV t).length = (flat t).length := by
  rw [List.length_map, pns_len]
/-- places are no longer than the term -/
theorem pns_depth : ∀ (t : T) (p0 : Place) (x : Place × T), x ∈ pns p0 t → x.1.length ≤ p0.length + sz t
  | .var n, p0, x, h => by
    rw [List.mem_singleton.mp h]
    exact Nat.le_add_right _ _
  | .lam m b, p0, x, h => by
    rw [pns_lam] at h
    rcases List.mem_cons.mp h with rfl | h
    · exact Nat.le_add_right _ _
    · have := pns_depth b _ x h
      rw [List.length_append, List.length_singleton] at this
      rw [sz_lam]
      omega
  | .app f a, p0, x, h => by
    rw [pns_app] at h
    rcases List.mem_cons.mp h with rfl | h
    · exact Nat.le_add_right _ _
    · rw [sz_app]
      rcases List.mem_append.mp h with h | h
      · have := pns_depth f _ x h
        rw [List.length_append, List.length_singleton] at this
        omega
      · have := pns_depth a _ x h
        rw [List.length_append, List.length_singleton] at this
        omega
section
variable {P : Program} {w : World} {K : PySem.W.Frag} {mg : Str → Option Value} {base : Heap} {f : Addr} {fd : FuncData}
/-! ### placed_nodes -/
theorem sc_placed_nodes : FnScope ["nodes", "found", "waiting", "node", "place"] ["nodes"] (defScope (topS 14)) := ⟨rfl, rfl, rfl, by decide +kernel, rfl, by decide +kernel, by decide +kernel⟩
def spPl (K : PySem.W.Frag) : Sp := fun vs H Q _ => ∃ (a : Addr) (t : T), vs = [.ref a] ∧ SqT K H a (flat t) ∧ Tmk K H t ∧ sz t ≤ 100000 ∧ RL (plV t) H Q
abbrev PStk (t : T) := Stk (α := Place) (· ++ [Dr.b]) (· ++ [Dr.f]) (· ++ [Dr.a]) eP t (plV t)
theorem PStk.short {t : T} {i : Nat} {p : Place} {s : T} {P' : List (Place × T)} {F : List V} (h : PStk t i ((p, s) :: P') F) : p.length ≤ sz t := by
  have e := h.all
  rw [ndsP_cons] at e
  have hm : eP p ∈ plV t := by
    rw [← e]
    refine List.mem_append_right _ (List.mem_map.mpr ⟨(p, s), List.mem_append_left _ ?_, rfl⟩)
    cases s <;> exact List.mem_cons_self
  obtain ⟨x, hx, ex⟩ := List.mem_map.mp hm
  have e2 : x.1 = p := plS_inj (V.str.inj ex)
  have := pns_depth t [] x hx
  rw [e2] at this
  simpa using this
def wPl (K : PySem.W.Frag) (a fo wa : Addr) (t : T) (H : Hp) : Nat → L2.St → Hp → Prop := fun i σ H' => ∃ (P : List (Place × T)) (F : List V) (y3 y4 : Option V),
  σ = [some (.ref a), some (.ref fo), some (.ref wa), y3, y4] ∧ Same H H' ∧ H' fo = some (.lst F) ∧ H' wa = some (.lst (stk eP P)) ∧ Tmks K H P ∧ PStk t i P F
theorem ok_placed_nodes (F : Fun K "placed_nodes" "placed_nodes" (topS 14) f fd) (Z : Glb K mg) : FnOk P w K mg base CX0 1 f fd ["nodes"] (spPl K) := by
  refine F.ok sc_placed_nodes (fun vs H Q E h => ?_) (fun cdv A outer s H vs Q E hr h => ?_)
  · obtain ⟨a, t, rfl, _⟩ := h
    rfl
  obtain ⟨a, t, rfl, hT, hN, hz, q⟩ := h
  refine ⟨_, (pss_cons (ps_set (i := 1) sc_placed_nodes.nd rfl (.inl rfl) (pe_lst pa_nil))
      (pss_cons (ps_set (i := 2) sc_placed_nodes.nd rfl (.inl rfl) (pe_lst (pa_cons pe_str pa_nil)))
      (pss_cons (ps_for PassesOwn.never rfl (pi_tup (pv 0)) (pg_name (i := 3) sc_placed_nodes.nd rfl (.inl rfl)) (pss_cons (ps_set (i := 4) sc_placed_nodes.nd rfl (.inl rfl) (pe_bm0 PySem.F.plainAttrs_list PySem.F.slot_list_pop PySem.F.type_list_pop mt_pop (pv 2)))
      (pss_cons (ps_expr (pe_bm PySem.F.plainAttrs_list PySem.F.slot_list_append PySem.F.type_list_append mt_append (pv 1) (pa_cons (pv 4) pa_nil)))
      (pss_one (ps_if (pt_cmpR (op_eqS hr.units) (pv 3) pe_str (nomark _)) (pss_cons (ps_expr (pe_bm PySem.F.plainAttrs_list PySem.F.slot_list_append PySem.F.type_list_append mt_append (pv 2) (pa_cons (pe_op op_add_str (pv 4) pe_str) pa_nil)))
      (pss_one (ps_expr (pe_bm PySem.F.plainAttrs_list PySem.F.slot_list_append PySem.F.type_list_append mt_append (pv 2) (pa_cons (pe_op op_add_str (pv 4) pe_str) pa_nil))))) (pss_one (ps_if (pt_not (pt_val (pe_callB call_isI (by rfl) Z.isi PyProof.Rows.boot_isinstance (pa_cons (pv 3) (pa_cons (pe_type (by rfl) Z.int boot_int) pa_nil))))) (pss_one (ps_expr (pe_bm PySem.F.plainAttrs_list PySem.F.slot_list_append PySem.F.type_list_append mt_append (pv 2) (pa_cons (pe_op op_add_str (pv 4) pe_str) pa_nil)))) pss_nil)))))))
      (pss_one (ps_ret (pv 1)))))), ?_⟩
  refine ⟨Nat.zero_le _, fun fo nf => ?_⟩
  refine ⟨by show 1 ≤ sizeLine; decide, fun wa nw => ?_⟩
  have nfw : fo ≠ wa := fun e => by
    rw [← e, upd_same] at nw
    cases nw
  have nw' : H wa = none := by
    rw [upd_ne nfw.symm] at nw
    exact nw
  rw [str_e]
  have s2 : Same H (upd (upd H fo (.lst [])) wa (.lst [.str (plS [])])) := same_mut (same_new nf) nw'
  refine ⟨.ref a, rfl, a, rfl, ⟨_, same_t s2 hT⟩, for_tup (xs := flat t) (wPl K a fo wa t H) ?_ (fun i σ H' _ h => ?_) (fun i x σ H' hx h => ?_) (fun σ H' h => ?_)⟩
  · refine ⟨[([], t)], [], none, none, rfl, s2, by rw [upd_ne nfw, upd_same], upd_same, ?_, Stk.start [] t⟩
    intro x hx
    rw [List.mem_singleton.mp hx]
    exact hN
  · obtain ⟨P, F, y3, y4, _, sm, _⟩ := h
    exact same_t sm hT
  · obtain ⟨P, F, y3, y4, rfl, sm, eF, eW, hP, hS⟩ := h
    obtain ⟨d, s', P', rfl, rfl, hS'⟩ := hS.turn hx
    obtain ⟨hs0, hk⟩ := hP.kids (cb := (· ++ [Dr.b])) (cf := (· ++ [Dr.f])) (ca := (· ++ [Dr.a]))
    have hs' := hs0.mono sm
    have lF := hS'.lenF
    have lP := hS.lenP
    have ld := hS.short
    rw [List.length_append, List.length_singleton, plV_len] at lF
    have lF' : F.length + 1 ≤ sz t := lF
    have eW' : H' wa = some (.lst (stk eP P' ++ [eP d])) := by rw [eW, stk_cons]
    refine ⟨.ref wa, rfl, .inl ⟨rfl, _, .inl (.inl eW')⟩, wa, _, eP d, rfl, rfl, eW', last_append _ _, ?_⟩
    rw [List.dropLast_concat]
    have eF1 : (upd H' wa (.lst (stk eP P'))) fo = some (.lst F) := by rw [upd_ne nfw]; exact eF
    have sm1 : Same H (upd H' wa (.lst (stk eP P'))) := same_mut sm nw'
    refine ⟨.ref fo, rfl, .inl ⟨rfl, _, .inl (.inl eF1)⟩, eP d, rfl, fo, F, eP d, rfl, rfl, eF1, line_of (by omega), ?_⟩
    have eF2 : (upd (upd H' wa (.lst (stk eP P'))) fo (.lst (F ++ [eP d]))) fo = some (.lst (F ++ [eP d])) := upd_same
    have eW2 : (upd (upd H' wa (.lst (stk eP P'))) fo (.lst (F ++ [eP d]))) wa = some (.lst (stk eP P')) := by rw [upd_ne nfw.symm, upd_same]
    have sm2 : Same H (upd (upd H' wa (.lst (stk eP P'))) fo (.lst (F ++ [eP d]))) := same_mut sm1 nf
    generalize (upd (upd H' wa (.lst (stk eP P'))) fo (.lst (F ++ [eP d]))) = H2 at eF2 eW2 sm2 ⊢
    have hs2 := hs0.mono sm2
    have lP' : (stk eP P').length < 100000 := by
      rw [stk_len]
      rw [List.length_cons] at lP
      omega
    have sized : ∀ z : Str, z.length = 1 → (plS d).length + z.length ≤ sizeLine := fun z hz' => by
      rw [plS_len, hz']
      exact line_le (by omega)
    refine ⟨_, rfl, _, rfl, can_app, hs2.root, _, rfl, ?_⟩
    cases s' with
    | var n =>
      refine iteF ⟨_, rfl, _, rfl, hs2.root, true, rfl, ?_⟩
      exact ⟨P', F ++ [eP d], _, _, rfl, sm2, eF2, eW2, hk, hS'⟩
    | lam l b =>
      have hl := hs2.nlam
      show if decide (l = V.str "app") = true then _ else _
      rw [dec_ne hl.1]
      refine iteF ⟨_, rfl, _, rfl, hs2.root, _, rfl, ?_⟩
      show if (!isI l) = true then _ else _
      rw [hl.2]
      refine iteT ⟨.ref wa, rfl, .inl ⟨rfl, _, .inl (.inl eW2)⟩, _, rfl, _, _, rfl, rfl, sized _ (by rw [str_b]; rfl), wa, _, _, rfl, rfl, eW2, line_of (by omega), ?_⟩
      exact ⟨(d ++ [Dr.b], b) :: P', F ++ [eP d], _, _, rfl, same_mut sm2 nw', by rw [upd_ne nfw]; exact eF2, by rw [upd_same, stk_cons, str_b]; unfold eP; rw [plS_snoc]; rfl, hk, hS'⟩
    | app g x =>
      refine iteT ⟨.ref wa, rfl, .inl ⟨rfl, _, .inl (.inl eW2)⟩, _, rfl, _, _, rfl, rfl, sized _ (by rw [str_a]; rfl), wa, _, _, rfl, rfl, eW2, line_of (by omega), ?_⟩
      refine ⟨.ref wa, rfl, .inl ⟨rfl, _, .inl (.inl upd_same)⟩, _, rfl, _, _, rfl, rfl, sized _ (by rw [str_f]; rfl), wa, _, _, rfl, rfl, upd_same, line_of (by rw [List.length_append, List.length_singleton]; omega), ?_⟩
      refine ⟨(d ++ [Dr.f], g) :: (d ++ [Dr.a], x) :: P', F ++ [eP d], _, _, rfl, same_mut (same_mut sm2 nw') nw', by rw [upd_ne nfw, upd_ne nfw]; exact eF2, ?_, hk, hS'⟩
      rw [upd_same, stk_cons, stk_cons, str_a, str_f]
      unfold eP
      rw [plS_snoc, plS_snoc]
      rfl
  · obtain ⟨P, F, y3, y4, rfl, sm, eF, eW, hP, hS⟩ := h
    rw [hS.done] at eF
    exact ⟨.ref fo, rfl, q fo H' nf sm eF⟩
end
end Lyd

set_option Elab.async false
set_option linter.all false
set_option maxRecDepth 100000
set_option maxHeartbeats 1000000
namespace Lyd
open PySem PySem.Spec PyProof.Rows L2
def isRx (s : T) : Bool := (rlab s).isSome
theorem plS_at {p : Place} {j c : Nat} (h : (plS p).cps[j]? = some c) : ∃ d, p[j]? = some d ∧ c = cdr d := by
  have h' : (p.map cdr).toArray[j]? = some c := h
  rw [List.getElem?_toArray, List.getElem?_map] at h'
  cases e : p[j]? with
  | none => rw [e] at h'; cases h'
  | some d =>
    rw [e] at h'
    exact ⟨d, rfl, (Option.some.inj h').symm⟩
theorem plS_size (p : Place) : (plS p).cps.size = p.length := plS_len p
section
variable {P : Program} {w : World} {K : PySem.W.Frag} {mg : Str → Option Value} {base : Heap} {f : Addr} {fd : FuncData}
/-! ### index_of -/
theorem sc_index_of : FnScope ["nodes", "place", "at", "letter", "node"] ["nodes", "place"] (defScope (topS 15)) := ⟨rfl, rfl, rfl, by decide +kernel, rfl, by decide +kernel, by decide +kernel⟩
def spIx (K : PySem.W.Frag) : Sp := fun vs H Q _ => ∃ (a : Addr) (t s : T) (p : Place) (i : Nat), vs = [.ref a, .str (plS p)] ∧ SqT K H a (flat t) ∧ Tmk K H t ∧ ix t p = some (i, s) ∧ Q (.int (i : Nat)) H
def wIx (K : PySem.W.Frag) (a : Addr) (t s : T) (p : Place) (i : Nat) (H : Hp) : Nat → L2.St → Hp → Prop := fun j σ H' => H' = H ∧ ∃ (pre post : List V) (r : T) (k : Nat) (y3 y4 : Option V),
  σ = [some (.ref a), some (.str (plS p)), some (.int (pre.length : Nat)), y3, y4] ∧ flat t = pre ++ (flat r ++ post) ∧ Tmk K H r ∧ ix r (p.drop j) = some (k, s) ∧ pre.length + k = i
theorem ok_index_of (F : Fun K "index_of" "index_of" (topS 15) f fd) (Z : Glb K mg) (D_end_of : Df P w K mg base CX0 1 "end_of" ["nodes", "start"] (spEnd K)) : FnOk P w K mg base CX0 2 f fd ["nodes", "place"] (spIx K) := by
  refine F.ok sc_index_of (fun vs H Q E h => ?_) (fun cdv A outer st H vs Q E hr h => ?_)
  · obtain ⟨a, t, s, p, i, rfl, _⟩ := h
    rfl
  obtain ⟨a, t, s, p, i, rfl, hT, hN, hi, q⟩ := h
  refine ⟨_, (pss_cons (ps_set (i := 2) sc_index_of.nd rfl (.inl rfl) pe_int)
      (pss_cons (ps_for PassesOwn.never rfl (pi_str (pv 1)) (pg_name (i := 3) sc_index_of.nd rfl (.inl rfl)) (pss_cons (ps_set (i := 4) sc_index_of.nd rfl (.inl rfl) (pe_ix ix_tup (pv 0) (pv 2) (fun _ _ => rfl)))
      (pss_cons (ps_if (pt_val (pe_callB call_isI (by rfl) Z.isi PyProof.Rows.boot_isinstance (pa_cons (pv 4) (pa_cons (pe_type (by rfl) Z.int boot_int) pa_nil)))) (pss_one (ps_ret (pe_un un_neg pe_int))) pss_nil)
      (pss_one (ps_if (PW.pt (pw_and (pt_cmpR (op_eqS hr.units) (pv 4) pe_str (nomark _)) (pw_and1 (pt_cmpR op_eq (pv 3) pe_str (nomark _))))) (pss_one (ps_set (i := 2) sc_index_of.nd rfl (.inl rfl) (pe_callD D_end_of (room_in hr) (by rfl) pass0 (pa_cons (pv 0) (pa_cons (pe_op op_add (pv 2) pe_int) pa_nil))))) (pss_one (ps_if (PW.pt (pw_or (PW.pt (pw_and (pt_cmpR (op_eqS hr.units) (pv 4) pe_str (nomark _)) (pw_and1 (pt_cmpR op_eq (pv 3) pe_str (nomark _))))) (pw_or1 (PW.pt (pw_and (pt_cmpR (op_neS hr.units) (pv 4) pe_str (nomark _)) (pw_and1 (pt_cmpR op_eq (pv 3) pe_str (nomark _)))))))) (pss_one (ps_aug (i := 2) sc_index_of.nd rfl (.inl rfl) pe_int ip_add)) (pss_one (ps_ret (pe_un un_neg pe_int))))))))))
      (pss_one (ps_ret (pv 2))))), ?_⟩
  refine ⟨_, rfl, plS p, rfl, for_it walk_str (wIx K a t s p i H) ⟨rfl, [], [], t, i, none, none, rfl, by simp, hN, hi, by simp⟩ (fun _ _ _ _ _ => True.intro) (fun j x σ H1 H2 hj h hy => ?_) (fun σ H1 h => ?_)⟩
  · obtain ⟨rfl, pre, post, r, k, y3, y4, rfl, hx, hr', hk, hl⟩ := h
    obtain ⟨rfl, c, hc, rfl⟩ := hy
    obtain ⟨d, hd, rfl⟩ := plS_at hc
    rw [drop_cons hd] at hk
    have hg : (flat t)[pre.length]? = some (root r) := by
      obtain ⟨q', e⟩ := flat_root r
      exact get_pre (r := q' ++ post) (by rw [hx, e]; rfl) rfl
    refine ⟨_, rfl, _, rfl, _, _, _, _, rfl, rfl, hT, atI_nat hg, ?_⟩
    refine ⟨_, rfl, _, rfl, hr'.root, _, rfl, ?_⟩
    cases r with
    | var n => cases d <;> cases hk
    | lam l b =>
      have hl' := hr'.nlam
      show if isI l = true then _ else _
      rw [hl'.2]
      refine iteF ⟨_, rfl, _, rfl, can_app, hr'.root, _, rfl, ?_⟩
      show if decide (l = V.str "app") = true then _ else _
      rw [dec_ne hl'.1]
      refine iteF (iteF ⟨_, rfl, _, rfl, can_app, hr'.root, _, rfl, ?_⟩)
      show if decide (l = V.str "app") = true then _ else _
      rw [dec_ne hl'.1]
      refine iteF (iteF ⟨_, rfl, _, rfl, can_app, hr'.root, _, rfl, ?_⟩)
      show if (!decide (l = V.str "app")) = true then _ else _
      rw [dec_ne hl'.1]
      cases d with
      | f => cases hk
      | a => cases hk
      | b =>
        refine iteT ⟨_, rfl, rfl, true, by decide +kernel, ?_⟩
        refine iteT ⟨_, rfl, _, _, rfl, rfl, ?_⟩
        rw [ix_b] at hk
        cases e : ix b (p.drop (j + 1)) with
        | none => rw [e] at hk; cases hk
        | some z =>
          rw [e] at hk
          cases hk
          exact ⟨rfl, pre ++ [l], post, b, z.1, _, _, by rw [List.length_append]; rfl, by rw [hx]; show pre ++ (l :: flat b ++ post) = _; simp, hr'.lam, e, by rw [List.length_append, List.length_singleton]; omega⟩
    | app g x =>
      refine iteF ⟨_, rfl, _, rfl, can_app, hr'.root, _, rfl, iteT ?_⟩
      cases d with
      | b => cases hk
      | a =>
        refine ⟨_, rfl, rfl, true, by decide +kernel, iteT ?_⟩
        refine ⟨_, rfl, _, rfl, _, _, rfl, rfl, a, _, pre ++ [V.str "app"], flat x ++ post, g, pre.length + 1, rfl, hT, hr'.app.1, ?_, by rw [List.length_append]; rfl, ?_⟩
        · rw [hx]; show pre ++ (V.str "app" :: (flat g ++ flat x) ++ post) = _; simp
        rw [ix_a] at hk
        cases e : ix x (p.drop (j + 1)) with
        | none => rw [e] at hk; cases hk
        | some z =>
          rw [e] at hk
          cases hk
          refine ⟨rfl, pre ++ (V.str "app" :: flat g), post, x, z.1, some (.str ⟨#[cdr Dr.a]⟩), some (root (.app g x)), ?_, by rw [hx]; show pre ++ (V.str "app" :: (flat g ++ flat x) ++ post) = _; simp, hr'.app.2, e, ?_⟩
          · rw [List.length_append, List.length_cons]
            have e1 : pre.length + 1 + sz g = pre.length + ((flat g).length + 1) := by
              show pre.length + 1 + (flat g).length = _
              omega
            rw [e1]
            rfl
          · rw [List.length_append, List.length_cons]
            show pre.length + (sz g + 1) + z.1 = i
            omega
      | f =>
        refine ⟨_, rfl, rfl, false, by decide +kernel, iteF ?_⟩
        refine ⟨_, rfl, _, rfl, can_app, hr'.root, _, rfl, iteT ?_⟩
        refine ⟨_, rfl, rfl, true, by decide +kernel, iteT (iteT ⟨_, rfl, _, _, rfl, rfl, ?_⟩)⟩
        rw [ix_f] at hk
        cases e : ix g (p.drop (j + 1)) with
        | none => rw [e] at hk; cases hk
        | some z =>
          rw [e] at hk
          cases hk
          exact ⟨rfl, pre ++ [V.str "app"], flat x ++ post, g, z.1, _, _, by rw [List.length_append]; rfl, by rw [hx]; show pre ++ (V.str "app" :: (flat g ++ flat x) ++ post) = _; simp, hr'.app.1, e, by rw [List.length_append, List.length_singleton]; omega⟩
  · obtain ⟨rfl, pre, post, r, k, y3, y4, rfl, hx, hr', hk, hl⟩ := h
    rw [plS_size, List.drop_length, ix_nil] at hk
    cases hk
    rw [Nat.add_zero] at hl
    rw [← hl] at q
    exact ⟨_, rfl, q⟩
/-! ### is_redex -/
theorem sc_is_redex : FnScope ["nodes", "at"] ["nodes", "at"] (defScope (topS 17)) := ⟨rfl, rfl, rfl, by decide +kernel, rfl, by decide +kernel, by decide +kernel⟩
def spRx (K : PySem.W.Frag) : Sp := fun vs H Q _ => ∃ (a : Addr) (xs pre post : List V) (s : T) (n : Nat), vs = [.ref a, .int (n : Nat)] ∧ SqT K H a xs ∧ Tmk K H s ∧ xs = pre ++ (flat s ++ post) ∧ pre.length = n ∧ Q (.bl (isRx s)) H
theorem ok_is_redex (F : Fun K "is_redex" "is_redex" (topS 17) f fd) (Z : Glb K mg) : FnOk P w K mg base CX0 1 f fd ["nodes", "at"] (spRx K) := by
  refine F.ok sc_is_redex (fun vs H Q E h => ?_) (fun cdv A outer st H vs Q E hr h => ?_)
  · obtain ⟨a, xs, pre, post, s, n, rfl, _⟩ := h
    rfl
  obtain ⟨a, xs, pre, post, s, n, rfl, hT, hN, hx, hl, q⟩ := h
  refine ⟨_, (pss_one (ps_ret (pe_and (pe_cmpR (op_eqS hr.units) (pe_ix ix_tup (pv 0) (pv 1) (fun _ _ => rfl)) pe_str (nomark _)) (pe_and (pe_cmpR (op_neS hr.units) (pe_ix ix_tup (pv 0) (pe_op op_add (pv 1) pe_int) (fun _ _ => rfl)) pe_str (nomark _)) (pe_one (pe_not (pe_callB call_isI (by rfl) Z.isi PyProof.Rows.boot_isinstance (pa_cons (pe_ix ix_tup (pv 0) (pe_op op_add (pv 1) pe_int) (fun _ _ => rfl)) (pa_cons (pe_type (by rfl) Z.int boot_int) pa_nil))))))))), ?_⟩
  have hg : xs[n]? = some (root s) := by
    obtain ⟨q', e⟩ := flat_root s
    exact get_pre (r := q' ++ post) (by rw [hx, e]; rfl) hl
  refine ⟨_, rfl, _, rfl, _, _, _, _, rfl, rfl, hT, atI_nat hg, _, rfl, can_app, hN.root, _, rfl, ?_⟩
  cases s with
  | var v => exact iteF q
  | lam l b =>
    have hl' := hN.nlam
    show if decide (l = V.str "app") = true then _ else _
    rw [dec_ne hl'.1]
    exact iteF q
  | app g x =>
    have hg2 : xs[n + 1]? = some (root g) := by
      obtain ⟨q', e⟩ := flat_root g
      exact get_pre (pre := pre ++ [V.str "app"]) (r := q' ++ flat x ++ post) (by rw [hx]; show pre ++ (V.str "app" :: (flat g ++ flat x) ++ post) = _; rw [e]; simp) (by rw [List.length_append, hl]; rfl)
    have hgn := hN.app.1
    refine iteT ⟨_, rfl, _, rfl, _, _, rfl, rfl, _, _, _, _, rfl, rfl, hT, atI_nat (j := n + 1) hg2, _, rfl, can_app, hgn.root, _, rfl, ?_⟩
    cases g with
    | app g y => exact iteF q
    | var v =>
      refine iteT ⟨_, rfl, _, rfl, _, _, rfl, rfl, _, _, _, _, rfl, rfl, hT, atI_nat (j := n + 1) hg2, _, rfl, hgn.root, _, rfl, ?_⟩
      exact q
    | lam l b =>
      have hl' := hgn.nlam
      show if (!decide (l = V.str "app")) = true then _ else _
      rw [dec_ne hl'.1]
      refine iteT ⟨_, rfl, _, rfl, _, _, rfl, rfl, _, _, _, _, rfl, rfl, hT, atI_nat (j := n + 1) hg2, _, rfl, hgn.root, _, rfl, ?_⟩
      show Q (.bl (!isI l)) H
      rw [hl'.2]
      exact q
/-! ### redexes -/
theorem sc_redexes : FnScope ["term", "found", "at", "place"] ["term"] (defScope (topS 18)) := ⟨rfl, rfl, rfl, by decide +kernel, rfl, by decide +kernel, by decide +kernel⟩
abbrev rdV (t : T) : List V := (rdx t).map fun x => eP x.1
def spRds (K : PySem.W.Frag) : Sp := fun vs H Q _ => ∃ (a : Addr) (t : T), vs = [.ref a] ∧ SqT K H a (flat t) ∧ Tmk K H t ∧ sz t ≤ 100000 ∧ RL (rdV t) H Q
/-- what is found among the first i parts -/
def fnd {β : Type} (g : Place → V → β) (t : T) (i : Nat) : List β := ((pns [] t).take i).filterMap fun x => (rlab x.2).map fun m => g x.1 m
theorem fnd_all {β : Type} (g : Place → V → β) (t : T) : fnd g t (flat t).length = (rdx t).map fun x => g x.1 x.2 := by
  unfold fnd
  rw [List.take_of_length_le (by rw [pns_len]; exact Nat.le_refl _)]
  have e := rdx_pns t []
  have e' : (rdx t).map (fun x => (([] : Place) ++ x.1, x.2)) = rdx t := by
    have : (fun x : Place × V => (([] : Place) ++ x.1, x.2)) = id := by funext x; rfl
    rw [this, List.map_id]
  rw [e'] at e
  rw [← e, List.map_filterMap]
  congr 1
  funext x
  cases rlab x.2 <;> rfl
theorem fnd_more {β : Type} {g : Place → V → β} {t : T} {i : Nat} {p : Place} {s : T} (h : (pns [] t)[i]? = some (p, s)) : fnd g t (i + 1) = fnd g t i ++ (match rlab s with | some m => [g p m] | none => []) := by
  unfold fnd
  rw [take_more h, List.filterMap_append]
  congr 1
  rw [List.filterMap_cons, List.filterMap_nil]
  cases rlab s <;> rfl
theorem fnd_len {β : Type} {g : Place → V → β} {t : T} {i : Nat} : (fnd g t i).length ≤ sz t := by
  unfold fnd
  refine Nat.le_trans (List.length_filterMap_le _ _) ?_
  rw [List.length_take, pns_len]
  exact Nat.min_le_right _ _
def wRds (K : PySem.W.Frag) (a fo pl : Addr) (t : T) (H : Hp) : Nat → L2.St → Hp → Prop := fun i σ H' => ∃ y2 y3, σ = [some (.ref a), some (.ref fo), y2, y3] ∧ Same H H' ∧ H' fo = some (.lst (fnd (fun p _ => eP p) t i)) ∧ H' pl = some (.lst (plV t))
theorem ok_redexes (F : Fun K "redexes" "redexes" (topS 18) f fd) (Z : Glb K mg) (D_placed_nodes : Df P w K mg base CX0 1 "placed_nodes" ["nodes"] (spPl K)) (D_is_redex : Df P w K mg base CX0 1 "is_redex" ["nodes", "at"] (spRx K)) :
    FnOk P w K mg base CX0 2 f fd ["term"] (spRds K) := by
  refine F.ok sc_redexes (fun vs H Q E h => ?_) (fun cdv A outer st H vs Q E hr h => ?_)
  · obtain ⟨a, t, rfl, _⟩ := h
    rfl
  obtain ⟨a, t, rfl, hT, hN, hz, q⟩ := h
  refine ⟨_, (pss_cons (ps_set (i := 1) sc_redexes.nd rfl (.inl rfl) (pe_lst pa_nil))
      (pss_cons (ps_for PassesOwn.never rfl (pi_enum (by rfl) Z.enu (pa_cons (pe_callD D_placed_nodes (room_in hr) (by rfl) pass0 (pa_cons (pv 0) pa_nil)) pa_nil)) (pg_tup rfl (pgs_cons (pg_name (i := 2) sc_redexes.nd rfl (.inl rfl)) (pgs_cons (pg_name (i := 3) sc_redexes.nd rfl (.inl rfl)) pgs_nil))) (pss_one (ps_if (pt_val (pe_callD D_is_redex (room_in hr) (by rfl) pass0 (pa_cons (pv 0) (pa_cons (pv 2) pa_nil)))) (pss_one (ps_expr (pe_bm PySem.F.plainAttrs_list PySem.F.slot_list_append PySem.F.type_list_append mt_append (pv 1) (pa_cons (pv 3) pa_nil)))) pss_nil)))
      (pss_one (ps_ret (pv 1))))), ?_⟩
  refine ⟨Nat.zero_le _, fun fo nf => ?_⟩
  have s1 : Same H (upd H fo (.lst [])) := same_new nf
  refine ⟨.ref a, rfl, a, t, rfl, same_t s1 hT, hN.mono s1, hz, fun pl H1 np s2 ep => ?_⟩
  have s12 := s1.trans s2
  have nfp : fo ≠ pl := ne_of_none upd_same np
  refine ⟨pl, plV t, rfl, .inl (.inl ep), for_pair (walk_enum (xs := plV t)) (wRds K a fo pl t H) ⟨none, none, rfl, s12, s2 _ _ upd_same, ep⟩ (fun i σ H' _ h => ?_) (fun i x y σ H2 H3 hi hx hy h sm => ?_) (fun σ H' h => ?_)⟩
  · obtain ⟨y2, y3, _, _, _, e2⟩ := h
    exact .inl (.inl e2)
  · obtain ⟨y2, y3, rfl, s3, e1, e2⟩ := h
    cases Option.some.inj hx
    have e1' := sm _ _ e1
    have e2' := sm _ _ e2
    have s3' := s3.trans sm
    rw [List.getElem?_map] at hy
    cases e : (pns [] t)[i]? with
    | none => rw [e] at hy; cases hy
    | some z =>
      rw [e] at hy
      have ey : eP z.1 = y := Option.some.inj hy
      subst ey
      obtain ⟨p, s⟩ := z
      obtain ⟨pre, post, hx', hl⟩ := nds_at t [] i p s e
      have hs : Tmk K H3 s := by
        obtain ⟨p', _, hi'⟩ := pns_ix t [] i p s e
        exact (hN.mono s3').ix hi'
      refine ⟨_, rfl, _, rfl, a, _, pre, post, s, i, rfl, same_t s3' hT, hs, hx', hl, ?_⟩
      have hm := fnd_more (g := fun p _ => eP p) e
      have hlen : (fnd (fun p _ => eP p) t i).length < sizeLine := line_of (Nat.le_trans fnd_len (by omega))
      refine ⟨_, rfl, ?_⟩
      cases er : rlab s with
      | none =>
        have eb : isRx s = false := by unfold isRx; rw [er]; rfl
        rw [eb]
        rw [er] at hm
        simp only [List.append_nil] at hm
        exact iteF ⟨_, _, rfl, s3', by rw [hm]; exact e1', e2'⟩
      | some m =>
        have eb : isRx s = true := by unfold isRx; rw [er]; rfl
        rw [eb]
        rw [er] at hm
        refine iteT ⟨.ref fo, rfl, .inl ⟨rfl, _, .inl (.inl e1')⟩, _, rfl, fo, _, _, rfl, rfl, e1', hlen, ?_⟩
        exact ⟨_, _, rfl, same_mut s3' nf, by rw [upd_same, hm], by rw [upd_ne nfp.symm]; exact e2'⟩
  · obtain ⟨y2, y3, rfl, s3, e1, e2⟩ := h
    rw [plV_len, fnd_all] at e1
    exact ⟨.ref fo, rfl, q fo _ nf s3 e1⟩
end
end Lyd

set_option Elab.async false
set_option linter.all false
set_option maxRecDepth 100000
set_option maxHeartbeats 1000000
namespace Lyd
open PySem PySem.Spec PyProof.Rows L2
/-- a term is too large -/
def big (t : T) : Prop := 1000 < sz t ∨ ¬ vb 1000000 t
def toI : V → Option Int
  | .int i => some i
  | _ => none
def intsOf (xs : List V) : List Int := xs.filterMap toI
theorem mem_ints {xs : List V} {i : Int} : i ∈ intsOf xs ↔ V.int i ∈ xs := by
  unfold intsOf
  rw [List.mem_filterMap]
  constructor
  · rintro ⟨x, hx, e⟩
    cases x with
    | int j =>
      cases e
      exact hx
    | _ => cases e
  · intro h
    exact ⟨_, h, rfl⟩
theorem ints_more {xs : List V} {i : Nat} {x : V} (h : xs[i]? = some x) : (intsOf (xs.take (i + 1))).map V.int = (intsOf (xs.take i)).map V.int ++ (if isI x = true then [x] else []) := by
  unfold intsOf
  rw [take_more h, List.filterMap_append, List.map_append]
  congr 1
  rw [List.filterMap_cons, List.filterMap_nil]
  cases x <;> rfl
theorem ints_len (xs : List V) (i : Nat) : ((intsOf (xs.take i)).map V.int).length ≤ xs.length := by
  rw [List.length_map]
  refine Nat.le_trans (List.length_filterMap_le _ _) ?_
  rw [List.length_take]
  exact Nat.min_le_right _ _
theorem not_vb {N : Nat} : ∀ (t : T), ¬ vb N t → ∃ n : Nat, V.int (n : Nat) ∈ flat t ∧ N < n
  | .var n, h => ⟨n, List.mem_singleton.mpr rfl, Nat.lt_of_not_le h⟩
  | .lam m b, h => by
    obtain ⟨n, h1, h2⟩ := not_vb b h
    exact ⟨n, List.mem_cons_of_mem _ h1, h2⟩
  | .app f a, h => by
    by_cases hf : vb N f
    · obtain ⟨n, h1, h2⟩ := not_vb a fun ha => h ⟨hf, ha⟩
      exact ⟨n, List.mem_cons_of_mem _ (List.mem_append_right _ h1), h2⟩
    · obtain ⟨n, h1, h2⟩ := not_vb f hf
      exact ⟨n, List.mem_cons_of_mem _ (List.mem_append_left _ h1), h2⟩
section
variable {P : Program} {w : World} {K : PySem.W.Frag} {mg : Str → Option Value} {base : Heap} {f CT : Addr} {fd : FuncData}
/-- a tuple of the term's nodes, or TooLarge where it is too large -/
def RX (K : PySem.W.Frag) (CT : Addr) (t : T) (H : Hp) (Q : VK) (E : XK) : Prop := (¬ big t → RT K (flat t) H Q) ∧ (big t → ∀ H', Same H H' → E (.ref CT) none H')
/-! ### checked -/
theorem sc_checked : FnScope ["nodes", "node"] ["nodes"] (defScope (topS 8)) := ⟨rfl, rfl, rfl, by decide +kernel, rfl, by decide +kernel, by decide +kernel⟩
def spCk (K : PySem.W.Frag) (CT : Addr) : Sp := fun vs H Q E => ∃ (l : Addr) (t : T), vs = [.ref l] ∧ H l = some (.lst (flat t)) ∧ Tmk K H t ∧ sz t ≤ 100000 ∧ RX K CT t H Q E
theorem ok_checked (F : Fun K "checked" "checked" (topS 8) f fd) (Z : Glb K mg) (ZT : Err K mg "TooLarge" CT) : FnOk P w K mg base (L2.CX P w) 1 f fd ["nodes"] (spCk K CT) := by
  refine F.okX sc_checked (fun vs H Q E h => ?_) (fun cdv A outer st H vs Q E hr h => ?_)
  · obtain ⟨l, t, rfl, _⟩ := h
    rfl
  obtain ⟨l, t, rfl, hL, hN, hz, q1, q2⟩ := h
  have tk : Takes (cxOf (L2.CX P w) P w K mg base ["nodes", "node"] "checked" (defScope (topS 8)) f cdv A outer st H E) (wE E) := takes_of rfl rfl rfl rfl
  refine ⟨_, (pss_cons (ps_if (PW.pt (pw_or (pt_cmpR op_gt (pe_callB call_len_seq (by rfl) Z.len PySem.boot_len (pa_cons (pv 0) pa_nil)) (pe_const Z.nodes (by rfl)) (nomark _)) (pw_or1 (pt_cmpR op_gt (pe_callBK (cr_maxD rfl (hu_of hr)) (by rfl) Z.max PyProof.Rows.boot_max (pa_cons (pe_lc (own := [("node", 1)]) (by rfl) sc_checked.nd (pi_list (pv 0)) (blkOk_by (own := [("node", 1)]) (N := ["nodes", "node"]) (sc := defScope (topS 8)) (by decide +kernel)) (fun _ _ _ _ _ => (pg_name (i := 1) sc_checked.nd rfl (.inl rfl))) (fun _ _ _ _ _ => (pts_one (pt_val (pe_callB (call_isIK (K := K) rfl) (by rfl) Z.isi PyProof.Rows.boot_isinstance (pa_cons (pv 1) (pa_cons (pe_type (by rfl) Z.int boot_int) pa_nil)))))) (fun _ _ _ _ _ => (pv 1))) pa_nil) (pk_cons pe_int pk_nil)) (pe_const Z.vars (by rfl)) (nomark _))))) (pss_one (ps_err ZT rfl tk (by rfl))) pss_nil)
      (pss_one (ps_ret (pe_callTy call_tuple_of (by rfl) Z.tup PyProof.Rows.boot_tuple (pa_cons (pv 0) pa_nil))))), ?_⟩
  have good : ¬ big t → ∀ H', Same H H' → H' l = some (.lst (flat t)) → ∀ σ : L2.St, σ[0]? = some (some (.ref l)) → tRet (tCB (fun xs H Q => ∃ p ys, xs = [.ref p] ∧ ((SqL K H p ys ∧ ∀ l, H l = none → Q (.ref l) (upd H l (.tup ys))) ∨ (SqT K H p ys ∧ Q (.ref p) H))) (tCons (tVar 0) tNil)) { nx := fun _ H' => Q .non H', rt := Q } σ H' := fun hb H' sm e σ hσ =>
    ⟨.ref l, hσ, l, _, rfl, .inl ⟨.inl (.inl e), fun p hp => q1 hb p _ (sm.trans (same_new hp)) (.inl (.inl upd_same))⟩⟩
  refine ⟨.ref l, rfl, l, _, rfl, .inl (.inl (.inl hL)), _, _, rfl, rfl, _, rfl, ?_⟩
  refine ite_b (fun c => ?_) (fun c => ?_)
  · have c' : (1000 : Int) < (flat t).length := of_decide_eq_true c
    refine iteT (q2 (.inl ?_) H (Same.refl H))
    show 1000 < (flat t).length
    omega
  · have c' : ¬ (1000 : Int) < (flat t).length := of_decide_eq_false c
    have c2 : (flat t).length ≤ 1000 := by omega
    -- the list of the ints
    refine ⟨.ref l, rfl, l, rfl, ⟨_, .inl (.inl hL)⟩, fun D nD => lc_list (xs := flat t) (fun i H' => Same H H' ∧ H' D = some (.lst ((intsOf ((flat t).take i)).map V.int))) ⟨same_new nD, upd_same⟩ (fun i H' _ h => .inl (.inl (h.1 _ _ hL))) (fun i x H' hx h => ?_) (fun H' h => ?_)⟩
    · refine ⟨rfl, _, rfl, _, rfl, (hN.mono h.1).nods.at hx, _, rfl, ?_⟩
      have hm := ints_more hx
      refine ite_b (fun cx => ?_) (fun cx => ?_)
      · rw [if_pos cx] at hm
        exact ⟨x, rfl, _, h.2, line_of (Nat.le_trans (ints_len _ _) (by omega)), same_mut h.1 nD, by rw [upd_same, hm]⟩
      · rw [if_neg (by rw [cx]; exact Bool.false_ne_true), List.append_nil] at hm
        exact ⟨h.1, by rw [hm]; exact h.2⟩
    · obtain ⟨sm, eD⟩ := h
      rw [List.take_length] at eD
      refine ⟨D, intsOf (flat t), .int 0, rfl, rfl, .inl (.inl eD), fun e => ?_, fun m hm hmax => ?_⟩
      · refine ⟨_, _, rfl, rfl, _, rfl, iteF (good ?_ H' sm (sm _ _ hL) _ rfl)⟩
        intro hb
        rcases hb with hb | hb
        · have hb' : 1000 < (flat t).length := hb
          omega
        · obtain ⟨n, h1, _⟩ := not_vb t hb
          have := mem_ints.mpr h1
          rw [e] at this
          cases this
      · refine ⟨_, _, rfl, rfl, _, rfl, ?_⟩
        refine ite_b (fun cm => ?_) (fun cm => ?_)
        · have cm' : (1000000 : Int) < m := of_decide_eq_true cm
          refine q2 (.inr fun hv => ?_) H' sm
          have := int_flat t m hv hN.labd (mem_ints.mp hm)
          omega
        · have cm' : ¬ (1000000 : Int) < m := of_decide_eq_false cm
          refine good ?_ H' sm (sm _ _ hL) _ rfl
          intro hb
          rcases hb with hb | hb
          · have hb' : 1000 < (flat t).length := hb
            omega
          · obtain ⟨n, h1, h2⟩ := not_vb t hb
            have := hmax _ (mem_ints.mpr h1)
            omega
end
end Lyd

set_option Elab.async false
set_option linter.all false
set_option maxRecDepth 100000
set_option maxHeartbeats 1000000
namespace Lyd
open PySem PySem.Spec PyProof.Rows L2
theorem flat_take_len {α : Type} (xs : List (List α)) (i : Nat) : (xs.take i).flatten.length ≤ xs.flatten.length := by
  have h : xs.flatten = (xs.take i).flatten ++ (xs.drop i).flatten := by
    rw [← List.flatten_append, List.take_append_drop]
  rw [h, List.length_append]
  exact Nat.le_add_right _ _
theorem flat_more {α : Type} {xs : List (List α)} {i : Nat} {x : List α} (h : xs[i]? = some x) : (xs.take (i + 1)).flatten = (xs.take i).flatten ++ x := by
  rw [take_more h, List.flatten_append]
  simp
section
variable {P : Program} {w : World} {K : PySem.W.Frag} {mg : Str → Option Value} {base : Heap} {f CT : Addr} {fd : FuncData}
/-! ### placed -/
theorem sc_placed : FnScope ["nodes", "value", "found", "node", "depth"] ["nodes", "value"] (defScope (topS 12)) := ⟨rfl, rfl, rfl, by decide +kernel, rfl, by decide +kernel, by decide +kernel⟩
def spPut (K : PySem.W.Frag) (CT : Addr) : Sp := fun vs H Q E => ∃ (a b : Addr) (s v : T), vs = [.ref a, .ref b] ∧ SqT K H a (flat s) ∧ SqT K H b (flat v) ∧ Tmk K H s ∧ Tmk K H v ∧ sz s ≤ 1000 ∧ sz v ≤ 1000 ∧ RX K CT (put v 0 s) H Q E
/-- the lists that are put one behind the other -/
abbrev putL (s v : T) : List (List V) := List.zipWith (putN v) (flat s) (deps 0 s)
def wPut (K : PySem.W.Frag) (a b fo dl : Addr) (s v : T) (H : Hp) : Nat → L2.St → Hp → Prop := fun i σ H' => ∃ y3 y4, σ = [some (.ref a), some (.ref b), some (.ref fo), y3, y4] ∧ Same H H' ∧
  H' fo = some (.lst ((putL s v).take i).flatten) ∧ H' dl = some (.lst (depV s)) ∧ ((putL s v).take i).flatten.length ≤ 1000
theorem ok_placed (F : Fun K "placed" "placed" (topS 12) f fd) (Z : Glb K mg) (ZT : Err K mg "TooLarge" CT) (D_depths : Df P w K mg base CX0 1 "depths" ["nodes"] (spDep K)) (D_lifted : Df P w K mg base CX0 2 "lifted" ["nodes", "count"] (spLift K))
    (D_checked : Df P w K mg base (L2.CX P w) 1 "checked" ["nodes"] (spCk K CT)) : FnOk P w K mg base (L2.CX P w) 3 f fd ["nodes", "value"] (spPut K CT) := by
  refine F.okX sc_placed (fun vs H Q E h => ?_) (fun cdv A outer st H vs Q E hr h => ?_)
  · obtain ⟨a, b, s, v, rfl, _⟩ := h
    rfl
  obtain ⟨a, b, s, v, rfl, hTa, hTb, hNs, hNv, hzs, hzv, q1, q2⟩ := h
  have tk : Takes (cxOf (L2.CX P w) P w K mg base ["nodes", "value", "found", "node", "depth"] "placed" (defScope (topS 12)) f cdv A outer st H E) (wE E) := takes_of rfl rfl rfl rfl
  have eall : (putL s v).flatten = flat (put v 0 s) := put_flat s 0 hNs.labd
  refine ⟨_, (pss_cons (ps_set (i := 2) sc_placed.nd rfl (.inl rfl) (pe_lst pa_nil))
      (pss_cons (ps_for (passes_of rfl) rfl (pi_zipM (by rfl) Z.zip (pa_cons (pv 0) (pa_cons (pe_callD D_depths (room_in hr) (by rfl) pass0 (pa_cons (pv 0) pa_nil)) pa_nil))) (pg_tup rfl (pgs_cons (pg_name (i := 3) sc_placed.nd rfl (.inl rfl)) (pgs_cons (pg_name (i := 4) sc_placed.nd rfl (.inl rfl)) pgs_nil))) (pss_cons (ps_if (PW.pt (pw_or (pt_not (pt_val (pe_callB call_isI (by rfl) Z.isi PyProof.Rows.boot_isinstance (pa_cons (pv 3) (pa_cons (pe_type (by rfl) Z.int boot_int) pa_nil))))) (pw_or1 (pt_cmpR op_lt (pv 3) (pv 4) (nomark _))))) (pss_one (ps_expr (pe_bm PySem.F.plainAttrs_list PySem.F.slot_list_append PySem.F.type_list_append mt_append (pv 2) (pa_cons (pv 3) pa_nil)))) (pss_one (ps_if (pt_cmpR op_gt (pv 3) (pv 4) (nomark _)) (pss_one (ps_expr (pe_bm PySem.F.plainAttrs_list PySem.F.slot_list_append PySem.F.type_list_append mt_append (pv 2) (pa_cons (pe_op op_sub (pv 3) pe_int) pa_nil)))) (pss_one (ps_expr (pe_bm PySem.F.plainAttrs_list PySem.F.slot_list_extend PySem.F.type_list_extend mt_extT (pv 2) (pa_cons (pe_callD D_lifted (room_in hr) (by rfl) pass0 (pa_cons (pv 1) (pa_cons (pv 4) pa_nil))) pa_nil)))))))
      (pss_one (ps_if (pt_cmpR op_gt (pe_callB call_len_seq (by rfl) Z.len PySem.boot_len (pa_cons (pv 2) pa_nil)) (pe_const Z.nodes (by rfl)) (nomark _)) (pss_one (ps_err ZT rfl tk (by rfl))) pss_nil))))
      (pss_one (ps_ret (pe_callD D_checked (room_in hr) (by rfl) (passE tk) (pa_cons (pv 2) pa_nil)))))), ?_⟩
  refine ⟨Nat.zero_le _, fun fo nf => ?_⟩
  have s1 : Same H (upd H fo (.lst [])) := same_new nf
  refine ⟨.ref a, rfl, .ref a, rfl, a, s, rfl, same_t s1 hTa, hNs.mono s1, by omega, fun dl H1 nd s2 ed => ?_⟩
  have s12 := s1.trans s2
  have nfd : fo ≠ dl := ne_of_none upd_same nd
  have zeq : (putL s v).length = (flat s).length := by
    rw [List.length_zipWith, deps_len]
    exact Nat.min_self _
  refine ⟨a, dl, _, _, rfl, same_t s12 hTa, .inl (.inl ed), for_pair (walk_zipM (depV_len s)) (wPut K a b fo dl s v H) ⟨none, none, rfl, s12, s2 _ _ upd_same, ed, Nat.zero_le _⟩ (fun i σ H' _ h => ?_) (fun i x y σ H2 H3 hi hx hy h sm => ?_) (fun σ H' h => ?_)⟩
  · obtain ⟨y3, y4, _, s3, _, e2, _⟩ := h
    exact ⟨same_t s3 hTa, .inl (.inl e2)⟩
  · obtain ⟨y3, y4, rfl, s3, e1, e2, hl⟩ := h
    obtain ⟨d, hd, rfl⟩ := depV_at hy
    have hx' : (flat s)[i]? = some x := hx
    have e1' := sm _ _ e1
    have e2' := sm _ _ e2
    have s3' := s3.trans sm
    have hn : Nod K H3 x := (hNs.mono s3').nods.at hx'
    have hg := zw_get (putN v) hx' hd
    have hm := flat_more hg
    -- what follows the branches: the length is looked at
    have fin : ∀ H4, Same H H4 → H4 fo = some (.lst (((putL s v).take (i + 1)).flatten)) → H4 dl = some (.lst (depV s)) →
        tIfS (tTest (tOp (rI0 fun i j => .bl (decide (j < i))) (tCB (fun xs H Q => ∃ p ys, xs = [.ref p] ∧ (SqL K H p ys ∨ SqT K H p ys) ∧ Q (.int ys.length) H) (tCons (tVar 2) tNil)) (tC (.int 1000)))) (fun _ σ H => wE E (.ref CT) none σ H) tNext
          { nx := wPut K a b fo dl s v H (i + 1), rt := Q, bk := fun σ H' => tRet (tCallD (spCk K CT) E (tCons (tVar 2) tNil)) { nx := fun _ H' => Q .non H', rt := Q } σ H', ct := wPut K a b fo dl s v H (i + 1) }
          [some (.ref a), some (.ref b), some (.ref fo), some x, some (.int (d : Nat))] H4 := fun H4 s4 e4 e5 => by
      refine ⟨.ref fo, rfl, fo, _, rfl, .inl (.inl (.inl e4)), _, _, rfl, rfl, _, rfl, ?_⟩
      refine ite_b (fun c => ?_) (fun c => ?_)
      · have c' : (1000 : Int) < (((putL s v).take (i + 1)).flatten).length := of_decide_eq_true c
        refine q2 (.inl ?_) H4 s4
        have := flat_take_len (putL s v) (i + 1)
        rw [eall] at this
        show 1000 < (flat (put v 0 s)).length
        omega
      · have c' : ¬ (1000 : Int) < (((putL s v).take (i + 1)).flatten).length := of_decide_eq_false c
        exact ⟨_, _, rfl, s4, e4, e5, by omega⟩
    refine ⟨_, rfl, _, rfl, hn, _, rfl, ?_⟩
    refine ite_b (fun hb => ?_) (fun hb => ?_)
    · -- no number
      have e6 : putN v x d = [x] := by
        cases x with
        | int k => cases hb
        | _ => rfl
      rw [e6] at hm
      refine iteT ⟨.ref fo, rfl, .inl ⟨rfl, _, .inl (.inl e1')⟩, x, rfl, fo, _, x, rfl, rfl, e1', line_of (by omega), ?_⟩
      exact fin _ (same_mut s3' nf) (by rw [upd_same, hm]) (by rw [upd_ne nfd.symm]; exact e2')
    · cases x with
      | int k =>
        refine ⟨_, rfl, _, rfl, _, _, rfl, rfl, _, rfl, ?_⟩
        refine ite_b (fun c1 => ?_) (fun c1 => ?_)
        · have c2 : k < (d : Int) := of_decide_eq_true c1
          have e6 : putN v (.int k) d = [.int k] := if_pos c2
          rw [e6] at hm
          refine ⟨.ref fo, rfl, .inl ⟨rfl, _, .inl (.inl e1')⟩, _, rfl, fo, _, _, rfl, rfl, e1', line_of (by omega), ?_⟩
          exact fin _ (same_mut s3' nf) (by rw [upd_same, hm]) (by rw [upd_ne nfd.symm]; exact e2')
        · have c2 : ¬ k < (d : Int) := of_decide_eq_false c1
          refine ⟨_, rfl, _, rfl, _, _, rfl, rfl, _, rfl, ?_⟩
          refine ite_b (fun c3 => ?_) (fun c3 => ?_)
          · have c4 : (d : Int) < k := of_decide_eq_true c3
            have e6 : putN v (.int k) d = [.int (k - 1)] := by
              show (if k < (d : Nat) then [.int k] else if k = (d : Nat) then flat (lift d 0 v) else [V.int (k - 1)]) = _
              rw [if_neg c2, if_neg (by omega)]
            rw [e6] at hm
            refine ⟨.ref fo, rfl, .inl ⟨rfl, _, .inl (.inl e1')⟩, _, rfl, _, _, rfl, rfl, fo, _, _, rfl, rfl, e1', line_of (by omega), ?_⟩
            exact fin _ (same_mut s3' nf) (by rw [upd_same, hm]) (by rw [upd_ne nfd.symm]; exact e2')
          · have c4 : ¬ (d : Int) < k := of_decide_eq_false c3
            have e6 : putN v (.int k) d = flat (lift d 0 v) := by
              show (if k < (d : Nat) then [.int k] else if k = (d : Nat) then flat (lift d 0 v) else [V.int (k - 1)]) = _
              rw [if_neg c2, if_pos (by omega)]
            rw [e6] at hm
            refine ⟨.ref fo, rfl, .inl ⟨rfl, _, .inl (.inl e1')⟩, _, rfl, _, rfl, b, v, d, rfl, same_t s3' hTb, hNv.mono s3', by omega, fun p H4 s4 hp => ?_⟩
            have e14 := s4 _ _ e1'
            have hzl : (flat (lift d 0 v)).length ≤ 1000 := by
              have := sz_lift (c := d) v 0
              show sz (lift d 0 v) ≤ 1000
              omega
            refine ⟨fo, p, _, _, rfl, rfl, e14, hp, line_le (by omega), ?_⟩
            exact fin _ (same_mut (s3'.trans s4) nf) (by rw [upd_same, hm]) (by rw [upd_ne nfd.symm]; exact s4 _ _ e2')
      | _ => cases hb
  · obtain ⟨y3, y4, rfl, s3, e1, e2, hl⟩ := h
    rw [← zeq, List.take_length, eall] at e1 hl
    refine ⟨.ref fo, rfl, fo, put v 0 s, rfl, e1, (hNs.put hNv 0).mono s3, ?_, fun hb p H' sm hp => q1 hb p H' (s3.trans sm) hp, fun hb H' sm => q2 hb H' (s3.trans sm)⟩
    show (flat (put v 0 s)).length ≤ 100000
    omega
/-! ### stepped -/
theorem cut_take {xs : List V} {n : Nat} (h : n ≤ xs.length) : cutV xs none (some (n : Int)) = xs.take n := by
  unfold cutV
  rw [HT.sIx_none, HT.sIx_nat, Nat.min_eq_left h]
  simp
theorem cut_drop {xs : List V} {n : Nat} (h : n ≤ xs.length) : cutV xs (some (n : Int)) none = xs.drop n := by
  unfold cutV
  rw [HT.sIx_none, HT.sIx_nat, Nat.min_eq_left h, List.take_of_length_le]
  rw [List.length_drop]
  exact Nat.le_refl _
theorem cut_mid {xs pre m post : List V} {i j : Nat} (h : xs = pre ++ (m ++ post)) (hi : pre.length = i) (hj : i + m.length = j) : cutV xs (some (i : Int)) (some (j : Int)) = m := by
  have l : xs.length = i + m.length + post.length := by rw [h, List.length_append, List.length_append]; omega
  unfold cutV
  rw [HT.sIx_nat, HT.sIx_nat, Nat.min_eq_left (by omega), Nat.min_eq_left (by omega), h, ← hi, List.drop_left, ← hj]
  have : i + m.length - pre.length = m.length := by omega
  rw [this, List.take_left]
/-- a slice of a tuple, whole or not -/
theorem sl_any {H : Hp} {Q : VK} {a : Addr} {xs : List V} {lo hi : Option Int} {ys : List V} (hT : SqT K H a xs) (e : cutV xs lo hi = ys) (q : ∀ p H', Same H H' → SqT K H' p ys → Q (.ref p) H') : rSlA K (.ref a) lo hi H Q := by
  refine ⟨a, xs, rfl, hT, fun hw => ?_, fun _ p hp => q p _ (same_new hp) (by rw [e]; exact .inl (.inl upd_same))⟩
  refine q a H (Same.refl H) ?_
  have : cutV xs lo hi = xs := by
    unfold cutV
    rw [hw.1, hw.2, List.drop_zero, Nat.sub_zero, List.take_length]
  rw [← e, this]
  exact hT
theorem cat_any {H : Hp} {Q : VK} {a b : Addr} {xs ys : List V} (ha : SqT K H a xs) (hb : SqT K H b ys) (hl : xs.length + ys.length ≤ 1000000) (q : ∀ p H', Same H H' → SqT K H' p (xs ++ ys) → Q (.ref p) H') : rCatA K (.ref a) (.ref b) H Q := by
  refine ⟨a, b, xs, ys, rfl, rfl, ha, hb, line_le hl, fun e => ?_, fun _ e => ?_, fun _ _ p hp => q p _ (same_new hp) (.inl (.inl upd_same))⟩
  · rw [e] at q
    exact q b H (Same.refl H) hb
  · rw [e, List.append_nil] at q
    exact q a H (Same.refl H) ha
/-- .. where the rest of the term is not looked at -/
def RY (K : PySem.W.Frag) (CT : Addr) (t : T) (H : Hp) (Q : VK) (E : XK) : Prop := (sz t ≤ 1000 → RT K (flat t) H Q) ∧ (big t → ∀ H', Same H H' → E (.ref CT) none H')
theorem sc_stepped : FnScope ["nodes", "place", "at", "middle", "end", "found"] ["nodes", "place"] (defScope (topS 19)) := ⟨rfl, rfl, rfl, by decide +kernel, rfl, by decide +kernel, by decide +kernel⟩
def spSt (K : PySem.W.Frag) (CT : Addr) : Sp := fun vs H Q E => ∃ (a : Addr) (t u : T) (p : Place), vs = [.ref a, .str (plS p)] ∧ SqT K H a (flat t) ∧ Tmk K H t ∧ sz t ≤ 1000 ∧ step t p = some u ∧ RY K CT u H Q E
theorem vb_part : ∀ (p : Place) (t u : T) (i : Nat) (m : V) (b a : T), step t p = some u → ix t p = some (i, .app (.lam m b) a) → ∀ N, vb N u → vb N (put a 0 b)
  | [], t, u, i, m, b, a, h, hi, N, hv => by
    rw [ix_nil] at hi
    cases hi
    rw [step_nil] at h
    cases h
    exact hv
  | d :: p, .var n, u, i, m, b, a, h, hi, N, hv => by cases d <;> cases hi
  | .b :: p, .lam k x, u, i, m, b, a, h, hi, N, hv => by
    rw [ix_b] at hi
    rw [step_b] at h
    cases e : ix x p with
    | none => rw [e] at hi; cases hi
    | some r =>
      cases e2 : step x p with
      | none => rw [e2] at h; cases h
      | some y =>
        rw [e] at hi
        rw [e2] at h
        cases h
        have hi' : r = (r.1, r.2) := rfl
        rw [hi'] at e
        have h2 : r.2 = .app (.lam m b) a := congrArg Prod.snd (Option.some.inj hi)
        rw [h2] at e
        exact vb_part p x y r.1 m b a e2 e N hv
  | .f :: p, .lam k x, u, i, m, b, a, h, hi, N, hv => by cases hi
  | .a :: p, .lam k x, u, i, m, b, a, h, hi, N, hv => by cases hi
  | .b :: p, .app g x, u, i, m, b, a, h, hi, N, hv => by cases hi
  | .f :: p, .app g x, u, i, m, b, a, h, hi, N, hv => by
    rw [ix_f] at hi
    rw [step_f] at h
    cases e : ix g p with
    | none => rw [e] at hi; cases hi
    | some r =>
      cases e2 : step g p with
      | none => rw [e2] at h; cases h
      | some y =>
        rw [e] at hi
        rw [e2] at h
        cases h
        have hi' : r = (r.1, r.2) := rfl
        rw [hi'] at e
        have h2 : r.2 = .app (.lam m b) a := congrArg Prod.snd (Option.some.inj hi)
        rw [h2] at e
        exact vb_part p g y r.1 m b a e2 e N hv.1
  | .a :: p, .app g x, u, i, m, b, a, h, hi, N, hv => by
    rw [ix_a] at hi
    rw [step_a] at h
    cases e : ix x p with
    | none => rw [e] at hi; cases hi
    | some r =>
      cases e2 : step x p with
      | none => rw [e2] at h; cases h
      | some y =>
        rw [e] at hi
        rw [e2] at h
        cases h
        have hi' : r = (r.1, r.2) := rfl
        rw [hi'] at e
        have h2 : r.2 = .app (.lam m b) a := congrArg Prod.snd (Option.some.inj hi)
        rw [h2] at e
        exact vb_part p x y r.1 m b a e2 e N hv.2
theorem ok_stepped {CR : Addr} (F : Fun K "stepped" "stepped" (topS 19) f fd) (Z : Glb K mg) (ZT : Err K mg "TooLarge" CT) (ZR : Err K mg "NoRedex" CR) (D_index_of : Df P w K mg base CX0 2 "index_of" ["nodes", "place"] (spIx K)) (D_is_redex : Df P w K mg base CX0 1 "is_redex" ["nodes", "at"] (spRx K))
    (D_end_of : Df P w K mg base CX0 1 "end_of" ["nodes", "start"] (spEnd K)) (D_placed : Df P w K mg base (L2.CX P w) 3 "placed" ["nodes", "value"] (spPut K CT)) : FnOk P w K mg base (L2.CX P w) 4 f fd ["nodes", "place"] (spSt K CT) := by
  refine F.okX sc_stepped (fun vs H Q E h => ?_) (fun cdv A outer st H vs Q E hr h => ?_)
  · obtain ⟨a, t, u, p, rfl, _⟩ := h
    rfl
  obtain ⟨a, t, u, p, rfl, hT, hN, hz, hs, q1, q2⟩ := h
  have tk : Takes (cxOf (L2.CX P w) P w K mg base ["nodes", "place", "at", "middle", "end", "found"] "stepped" (defScope (topS 19)) f cdv A outer st H E) (wE E) := takes_of rfl rfl rfl rfl
  refine ⟨_, (pss_cons (ps_set (i := 2) sc_stepped.nd rfl (.inl rfl) (pe_callD D_index_of (room_in hr) (by rfl) pass0 (pa_cons (pv 0) (pa_cons (pv 1) pa_nil))))
      (pss_cons (ps_if (PW.pt (pw_or (pt_cmpR op_lt (pv 2) pe_int (nomark _)) (pw_or1 (pt_not (pt_val (pe_callD D_is_redex (room_in hr) (by rfl) pass0 (pa_cons (pv 0) (pa_cons (pv 2) pa_nil)))))))) (pss_one (ps_err ZR rfl tk (by rfl))) pss_nil)
      (pss_cons (ps_set (i := 3) sc_stepped.nd rfl (.inl rfl) (pe_callD D_end_of (room_in hr) (by rfl) pass0 (pa_cons (pv 0) (pa_cons (pe_op op_add (pv 2) pe_int) pa_nil))))
      (pss_cons (ps_set (i := 4) sc_stepped.nd rfl (.inl rfl) (pe_callD D_end_of (room_in hr) (by rfl) pass0 (pa_cons (pv 0) (pa_cons (pv 3) pa_nil))))
      (pss_cons (ps_set (i := 5) sc_stepped.nd rfl (.inl rfl) (pe_op op_catA (pe_op op_catA (pe_slice sl_tupA (pv 0) po_none (po_some (pv 2))) (pe_callD D_placed (room_in hr) (by rfl) (passE tk) (pa_cons (pe_slice sl_tupA (pv 0) (po_some (pe_op op_add (pv 2) pe_int)) (po_some (pv 3))) (pa_cons (pe_slice sl_tupA (pv 0) (po_some (pv 3)) (po_some (pv 4))) pa_nil)))) (pe_slice sl_tupA (pv 0) (po_some (pv 4)) po_none)))
      (pss_cons (ps_if (pt_cmpR op_gt (pe_callB call_len_seq (by rfl) Z.len PySem.boot_len (pa_cons (pv 5) pa_nil)) (pe_const Z.nodes (by rfl)) (nomark _)) (pss_one (ps_err ZT rfl tk (by rfl))) pss_nil)
      (pss_one (ps_ret (pv 5))))))))), ?_⟩
  obtain ⟨i, m, b, x, pre, post, hi, hl, hx, hu⟩ := step_flat p t u hs
  have hr' := hN.ix hi
  have lx : (flat t).length = i + (sz b + sz x + 2) + post.length := by
    rw [hx, List.length_append, List.length_append, hl]
    have : (flat (.app (.lam m b) x)).length = sz b + sz x + 2 := by
      show sz (.app (.lam m b) x) = _
      rw [sz_app, sz_lam]
      omega
    omega
  have hz' : (flat t).length ≤ 1000 := hz
  have lu : sz u = i + sz (put x 0 b) + post.length := by
    show (flat u).length = _
    rw [hu, List.length_append, List.length_append, hl]
    have e : sz (put x 0 b) = (flat (put x 0 b)).length := rfl
    omega
  have hx2 : flat t = pre ++ (V.str "app" :: m :: (flat b ++ (flat x ++ post))) := by
    rw [hx]
    show pre ++ (V.str "app" :: ((m :: flat b) ++ flat x) ++ post) = _
    simp
  refine ⟨_, rfl, _, rfl, a, t, _, p, i, rfl, hT, hN, hi, ?_⟩
  refine ⟨_, rfl, _, _, rfl, rfl, _, rfl, ?_⟩
  refine ite_b (fun c => ?_) (fun _ => ?_)
  · have c' : (i : Int) < 0 := of_decide_eq_true c
    omega
  refine ⟨_, rfl, _, rfl, a, _, pre, post, _, i, rfl, hT, hr', hx, hl, true, rfl, iteF ?_⟩
  refine ⟨_, rfl, _, rfl, _, _, rfl, rfl, a, _, pre ++ [V.str "app"], flat x ++ post, .lam m b, i + 1, rfl, hT, hr'.app.1, ?_, by rw [List.length_append, hl]; rfl, ?_⟩
  · rw [hx2]
    show _ = (pre ++ [V.str "app"]) ++ ((m :: flat b) ++ (flat x ++ post))
    simp
  refine ⟨_, rfl, _, rfl, a, _, pre ++ (V.str "app" :: m :: flat b), post, x, i + 1 + sz (.lam m b), rfl, hT, hr'.app.2, ?_, ?_, ?_⟩
  · rw [hx2]
    simp
  · rw [List.length_append, hl, sz_lam]
    show i + ((flat b).length + 1 + 1) = i + 1 + (sz b + 1)
    show i + (sz b + 1 + 1) = i + 1 + (sz b + 1)
    omega
  -- the three pieces
  refine ⟨_, rfl, _, rfl, _, rfl, sl_any hT (cut_take (by omega)) fun p1 H1 s1 h1 => ?_⟩
  have e1 : (flat t).take i = pre := by rw [hx, ← hl, List.take_left]
  rw [e1] at h1
  refine ⟨_, rfl, _, rfl, _, _, rfl, rfl, _, rfl, _, rfl, _, rfl, sl_any (ys := flat b) (same_t s1 hT) ?_ fun p2 H2 s2 h2 => ?_⟩
  · have e : (i : Int) + 2 = ((i + 2 : Nat) : Int) := by omega
    rw [e]
    refine cut_mid (pre := pre ++ [V.str "app", m]) (post := flat x ++ post) (by rw [hx2]; simp) (by rw [List.length_append, hl]; rfl) ?_
    rw [sz_lam]
    show i + 2 + sz b = i + 1 + (sz b + 1)
    omega
  have s12 := s1.trans s2
  refine ⟨_, rfl, _, rfl, _, rfl, _, rfl, _, rfl, sl_any (ys := flat x) (same_t s12 hT) ?_ fun p3 H3 s3 h3 => ?_⟩
  · refine cut_mid (pre := pre ++ (V.str "app" :: m :: flat b)) (post := post) (by rw [hx2]; simp) ?_ rfl
    rw [List.length_append, hl, sz_lam]
    show i + (sz b + 1 + 1) = i + 1 + (sz b + 1)
    omega
  have s13 := s12.trans s3
  have hb' : Tmk K H b := hr'.app.1.lam
  refine ⟨p2, p3, b, x, rfl, same_t s3 h2, h3, hb'.mono s13, hr'.app.2.mono s13, by omega, by omega, fun hbig p4 H4 s4 h4 => ?_, fun hbig H4 s4 => ?_⟩
  · have s14 := s13.trans s4
    have hsz : sz (put x 0 b) ≤ 1000 := Nat.le_of_not_lt fun z => hbig (.inl z)
    have lpre : pre.length ≤ 1000 := by omega
    refine cat_any (same_t s4 (same_t s3 (same_t s2 h1))) h4 (by show pre.length + sz (put x 0 b) ≤ _; omega) fun p5 H5 s5 h5 => ?_
    have s15 := s14.trans s5
    refine ⟨_, rfl, _, rfl, _, rfl, ?_⟩
    dsimp only [tNoPart]
    refine sl_any (ys := post) (same_t s15 hT) ?_ fun p6 H6 s6 h6 => ?_
    · refine (cut_drop (by rw [lx, sz_lam]; omega)).trans ?_
      rw [hx2, show pre ++ (V.str "app" :: m :: (flat b ++ (flat x ++ post))) = (pre ++ (V.str "app" :: m :: (flat b ++ flat x))) ++ post by simp]
      rw [List.drop_append_of_le_length, List.drop_of_length_le, List.nil_append]
      · rw [List.length_append, hl, List.length_cons, List.length_cons, List.length_append, sz_lam]
        show i + (sz b + sz x + 1 + 1) ≤ _
        omega
      · rw [List.length_append, hl, List.length_cons, List.length_cons, List.length_append, sz_lam]
        show _ ≤ i + (sz b + sz x + 1 + 1)
        omega
    have s16 := s15.trans s6
    refine cat_any (same_t s6 h5) h6 (by rw [List.length_append]; show pre.length + sz (put x 0 b) + _ ≤ _; omega) fun p7 H7 s7 h7 => ?_
    have s17 := s16.trans s7
    have eu : (pre ++ flat (put x 0 b)) ++ post = flat u := by rw [hu]; simp
    rw [eu] at h7
    refine ⟨_, rfl, p7, _, rfl, .inr h7, _, _, rfl, rfl, _, rfl, ?_⟩
    refine ite_b (fun c => ?_) (fun c => ?_)
    · have c' : (1000 : Int) < (flat u).length := of_decide_eq_true c
      refine q2 (.inl ?_) H7 s17
      show 1000 < (flat u).length
      omega
    · have c' : ¬ (1000 : Int) < (flat u).length := of_decide_eq_false c
      exact ⟨_, rfl, q1 (by show (flat u).length ≤ 1000; omega) p7 H7 s17 h7⟩
  · refine q2 ?_ H4 (s13.trans s4)
    rcases hbig with z | z
    · exact .inl (by omega)
    · exact .inr fun hv => z (vb_part p t u i m b x hs hi _ hv)
/-! ### follow -/
theorem sc_follow : FnScope ["term", "road", "place"] ["term", "road"] (defScope (topS 20)) := ⟨rfl, rfl, rfl, by decide +kernel, rfl, by decide +kernel, by decide +kernel⟩
/-- a road none of whose terms is too large -/
def Fits : T → List Place → Prop
  | _, [] => True
  | t, p :: r => ∃ u, step t p = some u ∧ ¬ big u ∧ Fits u r
theorem Fits.end : ∀ (r : List Place) (t : T), Fits t r → ∃ u, follow_ t r = some u
  | [], t, _ => ⟨t, rfl⟩
  | p :: r, t, h => by
    obtain ⟨u, h1, _, h2⟩ := h
    obtain ⟨v, h3⟩ := Fits.end r u h2
    exact ⟨v, by show (step t p).bind _ = _; rw [h1]; exact h3⟩
abbrev roV (r : List Place) : List V := r.map eP
def spFo (K : PySem.W.Frag) : Sp := fun vs H Q _ => ∃ (a l : Addr) (t u : T) (r : List Place), vs = [.ref a, .ref l] ∧ SqT K H a (flat t) ∧ SqL K H l (roV r) ∧ Tmk K H t ∧ sz t ≤ 1000 ∧ Fits t r ∧ follow_ t r = some u ∧ RT K (flat u) H Q
def wFo (K : PySem.W.Frag) (l : Addr) (u : T) (r : List Place) (H : Hp) : Nat → L2.St → Hp → Prop := fun i σ H' => ∃ (a : Addr) (t : T) (y : Option V), σ = [some (.ref a), some (.ref l), y] ∧ Same H H' ∧ SqT K H' a (flat t) ∧ Tmk K H' t ∧ sz t ≤ 1000 ∧ Fits t (r.drop i) ∧ follow_ t (r.drop i) = some u
theorem ok_follow (F : Fun K "follow" "follow" (topS 20) f fd) (Z : Glb K mg) (D_stepped : Df P w K mg base (L2.CX P w) 4 "stepped" ["nodes", "place"] (spSt K CT)) : FnOk P w K mg base (L2.CX P w) 5 f fd ["term", "road"] (spFo K) := by
  refine F.okX sc_follow (fun vs H Q E h => ?_) (fun cdv A outer st H vs Q E hr h => ?_)
  · obtain ⟨a, l, t, u, r, rfl, _⟩ := h
    rfl
  obtain ⟨a, l, t, u, r, rfl, hT, hL, hN, hz, hF, hu, q⟩ := h
  have tk : Takes (cxOf (L2.CX P w) P w K mg base ["term", "road", "place"] "follow" (defScope (topS 20)) f cdv A outer st H E) (wE E) := takes_of rfl rfl rfl rfl
  refine ⟨_, (pss_cons (ps_for (passes_of rfl) rfl (pi_list (pv 1)) (pg_name (i := 2) sc_follow.nd rfl (.inl rfl)) (pss_one (ps_set (i := 0) sc_follow.nd rfl (.inl rfl) (pe_callD D_stepped (room_in hr) (by rfl) (passE tk) (pa_cons (pv 0) (pa_cons (pv 2) pa_nil))))))
      (pss_one (ps_ret (pv 0)))), ?_⟩
  refine ⟨_, rfl, l, rfl, ⟨_, hL⟩, for_list (xs := roV r) (wFo K l u r H) ⟨a, t, none, rfl, Same.refl H, hT, hN, hz, hF, hu⟩ (fun i σ H' _ h => ?_) (fun i x σ H' hx h => ?_) (fun σ H' h => ?_)⟩
  · obtain ⟨_, _, _, _, sm, _⟩ := h
    exact sm.seq hL
  · obtain ⟨a', t', y, rfl, sm, hT', hN', hz', hF', hu'⟩ := h
    rw [List.getElem?_map] at hx
    cases e : r[i]? with
    | none => rw [e] at hx; cases hx
    | some p =>
      rw [e] at hx
      cases Option.some.inj hx
      rw [drop_cons e] at hF' hu'
      obtain ⟨v, h1, h2, h3⟩ := hF'
      have h4 : follow_ v (r.drop (i + 1)) = some u := by
        have hu2 : (step t' p).bind (fun z => follow_ z (r.drop (i + 1))) = some u := hu'
        rw [h1] at hu2
        exact hu2
      refine ⟨_, rfl, _, rfl, a', t', v, p, rfl, hT', hN', hz', h1, fun hsz p' H1 s1 hp' => ?_, fun hb => absurd hb h2⟩
      exact ⟨p', v, _, rfl, sm.trans s1, hp', (hN'.step h1).mono s1, hsz, h3, h4⟩
  · obtain ⟨a', t', y, rfl, sm, hT', hN', hz', hF', hu'⟩ := h
    rw [List.length_map, List.drop_length] at hu'
    cases hu'
    exact ⟨_, rfl, q a' H' sm hT'⟩
end
end Lyd

set_option Elab.async false
set_option linter.all false
set_option maxRecDepth 100000
set_option maxHeartbeats 1000000
namespace Lyd
open PySem PySem.Spec PyProof.Rows L2
/-! ### marks -/
def isLb : V → Bool
  | .int _ => false
  | .str s => !decide (V.str s = .str "app")
  | _ => true
def lb (g : Nat → V) : Nat → List V → List V
  | _, [] => []
  | k, x :: r => (if isLb x = true then g k else x) :: lb g (k + 1) r
theorem lb_append (g : Nat → V) : ∀ (a b : List V) (k : Nat), lb g k (a ++ b) = lb g k a ++ lb g (k + a.length) b
  | [], b, k => rfl
  | x :: a, b, k => by
    show _ :: lb g (k + 1) (a ++ b) = _ :: (lb g (k + 1) a ++ lb g (k + (a.length + 1)) b)
    rw [lb_append g a b (k + 1), show k + 1 + a.length = k + (a.length + 1) by omega]
theorem lb_congr {g g' : Nat → V} : ∀ (l : List V) (k : Nat), (∀ j, k ≤ j → j < k + l.length → g j = g' j) → lb g k l = lb g' k l
  | [], k, _ => rfl
  | x :: l, k, h => by
    show (if isLb x = true then g k else x) :: lb g (k + 1) l = (if isLb x = true then g' k else x) :: lb g' (k + 1) l
    rw [lb_congr l (k + 1) fun j h1 h2 => h j (by omega) (by rw [List.length_cons]; omega), h k (Nat.le_refl _) (by rw [List.length_cons]; omega)]
theorem lb_len (g : Nat → V) : ∀ (l : List V) (k : Nat), (lb g k l).length = l.length
  | [], k => rfl
  | x :: l, k => by
    show (lb g (k + 1) l).length + 1 = l.length + 1
    rw [lb_len g l (k + 1)]
/-- the term with new labels, by the numbers of their nodes -/
def mkT (g : Nat → V) : Nat → T → T
  | _, .var n => .var n
  | k, .lam _ b => .lam (g k) (mkT g (k + 1) b)
  | k, .app f a => .app (mkT g (k + 1) f) (mkT g (k + 1 + sz f) a)
def Pl (t : T) : Prop := ∀ m ∈ labs t, m = .str "lam"
theorem Pl.tmk {K : PySem.W.Frag} {H : Hp} {t : T} (h : Pl t) : Tmk K H t := fun m hm => .inl (h m hm)
theorem Pl.step {t u : T} {p : Place} (h : Pl t) (e : step t p = some u) : Pl u := fun m hm => h m (labs_step p t u e m hm)
theorem isLb_lam : isLb (.str "lam") = true := by decide +kernel
theorem isLb_app : isLb (.str "app") = false := by decide +kernel
theorem mkT_flat (g : Nat → V) : ∀ (t : T) (k : Nat), Pl t → flat (mkT g k t) = lb g k (flat t)
  | .var n, k, _ => rfl
  | .lam m b, k, h => by
    have e := h m List.mem_cons_self
    subst e
    show g k :: flat (mkT g (k + 1) b) = (if isLb (.str "lam") = true then g k else _) :: lb g (k + 1) (flat b)
    rw [if_pos isLb_lam, mkT_flat g b (k + 1) fun x hx => h x (List.mem_cons_of_mem _ hx)]
  | .app f a, k, h => by
    show V.str "app" :: (flat (mkT g (k + 1) f) ++ flat (mkT g (k + 1 + sz f) a)) = (if isLb (.str "app") = true then g k else .str "app") :: lb g (k + 1) (flat f ++ flat a)
    rw [if_neg (by rw [isLb_app]; exact Bool.false_ne_true), mkT_flat g f (k + 1) fun x hx => h x (List.mem_append_left _ hx), mkT_flat g a (k + 1 + sz f) fun x hx => h x (List.mem_append_right _ hx), lb_append]
theorem mkT_relab (g : Nat → V) : ∀ (t : T) (k : Nat), Pl t → relab (fun _ => V.str "lam") (mkT g k t) = t
  | .var n, k, _ => rfl
  | .lam m b, k, h => by
    show Tm.lam (V.str "lam") (relab _ (mkT g (k + 1) b)) = _
    rw [mkT_relab g b (k + 1) fun x hx => h x (List.mem_cons_of_mem _ hx), h m List.mem_cons_self]
  | .app f a, k, h => by
    show Tm.app (relab _ (mkT g (k + 1) f)) (relab _ (mkT g (k + 1 + sz f) a)) = _
    rw [mkT_relab g f (k + 1) fun x hx => h x (List.mem_append_left _ hx), mkT_relab g a (k + 1 + sz f) fun x hx => h x (List.mem_append_right _ hx)]
/-- the numbers of the abstractions' nodes -/
def lix : Nat → T → List Nat
  | _, .var _ => []
  | k, .lam _ b => k :: lix (k + 1) b
  | k, .app f a => lix (k + 1) f ++ lix (k + 1 + sz f) a
theorem mkT_labs (g : Nat → V) : ∀ (t : T) (k : Nat), labs (mkT g k t) = (lix k t).map g
  | .var n, k => rfl
  | .lam m b, k => by
    show g k :: labs (mkT g (k + 1) b) = g k :: (lix (k + 1) b).map g
    rw [mkT_labs g b]
  | .app f a, k => by
    show labs (mkT g (k + 1) f) ++ labs (mkT g (k + 1 + sz f) a) = (lix (k + 1) f ++ lix (k + 1 + sz f) a).map g
    rw [mkT_labs g f, mkT_labs g a, List.map_append]
theorem lix_in : ∀ (t : T) (k j : Nat), j ∈ lix k t → k ≤ j ∧ j < k + sz t ∧ ∃ x, (flat t)[j - k]? = some x ∧ (Pl t → isLb x = true)
  | .var n, k, j, h => by cases h
  | .lam m b, k, j, h => by
    rcases List.mem_cons.mp h with rfl | h
    · refine ⟨Nat.le_refl _, by have := sz_pos (.lam m b); omega, m, ?_, fun hp => ?_⟩
      · rw [Nat.sub_self]; rfl
      · rw [hp m List.mem_cons_self]; exact isLb_lam
    · obtain ⟨h1, h2, x, h3, h4⟩ := lix_in b (k + 1) j h
      refine ⟨by omega, by rw [sz_lam]; omega, x, ?_, fun hp => h4 fun y hy => hp y (List.mem_cons_of_mem _ hy)⟩
      show (m :: flat b)[j - k]? = some x
      rw [show j - k = (j - (k + 1)) + 1 by omega]
      exact h3
  | .app f a, k, j, h => by
    rcases List.mem_append.mp h with h | h
    · obtain ⟨h1, h2, x, h3, h4⟩ := lix_in f (k + 1) j h
      refine ⟨by omega, by rw [sz_app]; omega, x, ?_, fun hp => h4 fun y hy => hp y (List.mem_append_left _ hy)⟩
      show (V.str "app" :: (flat f ++ flat a))[j - k]? = some x
      rw [show j - k = (j - (k + 1)) + 1 by omega, List.getElem?_cons_succ, List.getElem?_append_left (by show j - (k + 1) < sz f; omega)]
      exact h3
    · obtain ⟨h1, h2, x, h3, h4⟩ := lix_in a (k + 1 + sz f) j h
      refine ⟨by omega, by rw [sz_app]; omega, x, ?_, fun hp => h4 fun y hy => hp y (List.mem_append_right _ hy)⟩
      show (V.str "app" :: (flat f ++ flat a))[j - k]? = some x
      rw [show j - k = (j - (k + 1)) + 1 by omega, List.getElem?_cons_succ, List.getElem?_append_right (by show sz f ≤ j - (k + 1); omega)]
      rw [show j - (k + 1) - (flat f).length = j - (k + 1 + sz f) by show j - (k + 1) - sz f = _; omega]
      exact h3
theorem lix_nodup : ∀ (t : T) (k : Nat), (lix k t).Nodup
  | .var n, k => List.nodup_nil
  | .lam m b, k => by
    refine List.nodup_cons.mpr ⟨fun h => ?_, lix_nodup b (k + 1)⟩
    have := (lix_in b (k + 1) k h).1
    omega
  | .app f a, k => by
    refine List.nodup_append.mpr ⟨lix_nodup f (k + 1), lix_nodup a (k + 1 + sz f), fun x hx y hy e => ?_⟩
    have h1 := (lix_in f (k + 1) x hx).2.1
    have h2 := (lix_in a (k + 1 + sz f) y hy).1
    omega
/-- a label's mark -/
def mu (H : Hp) : V → Int
  | .ref a => match H a with
    | some (.tup [_, .int k]) => k
    | _ => -1
  | _ => -1
theorem mu_of {H : Hp} {a : Addr} {k : Int} (h : H a = some (.tup [.str "lam", .int k])) : mu H (.ref a) = k := by
  show (match H a with | some (.tup [_, .int k]) => k | _ => -1) = k
  rw [h]
/-- all abstractions marked -/
def Mkd (H : Hp) (t : T) : Prop := ∀ m ∈ labs t, ∃ a k, m = .ref a ∧ H a = some (.tup [.str "lam", .int k])
theorem Mkd.tmk {K : PySem.W.Frag} {H : Hp} {t : T} (h : Mkd H t) : Tmk K H t := fun m hm => by
  obtain ⟨a, k, e, h1⟩ := h m hm
  exact .inr ⟨a, k, e, .inl (.inl h1)⟩
theorem Mkd.mono {H H' : Hp} {t : T} (h : Mkd H t) (s : Same H H') : Mkd H' t := fun m hm => by
  obtain ⟨a, k, e, h1⟩ := h m hm
  exact ⟨a, k, e, s _ _ h1⟩
theorem Mkd.step {H : Hp} {t u : T} {p : Place} (h : Mkd H t) (e : step t p = some u) : Mkd H u := fun m hm => h m (labs_step p t u e m hm)
theorem Mkd.mu {H H' : Hp} {t : T} (h : Mkd H t) (s : Same H H') {m : V} (hm : m ∈ labs t) : Lyd.mu H' m = Lyd.mu H m := by
  obtain ⟨a, k, rfl, h1⟩ := h m hm
  rw [mu_of h1, mu_of (s _ _ h1)]
theorem map_lix {H : Hp} {g : Nat → V} : ∀ (l : List Nat), (∀ j ∈ l, mu H (g j) = (j : Nat)) → (l.map g).map (mu H) = l.map fun j => ((j : Nat) : Int)
  | [], _ => rfl
  | x :: l, h => by
    rw [List.map_cons, List.map_cons, List.map_cons, map_lix l fun j hj => h j (List.mem_cons_of_mem _ hj), h x List.mem_cons_self]
theorem nodup_cast : ∀ (l : List Nat), l.Nodup → (l.map fun j => ((j : Nat) : Int)).Nodup
  | [], _ => List.nodup_nil
  | x :: l, h => by
    rw [List.map_cons]
    have h' := List.nodup_cons.mp h
    refine List.nodup_cons.mpr ⟨fun hm => ?_, nodup_cast l h'.2⟩
    obtain ⟨y, hy, e⟩ := List.mem_map.mp hm
    have : y = x := by omega
    rw [this] at hy
    exact h'.1 hy
section
variable {P : Program} {w : World} {K : PySem.W.Frag} {mg : Str → Option Value} {base : Heap} {f CT : Addr} {fd : FuncData}
/-! ### marked -/
theorem sc_marked : FnScope ["nodes", "found", "at", "node"] ["nodes"] (defScope (topS 22)) := ⟨rfl, rfl, rfl, by decide +kernel, rfl, by decide +kernel, by decide +kernel⟩
def spMk (K : PySem.W.Frag) : Sp := fun vs H Q _ => ∃ (a : Addr) (t : T), vs = [.ref a] ∧ SqT K H a (flat t) ∧ Pl t ∧ sz t ≤ 100000 ∧
  ∀ (p : Addr) (H' : Hp) (tm : T), Same H H' → SqT K H' p (flat tm) → relab (fun _ => V.str "lam") tm = t → Mkd H' tm → ((labs tm).map (mu H')).Nodup → sz tm = sz t → Q (.ref p) H'
def wMk (K : PySem.W.Frag) (a fo : Addr) (t : T) (H : Hp) : Nat → L2.St → Hp → Prop := fun i σ H' => ∃ (g : Nat → V) (y2 y3 : Option V), σ = [some (.ref a), some (.ref fo), y2, y3] ∧ Same H H' ∧ H' fo = some (.lst (lb g 0 ((flat t).take i))) ∧
  ∀ j x, j < i → (flat t)[j]? = some x → isLb x = true → ∃ T, g j = .ref T ∧ H' T = some (.tup [.str "lam", .int (j : Nat)])
theorem ok_marked (F : Fun K "marked" "marked" (topS 22) f fd) (Z : Glb K mg) : FnOk P w K mg base CX0 1 f fd ["nodes"] (spMk K) := by
  refine F.ok sc_marked (fun vs H Q E h => ?_) (fun cdv A outer st H vs Q E hr h => ?_)
  · obtain ⟨a, t, rfl, _⟩ := h
    rfl
  obtain ⟨a, t, rfl, hT, hp, hz, q⟩ := h
  refine ⟨_, (pss_cons (ps_set (i := 1) sc_marked.nd rfl (.inl rfl) (pe_lst pa_nil))
      (pss_cons (ps_for PassesOwn.never rfl (pi_enumT (by rfl) Z.enu (pa_cons (pv 0) pa_nil)) (pg_tup rfl (pgs_cons (pg_name (i := 2) sc_marked.nd rfl (.inl rfl)) (pgs_cons (pg_name (i := 3) sc_marked.nd rfl (.inl rfl)) pgs_nil))) (pss_one (ps_if (PW.pt (pw_or (pt_cmpR (op_eqS hr.units) (pv 3) pe_str (nomark _)) (pw_or1 (pt_val (pe_callB call_isI (by rfl) Z.isi PyProof.Rows.boot_isinstance (pa_cons (pv 3) (pa_cons (pe_type (by rfl) Z.int boot_int) pa_nil))))))) (pss_one (ps_expr (pe_bm PySem.F.plainAttrs_list PySem.F.slot_list_append PySem.F.type_list_append mt_append (pv 1) (pa_cons (pv 3) pa_nil)))) (pss_one (ps_expr (pe_bm PySem.F.plainAttrs_list PySem.F.slot_list_append PySem.F.type_list_append mt_append (pv 1) (pa_cons (pe_tup (pa_cons pe_str (pa_cons (pv 2) pa_nil))) pa_nil)))))))
      (pss_one (ps_ret (pe_callTy call_tuple_of (by rfl) Z.tup PyProof.Rows.boot_tuple (pa_cons (pv 1) pa_nil)))))), ?_⟩
  refine ⟨Nat.zero_le _, fun fo nf => ?_⟩
  have s1 : Same H (upd H fo (.lst [])) := same_new nf
  refine ⟨.ref a, rfl, a, _, rfl, same_t s1 hT, for_pair (walk_enumT (xs := flat t)) (wMk K a fo t H) ⟨fun _ => .non, none, none, rfl, s1, upd_same, fun j x hj => by omega⟩ (fun i σ H' _ h => ?_) (fun i x y σ H2 H3 hi hx hy h sm => ?_) (fun σ H' h => ?_)⟩
  · obtain ⟨_, _, _, _, s3, _⟩ := h
    exact same_t s3 hT
  · obtain ⟨g, y2, y3, rfl, s3, e1, hg⟩ := h
    cases Option.some.inj hx
    have hy' : (flat t)[i]? = some y := hy
    have e1' := sm _ _ e1
    have s3' := s3.trans sm
    have hn : Nod K H3 y := ((hp.tmk (K := K) (H := H3)).nods).at hy'
    have hm := take_more hy'
    have li : ((flat t).take i).length = i := by
      rw [List.length_take]
      have hi' : i < (flat t).length := hi
      exact Nat.min_eq_left (Nat.le_of_lt hi')
    have hlen : (lb g 0 ((flat t).take i)).length < sizeLine := by
      rw [lb_len, li]
      have hi' : i < (flat t).length := hi
      exact line_of (by have : (flat t).length ≤ 100000 := hz; omega)
    have keep : ∀ H4, Same H3 H4 → ∀ j x, j < i → (flat t)[j]? = some x → isLb x = true → ∃ T, g j = .ref T ∧ H4 T = some (.tup [.str "lam", .int (j : Nat)]) := fun H4 s4 j x hj hx hl => by
      obtain ⟨T, h1, h2⟩ := hg j x hj hx hl
      exact ⟨T, h1, s4 _ _ (sm _ _ h2)⟩
    have plain : isLb y = false → wMk K a fo t H (i + 1) [some (.ref a), some (.ref fo), some (.int (i : Nat)), some y] (upd H3 fo (.lst (lb g 0 ((flat t).take i) ++ [y]))) := fun hl => by
      refine ⟨g, _, _, rfl, same_mut s3' nf, ?_, fun j x hj hx hlx => ?_⟩
      · rw [upd_same, hm, lb_append]
        show _ = some (HO.lst (_ ++ [if isLb y = true then g (0 + ((flat t).take i).length) else y]))
        rw [if_neg (by rw [hl]; exact Bool.false_ne_true)]
      · have hj' : j < i := by
          rcases Nat.lt_succ_iff_lt_or_eq.mp hj with h | h
          · exact h
          · rw [h, hy'] at hx
            cases hx
            rw [hl] at hlx
            cases hlx
        obtain ⟨T, h1, h2⟩ := keep H3 (Same.refl _) j x hj' hx hlx
        exact ⟨T, h1, by rw [upd_ne (ne_of h2 e1' (fun z => nomatch z))]; exact h2⟩
    refine ⟨_, rfl, _, rfl, can_app, hn, _, rfl, ?_⟩
    rcases mem_flat t y (List.mem_of_getElem? hy') with rfl | hlab | ⟨n, rfl⟩
    · refine iteT (iteT ⟨.ref fo, rfl, .inl ⟨rfl, _, .inl (.inl e1')⟩, _, rfl, fo, _, _, rfl, rfl, e1', hlen, plain isLb_app⟩)
    · have ey := hp y hlab
      subst ey
      have d1 : decide (V.str "lam" = V.str "app") = false := by decide +kernel
      rw [d1]
      refine iteF ⟨_, rfl, _, rfl, hn, _, rfl, iteF ⟨.ref fo, rfl, .inl ⟨rfl, _, .inl (.inl e1')⟩, _, rfl, by show 2 ≤ sizeLine; decide, fun T nT => ?_⟩⟩
      have nTf : fo ≠ T := ne_of_none e1' nT
      have s4 : Same H3 (upd H3 T (.tup [.str "lam", .int (i : Nat)])) := same_new nT
      have e14 := s4 _ _ e1'
      refine ⟨fo, _, _, rfl, rfl, e14, hlen, ?_⟩
      refine ⟨fun j => if j = i then .ref T else g j, _, _, rfl, same_mut (s3'.trans s4) nf, ?_, fun j x hj hx hlx => ?_⟩
      · rw [upd_same, hm, lb_append]
        show _ = some (HO.lst (_ ++ [if isLb (.str "lam") = true then (if 0 + ((flat t).take i).length = i then V.ref T else g (0 + ((flat t).take i).length)) else _]))
        rw [if_pos isLb_lam, if_pos (by rw [li]; omega)]
        congr 2
        rw [lb_congr (g := g) (g' := fun j => if j = i then V.ref T else g j)]
        intro j _ hj
        rw [li] at hj
        show g j = if j = i then V.ref T else g j
        rw [if_neg (by omega)]
      · by_cases hji : j = i
        · refine ⟨T, if_pos hji, ?_⟩
          rw [upd_ne nTf.symm, upd_same, hji]
        · obtain ⟨T', h1, h2⟩ := keep _ s4 j x (by omega) hx hlx
          exact ⟨T', by show (if j = i then V.ref T else g j) = _; rw [if_neg hji]; exact h1, by rw [upd_ne (ne_of h2 e14 (fun z => nomatch z))]; exact h2⟩
    · refine iteF ⟨_, rfl, _, rfl, hn, _, rfl, iteT ⟨.ref fo, rfl, .inl ⟨rfl, _, .inl (.inl e1')⟩, _, rfl, fo, _, _, rfl, rfl, e1', hlen, plain rfl⟩⟩
  · obtain ⟨g, y2, y3, rfl, s3, e1, hg⟩ := h
    rw [List.take_length] at e1
    rw [← mkT_flat g t 0 hp] at e1
    refine ⟨.ref fo, rfl, fo, _, rfl, .inl ⟨.inl (.inl e1), fun p np => ?_⟩⟩
    have s4 : Same H' (upd H' p (.tup (flat (mkT g 0 t)))) := same_new np
    have hin : ∀ j ∈ lix 0 t, ∃ T, g j = .ref T ∧ (upd H' p (.tup (flat (mkT g 0 t)))) T = some (.tup [.str "lam", .int (j : Nat)]) := fun j hj => by
      obtain ⟨_, h2, x, h3, h4⟩ := lix_in t 0 j hj
      obtain ⟨T, h5, h6⟩ := hg j x (by rw [Nat.zero_add] at h2; exact h2) (by rw [Nat.sub_zero] at h3; exact h3) (h4 hp)
      exact ⟨T, h5, s4 _ _ h6⟩
    refine q p _ (mkT g 0 t) (s3.trans s4) (.inl (.inl upd_same)) (mkT_relab g t 0 hp) (fun m hm => ?_) ?_ ?_
    · rw [mkT_labs] at hm
      obtain ⟨j, hj, rfl⟩ := List.mem_map.mp hm
      obtain ⟨T, h1, h2⟩ := hin j hj
      exact ⟨T, _, h1, h2⟩
    · rw [mkT_labs, map_lix _ fun j hj => ?_]
      · exact nodup_cast _ (lix_nodup t 0)
      · obtain ⟨T, h1, h2⟩ := hin j hj
        rw [h1, mu_of h2]
    · show (flat (mkT g 0 t)).length = _
      rw [mkT_flat g t 0 hp, lb_len]
end
end Lyd

set_option Elab.async false
set_option linter.all false
set_option maxRecDepth 100000
set_option maxHeartbeats 1000000
namespace Lyd
open PySem PySem.Spec PyProof.Rows L2
section
variable {P : Program} {w : World} {K : PySem.W.Frag} {mg : Str → Option Value} {base : Heap} {f CT : Addr} {fd : FuncData}
theorem isRx_app {m : V} {b x : T} : isRx (.app (.lam m b) x) = true := rfl
/-! ### mark_at -/
theorem sc_mark_at : FnScope ["nodes", "place", "at"] ["nodes", "place"] (defScope (topS 23)) := ⟨rfl, rfl, rfl, by decide +kernel, rfl, by decide +kernel, by decide +kernel⟩
def spMa (K : PySem.W.Frag) : Sp := fun vs H Q _ => ∃ (a : Addr) (t : T) (p : Place) (m : V), vs = [.ref a, .str (plS p)] ∧ SqT K H a (flat t) ∧ Mkd H t ∧ (p, m) ∈ rdx t ∧ Q (.int (mu H m)) H
/-- the label behind a redex's first node -/
theorem lab_at {pre post : List V} {m : V} {b x : T} {xs : List V} {n : Nat} (h : xs = pre ++ (flat (.app (.lam m b) x) ++ post)) (l : pre.length = n) : xs[n + 1]? = some m :=
  get_pre (pre := pre ++ [V.str "app"]) (r := flat b ++ flat x ++ post) (by rw [h]; show pre ++ (V.str "app" :: ((m :: flat b) ++ flat x) ++ post) = _; simp) (by rw [List.length_append, l]; rfl)
theorem ok_mark_at (F : Fun K "mark_at" "mark_at" (topS 23) f fd) (Z : Glb K mg) (D_index_of : Df P w K mg base CX0 2 "index_of" ["nodes", "place"] (spIx K)) (D_is_redex : Df P w K mg base CX0 1 "is_redex" ["nodes", "at"] (spRx K)) :
    FnOk P w K mg base CX0 3 f fd ["nodes", "place"] (spMa K) := by
  refine F.ok sc_mark_at (fun vs H Q E h => ?_) (fun cdv A outer st H vs Q E hr h => ?_)
  · obtain ⟨a, t, p, m, rfl, _⟩ := h
    rfl
  obtain ⟨a, t, p, m, rfl, hT, hM, hp, q⟩ := h
  refine ⟨_, (pss_cons (ps_set (i := 2) sc_mark_at.nd rfl (.inl rfl) (pe_callD D_index_of (room_in hr) (by rfl) pass0 (pa_cons (pv 0) (pa_cons (pv 1) pa_nil))))
      (pss_cons (ps_if (PW.pt (pw_or (pt_cmpR op_lt (pv 2) pe_int (nomark _)) (pw_or1 (pt_not (pt_val (pe_callD D_is_redex (room_in hr) (by rfl) pass0 (pa_cons (pv 0) (pa_cons (pv 2) pa_nil)))))))) (pss_one (ps_ret pe_non)) pss_nil)
      (pss_one (ps_ret (pe_ix ix_tup (pe_ix ix_tup (pv 0) (pe_op op_add (pv 2) pe_int) (fun _ _ => rfl)) pe_int (fun _ _ => rfl)))))), ?_⟩
  obtain ⟨i, b, x, hi⟩ := rdx_ix.mp hp
  obtain ⟨pre, post, hx, hl⟩ := ix_split p t i _ hi
  have hN : Tmk K H t := hM.tmk
  obtain ⟨am, k, rfl, hk⟩ := hM m (mem_labs t p m hp)
  refine ⟨_, rfl, _, rfl, a, t, _, p, i, rfl, hT, hN, hi, ?_⟩
  refine ⟨_, rfl, _, _, rfl, rfl, _, rfl, ?_⟩
  refine ite_b (fun c => ?_) (fun _ => ?_)
  · have c' : (i : Int) < 0 := of_decide_eq_true c
    omega
  refine ⟨_, rfl, _, rfl, a, _, pre, post, _, i, rfl, hT, hN.ix hi, hx, hl, true, rfl, iteF ?_⟩
  refine ⟨_, rfl, _, rfl, _, _, rfl, rfl, _, _, _, _, rfl, rfl, hT, atI_nat (j := i + 1) (lab_at hx hl), ?_⟩
  refine ⟨am, _, 1, .int k, rfl, rfl, .inl (.inl hk), rfl, ?_⟩
  rw [mu_of hk] at q
  exact q
/-! ### marks -/
theorem sc_marks : FnScope ["nodes", "found", "at", "place"] ["nodes"] (defScope (topS 24)) := ⟨rfl, rfl, rfl, by decide +kernel, rfl, by decide +kernel, by decide +kernel⟩
/-- tuples of a place and a mark -/
def PR (H : Hp) : List (Place × Int) → List V → Prop := Paired fun x v => ∃ a, v = .ref a ∧ H a = some (.tup [eP x.1, .int x.2])
theorem PR.mono {H H' : Hp} {ps : List (Place × Int)} {vs : List V} (h : PR H ps vs) (k : ∀ a x y, H a = some (.tup [x, y]) → H' a = some (.tup [x, y])) : PR H' ps vs :=
  Paired.mapP h fun x v ⟨a, e, h1⟩ => ⟨a, e, k _ _ _ h1⟩
theorem PR.snoc {H : Hp} {ps : List (Place × Int)} {vs : List V} {x : Place × Int} {a : Addr} (h : PR H ps vs) (e : H a = some (.tup [eP x.1, .int x.2])) : PR H (ps ++ [x]) (vs ++ [.ref a]) := by
  induction h with
  | nil => exact .cons ⟨a, rfl, e⟩ .nil
  | cons r t ih => exact .cons r ih
theorem PR.at {H : Hp} {ps : List (Place × Int)} {vs : List V} (h : PR H ps vs) : ∀ {i : Nat} {v : V}, vs[i]? = some v → ∃ x, ps[i]? = some x ∧ ∃ a, v = .ref a ∧ H a = some (.tup [eP x.1, .int x.2]) := by
  induction h with
  | nil => intro i v e; simp at e
  | cons r t ih =>
    intro i v e
    cases i with
    | zero =>
      have e' := Option.some.inj e
      subst e'
      exact ⟨_, rfl, r⟩
    | succ i => exact ih (i := i) e
theorem PR.len {H : Hp} {ps : List (Place × Int)} {vs : List V} (h : PR H ps vs) : ps.length = vs.length := Paired.length h
abbrev mks (H : Hp) (t : T) : List (Place × Int) := (rdx t).map fun x => (x.1, mu H x.2)
def spMs (K : PySem.W.Frag) : Sp := fun vs H Q _ => ∃ (a : Addr) (t : T), vs = [.ref a] ∧ SqT K H a (flat t) ∧ Mkd H t ∧ sz t ≤ 100000 ∧ ∀ l vs H', H l = none → Same H H' → H' l = some (.lst vs) → PR H' (mks H t) vs → Q (.ref l) H'
def wMs (K : PySem.W.Frag) (a fo pl : Addr) (t : T) (H : Hp) : Nat → L2.St → Hp → Prop := fun i σ H' => ∃ (vs : List V) (y2 y3 : Option V), σ = [some (.ref a), some (.ref fo), y2, y3] ∧ Same H H' ∧ H' fo = some (.lst vs) ∧ H' pl = some (.lst (plV t)) ∧ PR H' (fnd (fun p m => (p, mu H m)) t i) vs
theorem ok_marks (F : Fun K "marks" "marks" (topS 24) f fd) (Z : Glb K mg) (D_placed_nodes : Df P w K mg base CX0 1 "placed_nodes" ["nodes"] (spPl K)) (D_is_redex : Df P w K mg base CX0 1 "is_redex" ["nodes", "at"] (spRx K)) :
    FnOk P w K mg base CX0 2 f fd ["nodes"] (spMs K) := by
  refine F.ok sc_marks (fun vs H Q E h => ?_) (fun cdv A outer st H vs Q E hr h => ?_)
  · obtain ⟨a, t, rfl, _⟩ := h
    rfl
  obtain ⟨a, t, rfl, hT, hM, hz, q⟩ := h
  refine ⟨_, (pss_cons (ps_set (i := 1) sc_marks.nd rfl (.inl rfl) (pe_lst pa_nil))
      (pss_cons (ps_for PassesOwn.never rfl (pi_enum (by rfl) Z.enu (pa_cons (pe_callD D_placed_nodes (room_in hr) (by rfl) pass0 (pa_cons (pv 0) pa_nil)) pa_nil)) (pg_tup rfl (pgs_cons (pg_name (i := 2) sc_marks.nd rfl (.inl rfl)) (pgs_cons (pg_name (i := 3) sc_marks.nd rfl (.inl rfl)) pgs_nil))) (pss_one (ps_if (pt_val (pe_callD D_is_redex (room_in hr) (by rfl) pass0 (pa_cons (pv 0) (pa_cons (pv 2) pa_nil)))) (pss_one (ps_expr (pe_bm PySem.F.plainAttrs_list PySem.F.slot_list_append PySem.F.type_list_append mt_append (pv 1) (pa_cons (pe_tup (pa_cons (pv 3) (pa_cons (pe_ix ix_tup (pe_ix ix_tup (pv 0) (pe_op op_add (pv 2) pe_int) (fun _ _ => rfl)) pe_int (fun _ _ => rfl)) pa_nil))) pa_nil)))) pss_nil)))
      (pss_one (ps_ret (pv 1))))), ?_⟩
  have hN : Tmk K H t := hM.tmk
  refine ⟨Nat.zero_le _, fun fo nf => ?_⟩
  have s1 : Same H (upd H fo (.lst [])) := same_new nf
  refine ⟨.ref a, rfl, a, t, rfl, same_t s1 hT, hN.mono s1, hz, fun pl H1 np s2 ep => ?_⟩
  have s12 := s1.trans s2
  have nfp : fo ≠ pl := ne_of_none upd_same np
  refine ⟨pl, plV t, rfl, .inl (.inl ep), for_pair (walk_enum (xs := plV t)) (wMs K a fo pl t H) ⟨[], none, none, rfl, s12, s2 _ _ upd_same, ep, .nil⟩ (fun i σ H' _ h => ?_) (fun i x y σ H2 H3 hi hx hy h sm => ?_) (fun σ H' h => ?_)⟩
  · obtain ⟨vs, y2, y3, _, _, _, e2, _⟩ := h
    exact .inl (.inl e2)
  · obtain ⟨vs, y2, y3, rfl, s3, e1, e2, hP⟩ := h
    cases Option.some.inj hx
    have e1' := sm _ _ e1
    have e2' := sm _ _ e2
    have s3' := s3.trans sm
    have hP' : PR H3 (fnd (fun p m => (p, mu H m)) t i) vs := hP.mono fun a x y h => sm _ _ h
    rw [List.getElem?_map] at hy
    cases e : (pns [] t)[i]? with
    | none => rw [e] at hy; cases hy
    | some z =>
      rw [e] at hy
      have ey : eP z.1 = y := Option.some.inj hy
      subst ey
      obtain ⟨p, s⟩ := z
      obtain ⟨pre, post, hx', hl⟩ := nds_at t [] i p s e
      obtain ⟨p', ep', hi'⟩ := pns_ix t [] i p s e
      have hs : Tmk K H3 s := (hN.mono s3').ix hi'
      refine ⟨_, rfl, _, rfl, a, _, pre, post, s, i, rfl, same_t s3' hT, hs, hx', hl, ?_⟩
      have hm := fnd_more (g := fun p m => (p, mu H m)) e
      have hlen : vs.length < sizeLine := by
        rw [← hP'.len]
        exact line_of (Nat.le_trans fnd_len (by omega))
      refine ⟨_, rfl, ?_⟩
      cases er : rlab s with
      | none =>
        have eb : isRx s = false := by unfold isRx; rw [er]; rfl
        rw [eb]
        rw [er] at hm
        simp only [List.append_nil] at hm
        exact iteF ⟨vs, _, _, rfl, s3', e1', e2', by rw [hm]; exact hP'⟩
      | some m =>
        have eb : isRx s = true := by unfold isRx; rw [er]; rfl
        rw [eb]
        rw [er] at hm
        have es : ∃ b x, s = .app (.lam m b) x := by
          cases s with
          | var n => cases er
          | lam l b => cases er
          | app g x =>
            cases g with
            | var n => cases er
            | app g y => cases er
            | lam l b => cases er; exact ⟨b, x, rfl⟩
        obtain ⟨b, x, rfl⟩ := es
        have hmem : (p', m) ∈ rdx t := rdx_ix.mpr ⟨i, b, x, hi'⟩
        obtain ⟨am, k, rfl, hk⟩ := hM m (mem_labs t p' m hmem)
        have hk3 := s3' _ _ hk
        refine iteT ⟨.ref fo, rfl, .inl ⟨rfl, _, .inl (.inl e1')⟩, ?_⟩
        refine ⟨_, rfl, _, rfl, _, rfl, _, _, rfl, rfl, _, _, _, _, rfl, rfl, same_t s3' hT, atI_nat (j := i + 1) (lab_at hx' hl), ?_⟩
        refine ⟨am, _, 1, .int k, rfl, rfl, .inl (.inl hk3), rfl, by show 2 ≤ sizeLine; decide, fun T nT => ?_⟩
        have s4 : Same H3 (upd H3 T (.tup [eP p, .int k])) := same_new nT
        have e14 := s4 _ _ e1'
        have nTf : T ≠ fo := (ne_of_none e1' nT).symm
        refine ⟨fo, _, _, rfl, rfl, e14, hlen, ?_⟩
        refine ⟨vs ++ [.ref T], _, _, rfl, same_mut (s3'.trans s4) nf, by rw [upd_same], by rw [upd_ne nfp.symm]; exact s4 _ _ e2', ?_⟩
        rw [hm]
        refine PR.snoc (hP'.mono fun c x y h => ?_) ?_
        · rw [upd_ne (ne_of (s4 _ _ h) e14 (fun z => nomatch z))]
          exact s4 _ _ h
        · rw [upd_ne nTf, upd_same, mu_of hk]
  · obtain ⟨vs, y2, y3, rfl, s3, e1, e2, hP⟩ := h
    rw [plV_len, fnd_all] at hP
    exact ⟨.ref fo, rfl, q fo vs _ nf s3 e1 hP⟩
/-! ### with_mark -/
theorem sc_with_mark : FnScope ["nodes", "mark", "place", "other"] ["nodes", "mark"] (defScope (topS 25)) := ⟨rfl, rfl, rfl, by decide +kernel, rfl, by decide +kernel, by decide +kernel⟩
def spWm (K : PySem.W.Frag) : Sp := fun vs H Q _ => ∃ (a : Addr) (t : T) (k : Int), vs = [.ref a, .int k] ∧ SqT K H a (flat t) ∧ Mkd H t ∧ sz t ≤ 100000 ∧ RL ((wm (fun m => mu H m == k) t).map eP) H Q
theorem wm_mks {H : Hp} {t : T} {k : Int} : wm (fun m => mu H m == k) t = ((mks H t).filter fun x => x.2 == k).map (·.1) := by
  unfold wm mks
  rw [List.filter_map, List.map_map]
  rfl
theorem filt_more {α : Type} {p : α → Bool} {l : List α} {i : Nat} {x : α} (h : l[i]? = some x) : (l.take (i + 1)).filter p = (l.take i).filter p ++ (if p x = true then [x] else []) := by
  rw [take_more h, List.filter_append, List.filter_cons, List.filter_nil]
theorem ok_with_mark (F : Fun K "with_mark" "with_mark" (topS 25) f fd) (Z : Glb K mg) (D_marks : Df P w K mg base CX0 2 "marks" ["nodes"] (spMs K)) : FnOk P w K mg base CX0 3 f fd ["nodes", "mark"] (spWm K) := by
  refine F.ok sc_with_mark (fun vs H Q E h => ?_) (fun cdv A outer st H vs Q E hr h => ?_)
  · obtain ⟨a, t, k, rfl, _⟩ := h
    rfl
  obtain ⟨a, t, k, rfl, hT, hM, hz, q⟩ := h
  refine ⟨_, (pss_one (ps_ret (pe_lc (own := [("place", 2), ("other", 3)]) (by rfl) sc_with_mark.nd (pi_list (pe_callD D_marks (room_in hr) (by rfl) pass0 (pa_cons (pv 0) pa_nil))) (blkOk_by (own := [("place", 2), ("other", 3)]) (N := ["nodes", "mark", "place", "other"]) (sc := defScope (topS 25)) (by decide +kernel)) (fun _ _ _ _ _ => (pg_tupK (K := K) (n := 2) rfl rfl (pgs_cons (pg_name (i := 2) sc_with_mark.nd rfl (.inl rfl)) (pgs_cons (pg_name (i := 3) sc_with_mark.nd rfl (.inl rfl)) pgs_nil)))) (fun _ _ _ _ _ => (pts_one (pt_cmpR op_eq (pv 3) (pv 1) (nomark _)))) (fun _ _ _ _ _ => (pv 2))))), ?_⟩
  refine ⟨_, rfl, a, t, rfl, hT, hM, hz, fun l vs H1 nl s1 el hP => ?_⟩
  have lv : vs.length ≤ 100000 := by
    rw [← hP.len, List.length_map]
    have e := rdx_pns t []
    have e2 : ((rdx t).map fun x => (([] : Place) ++ x.1, x.2)).length ≤ sz t := by
      rw [← e]
      refine Nat.le_trans (List.length_filterMap_le _ _) ?_
      rw [pns_len]
      exact Nat.le_refl _
    rw [List.length_map] at e2
    omega
  refine ⟨l, rfl, ⟨vs, .inl (.inl el)⟩, fun D nD => lc_list (xs := vs) (fun i H' => Same H1 H' ∧ H' D = some (.lst ((((mks H t).take i).filter fun x => x.2 == k).map fun x => eP x.1))) ⟨same_new nD, upd_same⟩ (fun i H' _ h => .inl (.inl (h.1 _ _ el))) (fun i v H' hv h => ?_) (fun H' h => ?_)⟩
  · obtain ⟨x, hx, c, rfl, hc⟩ := hP.at hv
    have hc' := h.1 _ _ hc
    have hm := filt_more (p := fun x : Place × Int => x.2 == k) hx
    refine ⟨c, _, rfl, .inl (.inl hc'), rfl, _, _, rfl, _, _, rfl, rfl, rfl, ?_⟩
    refine ⟨_, rfl, _, rfl, rfl, _, rfl, ?_⟩
    by_cases hk : x.2 = k
    · have d1 : decide (V.int x.2 = V.int k) = true := decide_eq_true (by rw [hk])
      rw [d1]
      rw [if_pos (beq_iff_eq.mpr hk)] at hm
      refine iteT ⟨_, rfl, _, h.2, line_of ?_, same_mut h.1 nD, ?_⟩
      · rw [List.length_map]
        refine Nat.le_trans (List.length_filter_le _ _) ?_
        rw [List.length_take]
        have := hP.len
        omega
      · rw [upd_same, hm, List.map_append]
        rfl
    · have d1 : decide (V.int x.2 = V.int k) = false := decide_eq_false (fun z => hk (V.int.inj z))
      rw [d1]
      rw [if_neg (fun z => hk (beq_iff_eq.mp z)), List.append_nil] at hm
      exact iteF ⟨h.1, by rw [hm]; exact h.2⟩
  · obtain ⟨s2, eD⟩ := h
    rw [← hP.len, List.take_length] at eD
    refine q D H' (s1.free nD) (s1.trans s2) ?_
    rw [eD, wm_mks, List.map_map]
    rfl
end
end Lyd

set_option Elab.async false
set_option linter.all false
set_option maxRecDepth 100000
set_option maxHeartbeats 1000000
namespace Lyd
open PySem PySem.Spec PyProof.Rows L2
theorem rdx_lab {t : T} {q : Place} {m m' : V} (h : (q, m) ∈ rdx t) (h' : (q, m') ∈ rdx t) : m = m' := by
  obtain ⟨_, _, _, e⟩ := rdx_ix.mp h
  obtain ⟨_, _, _, e'⟩ := rdx_ix.mp h'
  rw [e] at e'
  cases e'
  rfl
/-- the term without its marks -/
abbrev un : T → T := relab (fun _ => V.str "lam")
theorem un_step {tm u : T} {p : Place} (h : step (un tm) p = some u) : ∃ um, step tm p = some um ∧ un um = u := by
  rw [relab_step] at h
  exact Option.map_eq_some_iff.mp h
theorem step_un {tm um : T} {p : Place} (h : step tm p = some um) : step (un tm) p = some (un um) := by
  rw [relab_step, h]
  rfl
theorem un_follow {tm u : T} {r : List Place} (h : follow_ (un tm) r = some u) : ∃ um, follow_ tm r = some um ∧ un um = u := by
  rw [relab_follow] at h
  exact Option.map_eq_some_iff.mp h
theorem follow_un {tm um : T} {r : List Place} (h : follow_ tm r = some um) : follow_ (un tm) r = some (un um) := by
  rw [relab_follow, h]
  rfl
theorem un_head {tm : T} {p : Place} {m : V} (h : (rdx (un tm)).head? = some (p, m)) : ∃ m', (rdx tm).head? = some (p, m') := by
  rw [relab_rdx, List.head?_map] at h
  obtain ⟨⟨q, m'⟩, h1, h2⟩ := Option.map_eq_some_iff.mp h
  cases h2
  exact ⟨m', h1⟩
theorem head_un {tm : T} {p : Place} {m : V} (h : (rdx tm).head? = some (p, m)) : ∃ m', (rdx (un tm)).head? = some (p, m') := by
  rw [relab_rdx, List.head?_map, h]
  exact ⟨_, rfl⟩
theorem un_norm {tm : T} (h : normal_ (un tm)) : normal_ tm := by
  unfold normal_ at h ⊢
  rw [relab_rdx] at h
  exact List.map_eq_nil_iff.mp h
theorem sq_upd {K : PySem.W.Frag} {H : Hp} {a D : Addr} {xs : List V} {o u : HO} (h : SqT K H a xs) (e : H D = some u) (hu : ∀ ys, u ≠ .tup ys) (hf : ∀ o ys, u ≠ .frz o (.tup ys)) : SqT K (upd H D o) a xs := by
  rcases h with (h | ⟨z, h⟩) | h
  · exact .inl (.inl (by rw [upd_ne (ne_of h e fun x => hu _ x.symm)]; exact h))
  · exact .inl (.inr ⟨z, by rw [upd_ne (ne_of h e fun x => hf _ _ x.symm)]; exact h⟩)
  · exact .inr h
theorem follow_cons {t n : T} {p : Place} {r : List Place} (h : follow_ t (p :: r) = some n) : ∃ u, step t p = some u ∧ follow_ u r = some n := by
  have h' : (step t p).bind (fun u => follow_ u r) = some n := h
  exact Option.bind_eq_some_iff.mp h'
section
variable {P : Program} {w : World} {K : PySem.W.Frag} {mg : Str → Option Value} {base : Heap} {f CT CR : Addr} {fd : FuncData}
/-! ### first_of -/
theorem sc_first_of : FnScope ["term", "road", "start", "nodes", "stepped_marks", "place", "mark"] ["term", "road"] (defScope (topS 28)) := ⟨rfl, rfl, rfl, by decide +kernel, rfl, by decide +kernel, by decide +kernel⟩
/-- too large, wherever that may be -/
def XE (CT : Addr) (H : Hp) (E : XK) : Prop := ∀ H', Same H H' → E (.ref CT) none H'
def spFi (K : PySem.W.Frag) (CT : Addr) : Sp := fun vs H Q E => ∃ (a l : Addr) (t n : T) (r : List Place) (p : Place) (m : V), vs = [.ref a, .ref l] ∧ SqT K H a (flat t) ∧ SqL K H l (roV r) ∧ Pl t ∧ sz t ≤ 1000 ∧ r.length ≤ 1000 ∧ follow_ t r = some n ∧ normal_ n ∧ (rdx t).head? = some (p, m) ∧ RV (eP p) H Q ∧ XE CT H E
def wFi (K : PySem.W.Frag) (a l b D : Addr) (p0 : Place) (m0 : V) (r : List Place) (nm : T) (H1 : Hp) : Nat → L2.St → Hp → Prop := fun i σ H' => ∃ (c : Addr) (u : T) (kvs : List (Key × V)) (y5 y6 : Option V),
  σ = [some (.ref a), some (.ref l), some (.ref b), some (.ref c), some (.ref D), y5, y6] ∧ Same H1 H' ∧ H' D = some (.dK kvs) ∧ kvs.length ≤ i ∧ SqT K H' c (flat u) ∧ follow_ u (r.drop i) = some nm ∧ Mkd H1 u ∧ sz u ≤ 1000 ∧ ((rdx u).head? = some (p0, m0) ∨ (valV kvs (.inl (mu H1 m0))).isSome = true)
theorem ok_first_of (F : Fun K "first_of" "first_of" (topS 28) f fd) (Z : Glb K mg) (ZR : Err K mg "NoRedex" CR) (D_marked : Df P w K mg base CX0 1 "marked" ["nodes"] (spMk K)) (D_mark_at : Df P w K mg base CX0 3 "mark_at" ["nodes", "place"] (spMa K))
    (D_stepped : Df P w K mg base (L2.CX P w) 4 "stepped" ["nodes", "place"] (spSt K CT)) (D_marks : Df P w K mg base CX0 2 "marks" ["nodes"] (spMs K)) : FnOk P w K mg base (L2.CX P w) 5 f fd ["term", "road"] (spFi K CT) := by
  refine F.okX sc_first_of (fun vs H Q E h => ?_) (fun cdv A outer st H vs Q E hr h => ?_)
  · obtain ⟨a, l, t, n, r, p, m, rfl, _⟩ := h
    rfl
  obtain ⟨a, l, t, n, r, p, m, rfl, hT, hL, hP, hz, hrl, hf, hn, hh, q, x⟩ := h
  have tk : Takes (cxOf (L2.CX P w) P w K mg base ["term", "road", "start", "nodes", "stepped_marks", "place", "mark"] "first_of" (defScope (topS 28)) f cdv A outer st H E) (wE E) := takes_of rfl rfl rfl rfl
  refine ⟨_, (pss_cons (ps_set (i := 2) sc_first_of.nd rfl (.inl rfl) (pe_callD D_marked (room_in hr) (by rfl) pass0 (pa_cons (pv 0) pa_nil)))
      (pss_cons (ps_set (i := 3) sc_first_of.nd rfl (.inl rfl) (pv 2))
      (pss_cons (ps_set (i := 4) sc_first_of.nd rfl (.inr rfl) pe_dnewK)
      (pss_cons (ps_for (passes_of rfl) rfl (pi_list (pv 1)) (pg_name (i := 5) sc_first_of.nd rfl (.inl rfl)) (pss_cons (ps_set (i := 6) sc_first_of.nd rfl (.inl rfl) (pe_callD D_mark_at (room_in hr) (by rfl) pass0 (pa_cons (pv 3) (pa_cons (pv 5) pa_nil))))
      (pss_cons (ps_if (pt_cmpR op_isN (pv 6) pe_non (nomark _)) (pss_one (ps_err ZR rfl tk (by rfl))) pss_nil)
      (pss_cons (ps_dput (hu_of hr) (pv 4) (pv 6) pe_bl rfl)
      (pss_one (ps_set (i := 3) sc_first_of.nd rfl (.inl rfl) (pe_callD D_stepped (room_in hr) (by rfl) (passE tk) (pa_cons (pv 3) (pa_cons (pv 5) pa_nil)))))))))
      (pss_one (ps_ret (pe_ix ix_list (pe_lc (own := [("place", 5), ("mark", 6)]) (by rfl) sc_first_of.nd (pi_list (pe_callD D_marks (room_in hr) (by rfl) pass0 (pa_cons (pv 2) pa_nil))) (blkOk_by (own := [("place", 5), ("mark", 6)]) (N := ["term", "road", "start", "nodes", "stepped_marks", "place", "mark"]) (sc := defScope (topS 28)) (by decide +kernel)) (fun _ _ _ _ _ => (pg_tupK (K := K) (n := 2) rfl rfl (pgs_cons (pg_name (i := 5) sc_first_of.nd rfl (.inl rfl)) (pgs_cons (pg_name (i := 6) sc_first_of.nd rfl (.inl rfl)) pgs_nil)))) (fun _ _ _ _ _ => (pts_one (pt_cmp (pc_din (hu_of hr) (pv 6) (pv 4))))) (fun _ _ _ _ _ => (pv 5))) pe_int (fun _ _ => rfl)))))))), ?_⟩
  refine ⟨_, rfl, a, t, rfl, hT, hP, by omega, fun b H1 tm s1 hb hre hM hnd hsz => ?_⟩
  refine ⟨_, rfl, fun D nD => ?_⟩
  have hL1 := s1.seq hL
  have s2 : Same H1 (upd H1 D (.dK [])) := same_new nD
  have hf' : follow_ (un tm) r = some n := by rw [show un tm = t from hre]; exact hf
  obtain ⟨nm, hnm, hun⟩ := un_follow hf'
  have hnn : normal_ nm := un_norm (by rw [hun]; exact hn)
  have hh' : (rdx (un tm)).head? = some (p, m) := by rw [show un tm = t from hre]; exact hh
  obtain ⟨m0, hm0⟩ := un_head hh'
  refine ⟨_, rfl, l, rfl, ⟨_, s2.seq hL1⟩, for_list (xs := roV r) (wFi K a l b D p m0 r nm H1) ⟨b, tm, [], none, none, rfl, s2, upd_same, Nat.le_refl _, same_t s2 hb, hnm, hM, by omega, .inl hm0⟩ (fun i σ H' _ h => ?_) (fun i x σ H' hx h => ?_) (fun σ Hc h => ?_)⟩
  · obtain ⟨_, _, _, _, _, _, sm, _⟩ := h
    exact sm.seq hL1
  · obtain ⟨c, u, kvs, y5, y6, rfl, sm, eD, hk, hc, hfu, hMu, hzu, hd⟩ := h
    rw [List.getElem?_map] at hx
    cases e : r[i]? with
    | none => rw [e] at hx; cases hx
    | some p' =>
      rw [e] at hx
      cases Option.some.inj hx
      have hi : i < r.length := (List.getElem?_eq_some_iff.mp e).1
      rw [drop_cons e] at hfu
      obtain ⟨v, h1, h2⟩ := follow_cons hfu
      obtain ⟨mq, hmq⟩ := some_step h1
      refine ⟨_, rfl, _, rfl, c, u, p', mq, rfl, hc, hMu.mono sm, hmq, ?_⟩
      rw [hMu.mu sm (mem_labs u p' mq hmq)]
      refine ⟨_, rfl, rfl, _, rfl, iteF ?_⟩
      refine ⟨_, rfl, _, rfl, D, _, rfl, DPut.k (k := .inl (mu H1 mq)) eD (line_of (by omega)), ?_⟩
      have sm' : Same H1 (upd H' D (.dK (putK kvs (.inl (mu H1 mq)) (.bl true)))) := same_mut sm nD
      refine ⟨_, rfl, _, rfl, c, u, v, p', rfl, sq_upd hc eD (fun _ z => nomatch z) (fun _ _ z => nomatch z), (hMu.tmk).mono sm', hzu, h1, fun hsz p2 H3 s3 hp2 => ?_, fun hb H3 s3 => x H3 (s1.trans (sm'.trans s3))⟩
      refine ⟨p2, v, _, _, _, rfl, sm'.trans s3, s3 _ _ upd_same, Nat.le_trans (length_putK _ _ _) (by omega), hp2, h2, hMu.step h1, hsz, ?_⟩
      rw [valV_put]
      rcases hd with hd | hd
      · by_cases hq : p' = p
        · subst hq
          have : m0 = mq := rdx_lab (List.mem_of_mem_head? hd) hmq
          rw [if_pos (by rw [this])]
          exact .inr rfl
        · exact .inl (first_stays u p' v p m0 h1 hd hq)
      · refine .inr ?_
        by_cases hj : (Sum.inl (mu H1 m0) : Key) = Sum.inl (mu H1 mq)
        · rw [if_pos hj]; rfl
        · rw [if_neg hj]; exact hd
  · obtain ⟨c, u, kvs, y5, y6, rfl, sm, eD, hk, hc, hfu, hMu, hzu, hd⟩ := h
    rw [List.length_map, List.drop_length] at hfu
    cases hfu
    have hin : (valV kvs (.inl (mu H1 m0))).isSome = true := by
      rcases hd with hd | hd
      · rw [show rdx nm = [] from hnn] at hd
        cases hd
      · exact hd
    refine ⟨_, rfl, b, tm, rfl, same_t sm hb, hM.mono sm, by omega, fun lm vs H3 nl s3 el hPR => ?_⟩
    have hvs : vs.length ≤ 100000 := by
      rw [← hPR.len, List.length_map]
      have e := rdx_pns tm []
      have e2 : ((rdx tm).map fun x => (([] : Place) ++ x.1, x.2)).length ≤ sz tm := by
        rw [← e]
        refine Nat.le_trans (List.length_filterMap_le _ _) ?_
        rw [pns_len]
        exact Nat.le_refl _
      rw [List.length_map] at e2
      omega
    have eD3 := s3 _ _ eD
    have hsm : Same H1 H3 := sm.trans s3
    -- the places whose marks stand in the dict
    let g : Place × Int → Bool := fun x => (valV kvs (.inl x.2)).isSome
    refine ⟨lm, rfl, ⟨vs, .inl (.inl el)⟩, fun G nG => lc_list (xs := vs) (fun i H' => Same H3 H' ∧ H' G = some (.lst ((((mks Hc tm).take i).filter g).map fun x => eP x.1))) ⟨same_new nG, upd_same⟩ (fun i H' _ h => .inl (.inl (h.1 _ _ el))) (fun i v H' hv h => ?_) (fun H' h => ?_)⟩
    · obtain ⟨x, hx, c, rfl, hc⟩ := hPR.at hv
      have hc' := h.1 _ _ hc
      have hm := filt_more (p := g) hx
      refine ⟨c, _, rfl, .inl (.inl hc'), rfl, _, _, rfl, _, _, rfl, rfl, rfl, ?_⟩
      refine ⟨_, rfl, _, rfl, D, _, rfl, DGet.k (k := .inl x.2) (h.1 _ _ eD3), ?_⟩
      refine ⟨_, rfl, ite_b (fun hg => ?_) (fun hg => ?_)⟩
      · rw [if_pos (show g x = true from hg)] at hm
        refine ⟨_, rfl, _, h.2, line_of ?_, same_mut h.1 nG, ?_⟩
        · rw [List.length_map]
          refine Nat.le_trans (List.length_filter_le _ _) ?_
          rw [List.length_take]
          have := hPR.len
          omega
        · rw [upd_same, hm, List.map_append]
          rfl
      · rw [if_neg (show ¬ g x = true from fun z => Bool.false_ne_true (hg.symm.trans z)), List.append_nil] at hm
        exact ⟨h.1, by rw [hm]; exact h.2⟩
    · obtain ⟨s4, eG⟩ := h
      rw [← hPR.len, List.take_length] at eG
      have hmk : (mks Hc tm).head? = some (p, mu Hc m0) := by
        rw [List.head?_map, hm0]
        rfl
      have hmu : mu Hc m0 = mu H1 m0 := hM.mu sm (mem_labs tm p m0 (List.mem_of_mem_head? hm0))
      have hfst : (((mks Hc tm).filter g).map fun x => eP x.1)[0]? = some (eP p) := by
        cases e : mks Hc tm with
        | nil => rw [e] at hmk; cases hmk
        | cons y ys =>
          rw [e] at hmk
          cases Option.some.inj hmk
          rw [List.filter_cons, if_pos (show g (p, mu Hc m0) = true by show (valV kvs (.inl (mu Hc m0))).isSome = true; rw [hmu]; exact hin)]
          rfl
      refine ⟨_, _, _, _, rfl, rfl, .inl (.inl eG), atI_nat (j := 0) hfst, ?_⟩
      exact q H' (s1.trans (hsm.trans s4))
end
end Lyd

set_option Elab.async false
set_option linter.all false
set_option maxRecDepth 100000
set_option maxHeartbeats 1000000
namespace Lyd
open PySem PySem.Spec PyProof.Rows L2
theorem count_one {α : Type} {g : α → Int} {c : Int} : ∀ (l : List α), (l.map g).Nodup → l.countP (fun m => g m == c) ≤ 1
  | [], _ => Nat.zero_le _
  | x :: l, h => by
    rw [List.map_cons] at h
    have h' := List.nodup_cons.mp h
    rw [List.countP_cons]
    by_cases e : g x = c
    · have z : l.countP (fun m => g m == c) = 0 := by
        rw [List.countP_eq_zero]
        intro y hy k
        exact h'.1 (List.mem_map.mpr ⟨y, hy, by rw [eq_of_beq k, e]⟩)
      rw [z, if_pos (by rw [e]; exact beq_self_eq_true c)]
      exact Nat.le_refl _
    · rw [if_neg (fun k => e (eq_of_beq k)), Nat.add_zero]
      exact count_one l h'.2
theorem Mkd.upd {H : Hp} {t : T} {D : Addr} {o : HO} {ys : List V} (h : Mkd H t) (e : H D = some (.lst ys)) : Mkd (L2.upd H D o) t := fun m hm => by
  obtain ⟨a, k, e1, h1⟩ := h m hm
  exact ⟨a, k, e1, by rw [upd_ne (ne_of h1 e fun z => nomatch z)]; exact h1⟩
theorem wm_len (k : V → Bool) (t : T) : (wm k t).length ≤ sz t := by
  unfold wm
  rw [List.length_map]
  refine Nat.le_trans (List.length_filter_le _ _) ?_
  have e := rdx_pns t []
  have e2 : ((rdx t).map fun x => (([] : Place) ++ x.1, x.2)).length ≤ sz t := by
    rw [← e]
    refine Nat.le_trans (List.length_filterMap_le _ _) ?_
    rw [pns_len]
    exact Nat.le_refl _
  rw [List.length_map] at e2
  exact e2
theorem wm_head {k : V → Bool} {t : T} {p : Place} {m : V} (h : (rdx t).head? = some (p, m)) (hk : k m = true) : (wm k t)[0]? = some p := by
  unfold wm
  cases e : rdx t with
  | nil => rw [e] at h; cases h
  | cons y ys =>
    rw [e] at h
    cases Option.some.inj h
    rw [List.filter_cons, if_pos hk]
    rfl
section
variable {P : Program} {w : World} {K : PySem.W.Frag} {mg : Str → Option Value} {base : Heap} {f CT CR : Addr} {fd : FuncData}
/-! ### without -/
theorem sc_without : FnScope ["term", "place", "road", "found", "k", "nodes", "row", "mark"] ["term", "place", "road"] (defScope (topS 29)) := ⟨rfl, rfl, rfl, by decide +kernel, rfl, by decide +kernel, by decide +kernel⟩
def spWo (K : PySem.W.Frag) (CT : Addr) : Sp := fun vs H Q E => ∃ (a l : Addr) (t t0 n : T) (r : List Place) (p : Place) (m : V), vs = [.ref a, .str (plS p), .ref l] ∧ SqT K H a (flat t) ∧ SqL K H l (roV r) ∧ Pl t ∧ sz t ≤ 1000 ∧ r.length ≤ 1000 ∧ follow_ t r = some n ∧ normal_ n ∧ (rdx t).head? = some (p, m) ∧ step t p = some t0 ∧ (∀ r', follow_ t0 r' = some n → RL (roV r') H Q) ∧ XE CT H E
def wWo (K : PySem.W.Frag) (l fo : Addr) (p : Place) (t0 n : T) (r : List Place) (H : Hp) : Nat → L2.St → Hp → Prop := fun i σ H' => ∃ (c : Addr) (u s : T) (Fd : List Place) (m : V) (y4 y5 y6 y7 : Option V),
  σ = [some (.ref c), some (.str (plS p)), some (.ref l), some (.ref fo), y4, y5, y6, y7] ∧ Same H H' ∧ H' fo = some (.lst (roV Fd)) ∧ Fd.length ≤ 200 ∧ SqT K H' c (flat u) ∧ Pl u ∧ sz u ≤ 1000 ∧ follow_ u (r.drop i) = some n ∧ (rdx u).head? = some (p, m) ∧ step u p = some s ∧ follow_ t0 Fd = some s
theorem ok_without (F : Fun K "without" "without" (topS 29) f fd) (Z : Glb K mg) (ZT : Err K mg "TooLarge" CT) (D_marked : Df P w K mg base CX0 1 "marked" ["nodes"] (spMk K)) (D_mark_at : Df P w K mg base CX0 3 "mark_at" ["nodes", "place"] (spMa K))
    (D_stepped : Df P w K mg base (L2.CX P w) 4 "stepped" ["nodes", "place"] (spSt K CT)) (D_with_mark : Df P w K mg base CX0 3 "with_mark" ["nodes", "mark"] (spWm K)) : FnOk P w K mg base (L2.CX P w) 5 f fd ["term", "place", "road"] (spWo K CT) := by
  refine F.okX sc_without (fun vs H Q E h => ?_) (fun cdv A outer st H vs Q E hr h => ?_)
  · obtain ⟨a, l, t, t0, n, r, p, m, rfl, _⟩ := h
    rfl
  obtain ⟨a, l, t, t0, n, r, p, m, rfl, hT, hL, hP, hz, hrl, hf, hn, hh, h0, q, x⟩ := h
  have tk : Takes (cxOf (L2.CX P w) P w K mg base ["term", "place", "road", "found", "k", "nodes", "row", "mark"] "without" (defScope (topS 29)) f cdv A outer st H E) (wE E) := takes_of rfl rfl rfl rfl
  refine ⟨_, (pss_cons (ps_set (i := 3) sc_without.nd rfl (.inl rfl) (pe_lst pa_nil))
      (pss_cons (ps_for (passes_of rfl) rfl (pi_range1 (by rfl) Z.rng (pa_cons (pe_callB call_len_seq (by rfl) Z.len PySem.boot_len (pa_cons (pv 2) pa_nil)) pa_nil)) (pg_name (i := 4) sc_without.nd rfl (.inl rfl)) (pss_cons (ps_if (pt_cmpR op_eq (pe_ix ix_list (pv 2) (pv 4) (fun _ _ => rfl)) (pv 1) (nomark _)) (pss_one (ps_ret (pe_op op_cat (pv 3) (pe_slice sl_list (pv 2) (po_some (pe_op op_add (pv 4) pe_int)) po_none)))) pss_nil)
      (pss_cons (ps_set (i := 5) sc_without.nd rfl (.inl rfl) (pe_callD D_marked (room_in hr) (by rfl) pass0 (pa_cons (pv 0) pa_nil)))
      (pss_cons (ps_set (i := 6) sc_without.nd rfl (.inl rfl) (pe_callD D_with_mark (room_in hr) (by rfl) pass0 (pa_cons (pe_callD D_stepped (room_in hr) (by rfl) (passE tk) (pa_cons (pv 5) (pa_cons (pv 1) pa_nil))) (pa_cons (pe_callD D_mark_at (room_in hr) (by rfl) pass0 (pa_cons (pv 5) (pa_cons (pe_ix ix_list (pv 2) (pv 4) (fun _ _ => rfl)) pa_nil))) pa_nil))))
      (pss_cons (ps_expr (pe_bm PySem.F.plainAttrs_list PySem.F.slot_list_extend PySem.F.type_list_extend mt_extend (pv 3) (pa_cons (pe_revL (pv 6)) pa_nil)))
      (pss_cons (ps_if (pt_cmpR op_gt (pe_callB call_len_seq (by rfl) Z.len PySem.boot_len (pa_cons (pv 3) pa_nil)) (pe_const Z.road (by rfl)) (nomark _)) (pss_one (ps_err ZT rfl tk (by rfl))) pss_nil)
      (pss_cons (ps_set (i := 7) sc_without.nd rfl (.inl rfl) (pe_callD D_mark_at (room_in hr) (by rfl) pass0 (pa_cons (pv 5) (pa_cons (pv 1) pa_nil))))
      (pss_cons (ps_set (i := 5) sc_without.nd rfl (.inl rfl) (pe_callD D_stepped (room_in hr) (by rfl) (passE tk) (pa_cons (pv 5) (pa_cons (pe_ix ix_list (pv 2) (pv 4) (fun _ _ => rfl)) pa_nil))))
      (pss_cons (ps_set (i := 1) sc_without.nd rfl (.inl rfl) (pe_ix ix_list (pe_callD D_with_mark (room_in hr) (by rfl) pass0 (pa_cons (pv 5) (pa_cons (pv 7) pa_nil))) pe_int (fun _ _ => rfl)))
      (pss_one (ps_set (i := 0) sc_without.nd rfl (.inl rfl) (pe_callD D_stepped (room_in hr) (by rfl) (passE tk) (pa_cons (pv 0) (pa_cons (pe_ix ix_list (pv 2) (pv 4) (fun _ _ => rfl)) pa_nil))))))))))))))
      (pss_one (ps_ret (pv 3))))), ?_⟩
  refine ⟨Nat.zero_le _, fun fo nf => ?_⟩
  have s1 : Same H (upd H fo (.lst [])) := same_new nf
  refine ⟨_, rfl, l, _, rfl, .inl (s1.seq hL), _, rfl, by rw [List.length_map]; omega, by rw [List.length_map]; omega, for_range (n := (roV r).length) (wWo K l fo p t0 n r H) ?_ (fun i σ H' hi h => ?_) (fun σ H' h => ?_)⟩
  · exact ⟨a, t, t0, [], m, none, none, none, none, rfl, s1, upd_same, Nat.zero_le _, same_t s1 hT, hP, hz, hf, hh, h0, rfl⟩
  · have hi : i < r.length := by rw [← List.length_map (f := eP)]; exact hi
    obtain ⟨c, u, s, Fd, m, y4, y5, y6, y7, rfl, sm, ef, hFl, hc, hPu, hzu, hfu, hhu, hs, hF⟩ := h
    rw [Int.zero_add]
    have hgi : r[i]? = some r[i] := List.getElem?_eq_getElem hi
    generalize r[i] = q0 at hgi
    have hgV : (roV r)[i]? = some (eP q0) := by rw [List.getElem?_map, hgi]; rfl
    rw [drop_cons hgi] at hfu
    obtain ⟨u', hq1, hfu'⟩ := follow_cons hfu
    have hLf : (roV Fd).length ≤ 200 := by rw [List.length_map]; exact hFl
    have hLr : (roV r).length ≤ 1000 := by rw [List.length_map]; exact hrl
    refine ⟨_, rfl, _, rfl, _, _, _, _, rfl, rfl, sm.seq hL, atI_nat hgV, _, rfl, rfl, _, rfl, ite_b (fun e => ?_) (fun e => ?_)⟩
    · -- the place itself
      have e1 : V.str (plS q0) = V.str (plS p) := of_decide_eq_true e
      have e2 : q0 = p := plS_inj (V.str.inj e1)
      subst e2
      rw [hs] at hq1
      cases hq1
      refine ⟨_, rfl, _, rfl, _, rfl, _, _, rfl, rfl, _, rfl, ?_⟩
      dsimp only [tNoPart]
      refine ⟨l, _, rfl, sm.seq hL, fun p1 n1 => ?_⟩
      rw [show ((i : Nat) : Int) + 1 = ((i + 1 : Nat) : Int) by omega, cut_drop (by rw [List.length_map]; omega)]
      have s4 : Same H' (upd H' p1 (.lst ((roV r).drop (i + 1)))) := same_new n1
      have ef1 := s4 _ _ ef
      refine ⟨fo, p1, _, _, rfl, rfl, ef1, upd_same, line_le ?_, fun p2 n2 => ?_⟩
      · rw [List.length_drop]
        omega
      · refine q (Fd ++ r.drop (i + 1)) ?_ p2 _ ((sm.trans s4).free n2) ((sm.trans s4).trans (same_new n2)) ?_
        · rw [follow_append, hF]
          exact hfu'
        · rw [upd_same]
          show some (HO.lst (roV Fd ++ (roV r).drop (i + 1))) = some (HO.lst ((Fd ++ r.drop (i + 1)).map eP))
          rw [List.map_append, List.map_drop]
    · have ne : q0 ≠ p := fun z => by
        subst z
        have e1 : ¬ V.str (plS q0) = V.str (plS q0) := of_decide_eq_false e
        exact e1 rfl
      refine ⟨_, rfl, c, u, rfl, hc, hPu, by omega, fun b H1 tm s2 hb hre hM hnd hsz => ?_⟩
      have hre' : un tm = u := hre
      have hq1' : step (un tm) q0 = some u' := by rw [hre']; exact hq1
      have hs' : step (un tm) p = some s := by rw [hre']; exact hs
      obtain ⟨tm1, hm1, hu1⟩ := un_step hq1'
      obtain ⟨tm0, hm0, hu0⟩ := un_step hs'
      have hhu' : (rdx (un tm)).head? = some (p, m) := by rw [hre']; exact hhu
      obtain ⟨mp, hmp⟩ := un_head hhu'
      obtain ⟨mq, hmq⟩ := some_step hm1
      have hL1 := (sm.trans s2).seq hL
      refine ⟨_, rfl, _, rfl, b, tm, tm0, p, rfl, hb, hM.tmk, by omega, hm0, fun hz0 p2 H2 s3 hp2 => ?_, fun _ H2 s3 => x H2 (sm.trans (s2.trans s3))⟩
      have s13 := sm.trans (s2.trans s3)
      refine ⟨_, rfl, _, rfl, _, rfl, _, _, _, _, rfl, rfl, s13.seq hL, atI_nat hgV, b, tm, q0, mq, rfl, same_t s3 hb, hM.mono s3, hmq, ?_⟩
      refine ⟨p2, tm0, _, rfl, hp2, (hM.step hm0).mono s3, by omega, fun rw_ H3 nrw s4 erw => ?_⟩
      have s14 := s13.trans s4
      have hnd2 : ((labs tm).map (mu H2)).Nodup := by
        have e : (labs tm).map (mu H2) = (labs tm).map (mu H1) := List.map_congr_left fun y hy => hM.mu s3 hy
        rw [e]
        exact hnd
      obtain ⟨uu, d1, d2⟩ := diamond (k := fun y => mu H2 y == mu H2 mq) hmp hmq (beq_self_eq_true _) (count_one _ hnd2) ne hm0 hm1
      have hrw : (wm (fun y => mu H2 y == mu H2 mq) tm0).length ≤ 1000 := Nat.le_trans (wm_len _ _) hz0
      generalize hR : wm (fun y => mu H2 y == mu H2 mq) tm0 = R at d1 hrw erw
      have ef3 := s4 _ _ (s3 _ _ (s2 _ _ ef))
      refine ⟨.ref fo, rfl, .inl ⟨rfl, _, .inl (.inl ef3)⟩, _, rfl, rw_, _, rfl, .inl (.inl erw), fun rv nrv => ?_⟩
      have s5 : Same H3 (upd H3 rv (.lst (R.map eP).reverse)) := same_new nrv
      have s15 := s14.trans s5
      have ef4 := s5 _ _ ef3
      refine ⟨fo, rv, _, _, rfl, rfl, ef4, upd_same, line_le ?_, ?_⟩
      · have hLR : (R.map eP).length ≤ 1000 := by rw [List.length_map]; exact hrw
        rw [List.length_reverse]
        omega
      have efoX : roV Fd ++ (R.map eP).reverse = roV (Fd ++ R.reverse) := by
        show _ = (Fd ++ R.reverse).map eP
        rw [List.map_append, List.map_reverse]
      rw [efoX]
      -- the heap with found made longer
      generalize hH4 : upd (upd H3 rv (.lst (R.map eP).reverse)) fo (.lst (roV (Fd ++ R.reverse))) = H4
      have s6 : Same H H4 := by rw [← hH4]; exact same_mut s15 nf
      have ef5 : H4 fo = some (.lst (roV (Fd ++ R.reverse))) := by rw [← hH4, upd_same]
      have s25 : Same H1 (upd H3 rv (.lst (R.map eP).reverse)) := (s3.trans s4).trans s5
      have hb4 : SqT K H4 b (flat tm) := by rw [← hH4]; exact sq_upd (same_t s25 hb) ef4 (fun _ z => nomatch z) (fun _ _ z => nomatch z)
      have hM4 : Mkd H4 tm := by rw [← hH4]; exact (hM.mono s25).upd ef4
      have hc4 : SqT K H4 c (flat u) := by rw [← hH4]; exact sq_upd (same_t (s2.trans s25) hc) ef4 (fun _ z => nomatch z) (fun _ _ z => nomatch z)
      have hFu : follow_ t0 (Fd ++ R.reverse) = some (un uu) := by
        rw [follow_append, hF]
        show follow_ s R.reverse = _
        rw [← hu0]
        exact follow_un d1
      refine ⟨_, rfl, fo, _, rfl, .inl (.inl (.inl ef5)), _, _, rfl, rfl, _, rfl, ite_b (fun cc => x H4 s6) (fun cc => ?_)⟩
      have hlen : (Fd ++ R.reverse).length ≤ 200 := by
        have c' : ¬ (200 : Int) < ((roV (Fd ++ R.reverse)).length : Nat) := of_decide_eq_false cc
        rw [List.length_map] at c'
        omega
      refine ⟨_, rfl, _, rfl, b, tm, p, mp, rfl, hb4, hM4, List.mem_of_mem_head? hmp, ?_⟩
      refine ⟨_, rfl, _, rfl, _, rfl, _, _, _, _, rfl, rfl, s6.seq hL, atI_nat hgV, b, tm, tm1, q0, rfl, hb4, hM4.tmk, by omega, hm1, fun hz1 p3 H5 s7 hp3 => ?_, fun _ H5 s7 => x H5 (s6.trans s7)⟩
      have s8 := s6.trans s7
      have hM5 : Mkd H5 tm1 := (hM4.step hm1).mono s7
      refine ⟨_, rfl, _, rfl, p3, tm1, _, rfl, hp3, hM5, by omega, fun lw H6 nlw s9 elw => ?_⟩
      have hh1 : (rdx tm1).head? = some (p, mp) := first_stays tm q0 tm1 p mp hm1 hmp ne
      have hkp : mu H5 mp = mu H4 mp := hM4.mu s7 (mem_labs tm p mp (List.mem_of_mem_head? hmp))
      have hw0 : ((wm (fun y => mu H5 y == mu H4 mp) tm1).map eP)[0]? = some (eP p) := by
        rw [List.getElem?_map, wm_head hh1 (by rw [hkp]; exact beq_self_eq_true _)]
        rfl
      refine ⟨_, _, _, _, rfl, rfl, .inl (.inl elw), atI_nat (j := 0) hw0, ?_⟩
      have s10 := s8.trans s9
      refine ⟨_, rfl, _, rfl, _, rfl, _, _, _, _, rfl, rfl, s10.seq hL, atI_nat hgV, c, u, u', q0, rfl, same_t (s7.trans s9) hc4, hPu.tmk, hzu, hq1, fun hz2 p4 H7 s11 hp4 => ?_, fun _ H7 s11 => x H7 (s10.trans s11)⟩
      obtain ⟨m', hm'⟩ := head_un hh1
      rw [hu1] at hm'
      have hst : step u' p = some (un uu) := by rw [← hu1]; exact step_un d2
      exact ⟨p4, u', un uu, Fd ++ R.reverse, m', _, _, _, _, rfl, s10.trans s11, s11 _ _ (s9 _ _ (s7 _ _ ef5)), hlen, hp4, hPu.step hq1, hz2, hfu', hm', hst, hFu⟩
  · obtain ⟨c, u, s, Fd, m, y4, y5, y6, y7, rfl, sm, ef, hFl, hc, hPu, hzu, hfu, hhu, hs, hF⟩ := h
    rw [List.length_map, List.drop_length] at hfu
    cases hfu
    rw [show rdx n = [] from hn] at hhu
    cases hhu
end
end Lyd

set_option Elab.async false
set_option linter.all false
set_option maxRecDepth 100000
set_option maxHeartbeats 1000000
namespace Lyd
open PySem PySem.Spec PyProof.Rows L2
section
variable {P : Program} {w : World} {K : PySem.W.Frag} {mg : Str → Option Value} {base : Heap} {f CT CR CO : Addr} {fd : FuncData}
theorem head_of_step {t u : T} {p : Place} (h : step t p = some u) : ∃ q m, (rdx t).head? = some (q, m) := by
  obtain ⟨m, hm⟩ := some_step h
  cases e : rdx t with
  | nil => rw [e] at hm; cases hm
  | cons y ys => exact ⟨y.1, y.2, rfl⟩
/-! ### standard -/
theorem sc_standard : FnScope ["term", "road", "found", "place"] ["term", "road"] (defScope (topS 30)) := ⟨rfl, rfl, rfl, by decide +kernel, rfl, by decide +kernel, by decide +kernel⟩
def spSd (K : PySem.W.Frag) (CT : Addr) : Sp := fun vs H Q E => ∃ (a l : Addr) (t n : T) (r : List Place), vs = [.ref a, .ref l] ∧ SqT K H a (flat t) ∧ SqL K H l (roV r) ∧ Pl t ∧ sz t ≤ 1000 ∧ r.length ≤ 200 ∧ follow_ t r = some n ∧ normal_ n ∧
  (∀ (fo : Addr) (Fd : List Place) (H' : Hp), Same H H' → H' fo = some (.lst (roV Fd)) → Fst Fd.length t n → Q (.ref fo) H') ∧ XE CT H E
def wSd (K : PySem.W.Frag) (fo : Addr) (t n : T) (H : Hp) : Nat → L2.St → Hp → Prop := fun m σ H' => ∃ (c l : Addr) (u : T) (r Fd : List Place) (y3 : Option V),
  σ = [some (.ref c), some (.ref l), some (.ref fo), y3] ∧ m = 201 - Fd.length ∧ Same H H' ∧ H' fo = some (.lst (roV Fd)) ∧ Fd.length ≤ 200 ∧ SqT K H' c (flat u) ∧ l ≠ fo ∧ H' l = some (.lst (roV r)) ∧ Pl u ∧ sz u ≤ 1000 ∧ r.length ≤ 200 ∧ follow_ u r = some n ∧ Fst Fd.length t u
theorem ok_standard (F : Fun K "standard" "standard" (topS 30) f fd) (Z : Glb K mg) (ZT : Err K mg "TooLarge" CT) (D_first_of : Df P w K mg base (L2.CX P w) 5 "first_of" ["term", "road"] (spFi K CT)) (D_without : Df P w K mg base (L2.CX P w) 5 "without" ["term", "place", "road"] (spWo K CT))
    (D_stepped : Df P w K mg base (L2.CX P w) 4 "stepped" ["nodes", "place"] (spSt K CT)) : FnOk P w K mg base (L2.CX P w) 6 f fd ["term", "road"] (spSd K CT) := by
  refine F.okX sc_standard (fun vs H Q E h => ?_) (fun cdv A outer st H vs Q E hr h => ?_)
  · obtain ⟨a, l, t, n, r, rfl, _⟩ := h
    rfl
  obtain ⟨a, l, t, n, r, rfl, hT, hL, hP, hz, hrl, hf, hn, q, x⟩ := h
  have tk : Takes (cxOf (L2.CX P w) P w K mg base ["term", "road", "found", "place"] "standard" (defScope (topS 30)) f cdv A outer st H E) (wE E) := takes_of rfl rfl rfl rfl
  refine ⟨_, (pss_cons (ps_set (i := 2) sc_standard.nd rfl (.inl rfl) (pe_lst pa_nil))
      (pss_cons (ps_set (i := 1) sc_standard.nd rfl (.inl rfl) (pe_callTy call_list_of (by rfl) Z.lst boot_list' (pa_cons (pv 1) pa_nil)))
      (pss_cons (ps_while (passes_of rfl) (pt_truth (pv 1) (fun _ => rfl)) (pss_cons (ps_set (i := 3) sc_standard.nd rfl (.inl rfl) (pe_callD D_first_of (room_in hr) (by rfl) (passE tk) (pa_cons (pv 0) (pa_cons (pv 1) pa_nil))))
      (pss_cons (ps_set (i := 1) sc_standard.nd rfl (.inl rfl) (pe_callD D_without (room_in hr) (by rfl) (passE tk) (pa_cons (pv 0) (pa_cons (pv 3) (pa_cons (pv 1) pa_nil)))))
      (pss_cons (ps_expr (pe_bm PySem.F.plainAttrs_list PySem.F.slot_list_append PySem.F.type_list_append mt_append (pv 2) (pa_cons (pv 3) pa_nil)))
      (pss_cons (ps_if (PW.pt (pw_or (pt_cmpR op_gt (pe_callB call_len_seq (by rfl) Z.len PySem.boot_len (pa_cons (pv 1) pa_nil)) (pe_const Z.road (by rfl)) (nomark _)) (pw_or1 (pt_cmpR op_gt (pe_callB call_len_seq (by rfl) Z.len PySem.boot_len (pa_cons (pv 2) pa_nil)) (pe_const Z.road (by rfl)) (nomark _))))) (pss_one (ps_err ZT rfl tk (by rfl))) pss_nil)
      (pss_one (ps_set (i := 0) sc_standard.nd rfl (.inl rfl) (pe_callD D_stepped (room_in hr) (by rfl) (passE tk) (pa_cons (pv 0) (pa_cons (pv 3) pa_nil))))))))))
      (pss_one (ps_ret (pv 2)))))), ?_⟩
  refine ⟨Nat.zero_le _, fun fo nf => ?_⟩
  have s1 : Same H (upd H fo (.lst [])) := same_new nf
  refine ⟨_, rfl, l, _, rfl, .inl (s1.seq hL), fun l1 nl1 => ?_⟩
  have s2 := s1.trans (same_new (o := .lst (roV r)) nl1)
  have nlf : l1 ≠ fo := (ne_of_none upd_same nl1).symm
  refine ⟨wSd K fo t n H, ⟨201, a, l1, t, r, [], none, rfl, rfl, s2, ?_, Nat.zero_le _, same_t s2 hT, nlf, upd_same, hP, hz, hrl, hf, .nil t⟩, ?_⟩
  · rw [upd_ne nlf.symm, upd_same]; rfl
  rintro m σ H' ⟨c, l2, u, r2, Fd, y3, rfl, rfl, sm, ef, hFl, hc, nl, el, hPu, hzu, hrl2, hfu, hFst⟩
  refine ⟨_, rfl, _, .inl ⟨_, .inl (.inl el), rfl⟩, ?_⟩
  cases r2 with
  | nil =>
    cases hfu
    exact iteF ⟨_, rfl, q fo Fd H' sm ef hFst⟩
  | cons q0 r3 =>
    refine iteT ⟨fun σ' H1 => ∃ m', m' < 201 - Fd.length ∧ wSd K fo t n H m' σ' H1, fun _ _ h => h, ?_⟩
    obtain ⟨u', hq1, _⟩ := follow_cons hfu
    obtain ⟨p, mp, hhu⟩ := head_of_step hq1
    obtain ⟨s, hs⟩ := step_some u p mp (List.mem_of_mem_head? hhu)
    refine ⟨_, rfl, _, rfl, c, l2, u, n, q0 :: r3, p, mp, rfl, hc, .inl (.inl el), hPu, hzu, by omega, hfu, hn, hhu, fun H1 s3 => ?_, fun H1 s3 => x H1 (sm.trans s3)⟩
    have s13 := sm.trans s3
    refine ⟨_, rfl, _, rfl, _, rfl, c, l2, u, s, n, _, p, mp, rfl, same_t s3 hc, .inl (.inl (s3 _ _ el)), hPu, hzu, by omega, hfu, hn, hhu, hs, fun r4 hr4 l4 H2 nl4 s4 el4 => ?_, fun H2 s4 => x H2 (s13.trans s4)⟩
    have s14 := s13.trans s4
    have ef2 := s4 _ _ (s3 _ _ ef)
    have n4 : l4 ≠ fo := (ne_of_none (s3 _ _ ef) nl4).symm
    have hLf : (roV Fd).length ≤ 200 := by rw [List.length_map]; exact hFl
    have efoX : roV Fd ++ [eP p] = roV (Fd ++ [p]) := by
      show _ = (Fd ++ [p]).map eP
      rw [List.map_append]
      rfl
    refine ⟨.ref fo, rfl, .inl ⟨rfl, _, .inl (.inl ef2)⟩, _, rfl, fo, _, _, rfl, rfl, ef2, line_of (by omega), ?_⟩
    rw [efoX]
    have hc3 : SqT K (upd H2 fo (.lst (roV (Fd ++ [p])))) c (flat u) := sq_upd (same_t (s3.trans s4) hc) ef2 (fun _ z => nomatch z) (fun _ _ z => nomatch z)
    have s15 : Same H (upd H2 fo (.lst (roV (Fd ++ [p])))) := same_mut s14 nf
    have el5 : (upd H2 fo (.lst (roV (Fd ++ [p])))) l4 = some (.lst (roV r4)) := by rw [upd_ne n4]; exact el4
    have ef5 : (upd H2 fo (.lst (roV (Fd ++ [p])))) fo = some (.lst (roV (Fd ++ [p]))) := upd_same
    generalize upd H2 fo (.lst (roV (Fd ++ [p]))) = H3 at hc3 s15 el5 ef5
    refine ⟨_, rfl, l4, _, rfl, .inl (.inl (.inl el5)), _, _, rfl, rfl, _, rfl, ite_b (fun _ => iteT (x H3 s15)) (fun c1 => ?_)⟩
    refine ⟨_, rfl, fo, _, rfl, .inl (.inl (.inl ef5)), _, _, rfl, rfl, _, rfl, ite_b (fun _ => x H3 s15) (fun c2 => ?_)⟩
    have l1' : ¬ (200 : Int) < ((roV r4).length : Nat) := of_decide_eq_false c1
    have l2' : ¬ (200 : Int) < ((roV (Fd ++ [p])).length : Nat) := of_decide_eq_false c2
    rw [List.length_map] at l1' l2'
    rw [List.length_append] at l2'
    have l3 : ([p] : List Place).length = 1 := rfl
    rw [l3] at l2'
    refine ⟨_, rfl, _, rfl, c, u, s, p, rfl, hc3, hPu.tmk, hzu, hs, fun hz3 c3 H4 s5 hc4 => ?_, fun _ H4 s5 => x H4 (s15.trans s5)⟩
    have l4' : (Fd ++ [p]).length = Fd.length + 1 := by rw [List.length_append]; rfl
    refine ⟨201 - (Fd ++ [p]).length, by omega, c3, l4, s, r4, Fd ++ [p], _, rfl, rfl, s15.trans s5, s5 _ _ ef5, by omega, hc4, n4, s5 _ _ el5, hPu.step hs, hz3, by omega, hr4, ?_⟩
    rw [l4']
    exact hFst.snoc hhu hs
/-! ### first_redex -/
theorem sc_first_redex : FnScope ["term", "row"] ["term"] (defScope (topS 31)) := ⟨rfl, rfl, rfl, by decide +kernel, rfl, by decide +kernel, by decide +kernel⟩
def spFr (K : PySem.W.Frag) : Sp := fun vs H Q _ => ∃ (a : Addr) (t : T), vs = [.ref a] ∧ SqT K H a (flat t) ∧ Pl t ∧ sz t ≤ 100000 ∧ (∀ p m, (rdx t).head? = some (p, m) → RV (eP p) H Q) ∧ (normal_ t → RV .non H Q)
theorem ok_first_redex (F : Fun K "first_redex" "first_redex" (topS 31) f fd) (Z : Glb K mg) (D_redexes : Df P w K mg base CX0 2 "redexes" ["term"] (spRds K)) : FnOk P w K mg base CX0 3 f fd ["term"] (spFr K) := by
  refine F.ok sc_first_redex (fun vs H Q E h => ?_) (fun cdv A outer st H vs Q E hr h => ?_)
  · obtain ⟨a, t, rfl, _⟩ := h
    rfl
  obtain ⟨a, t, rfl, hT, hP, hz, q1, q2⟩ := h
  refine ⟨_, (pss_cons (ps_set (i := 1) sc_first_redex.nd rfl (.inl rfl) (pe_callD D_redexes (room_in hr) (by rfl) pass0 (pa_cons (pv 0) pa_nil)))
      (pss_cons (ps_if (pt_truth (pv 1) (fun _ => rfl)) (pss_one (ps_ret (pe_ix ix_list (pv 1) pe_int (fun _ _ => rfl)))) pss_nil)
      (pss_one (ps_ret pe_non)))), ?_⟩
  refine ⟨_, rfl, a, t, rfl, hT, hP.tmk, hz, fun l H1 nl s1 el => ?_⟩
  refine ⟨_, rfl, _, .inl ⟨_, .inl (.inl el), rfl⟩, ?_⟩
  cases e : rdx t with
  | nil =>
    have e0 : rdV t = [] := by unfold rdV; rw [e]; rfl
    rw [e0]
    exact iteF (q2 e H1 s1)
  | cons y ys =>
    have e0 : rdV t = eP y.1 :: ys.map fun x => eP x.1 := by unfold rdV; rw [e]; rfl
    rw [e0] at el ⊢
    exact iteT ⟨_, rfl, _, _, _, _, rfl, rfl, .inl (.inl el), atI_nat (j := 0) rfl, q1 y.1 y.2 (by rw [e]; rfl) H1 s1⟩
/-! ### is_normal -/
theorem any_fm {α : Type} : ∀ l : List (α × T), ((l.map fun x => isRx x.2).any id) = !(l.filterMap fun x => (rlab x.2).map fun m => (x.1, m)).isEmpty
  | [] => rfl
  | x :: l => by
    have ih := any_fm l
    rw [List.map_cons, List.any_cons, List.filterMap_cons, ih]
    unfold isRx
    cases rlab x.2 with
    | none => rfl
    | some m => rfl
theorem not_any (t : T) : (!((pns [] t).map fun x => isRx x.2).any id) = (rdx t).isEmpty := by
  rw [any_fm, rdx_pns, Bool.not_not]
  cases rdx t <;> rfl
theorem sc_is_normal : FnScope ["term", "at"] ["term"] (defScope (topS 32)) := ⟨rfl, rfl, rfl, by decide +kernel, rfl, by decide +kernel, by decide +kernel⟩
def spIn (K : PySem.W.Frag) : Sp := fun vs H Q _ => ∃ (a : Addr) (t : T), vs = [.ref a] ∧ SqT K H a (flat t) ∧ Pl t ∧ sz t ≤ 100000 ∧ RV (.bl (rdx t).isEmpty) H Q
theorem ok_is_normal (F : Fun K "is_normal" "is_normal" (topS 32) f fd) (Z : Glb K mg) (D_is_redex : Df P w K mg base CX0 1 "is_redex" ["nodes", "at"] (spRx K)) : FnOk P w K mg base CX0 2 f fd ["term"] (spIn K) := by
  refine F.ok sc_is_normal (fun vs H Q E h => ?_) (fun cdv A outer st H vs Q E hr h => ?_)
  · obtain ⟨a, t, rfl, _⟩ := h
    rfl
  obtain ⟨a, t, rfl, hT, hP, hz, q⟩ := h
  refine ⟨_, (pss_one (ps_ret (pe_not (pe_callB (cr_any rfl) (by rfl) Z.any boot_any' (pa_cons (pe_lc (own := [("at", 1)]) (by rfl) sc_is_normal.nd (pi_range1 (by rfl) Z.rng (pa_cons (pe_callB call_len_seq (by rfl) Z.len PySem.boot_len (pa_cons (pv 0) pa_nil)) pa_nil)) (blkOk_by (own := [("at", 1)]) (N := ["term", "at"]) (sc := defScope (topS 32)) (by decide +kernel)) (fun _ _ _ _ _ => (pg_name (i := 1) sc_is_normal.nd rfl (.inl rfl))) (fun _ _ _ _ _ => pts_nil) (fun _ _ _ _ _ => (pe_callD D_is_redex (room_in hr) (by rfl) pass0 (pa_cons (pv 0) (pa_cons (pv 1) pa_nil))))) pa_nil))))), ?_⟩
  have hN : Tmk K H t := hP.tmk
  refine ⟨_, rfl, a, _, rfl, .inr hT, _, rfl, by have : (flat t).length ≤ 100000 := hz; omega, by have : (flat t).length ≤ 100000 := hz; omega, fun D nD => lc_range (n := (flat t).length) (fun i H' => Same H H' ∧ H' D = some (.lst (((pns [] t).take i).map fun x => V.bl (isRx x.2)))) ⟨same_new nD, upd_same⟩ (fun i H' hi h => ?_) (fun H' h => ?_)⟩
  · rw [Int.zero_add]
    obtain ⟨sm, eD⟩ := h
    have hi' : i < (pns [] t).length := by rw [pns_len]; exact hi
    have e : (pns [] t)[i]? = some (pns [] t)[i] := List.getElem?_eq_getElem hi'
    generalize (pns [] t)[i] = z at e
    obtain ⟨p, s⟩ := z
    obtain ⟨pre, post, hx', hl⟩ := nds_at t [] i p s e
    obtain ⟨p', ep', hi2⟩ := pns_ix t [] i p s e
    have hs : Tmk K H' s := (hN.mono sm).ix hi2
    refine ⟨rfl, ?_⟩
    refine ⟨_, rfl, _, rfl, a, _, pre, post, s, i, rfl, same_t sm hT, hs, hx', hl, _, eD, line_of ?_, same_mut sm nD, ?_⟩
    · rw [List.length_map, List.length_take]
      have : (flat t).length ≤ 100000 := hz
      omega
    · rw [upd_same, take_more e, List.map_append]
      rfl
  · obtain ⟨sm, eD⟩ := h
    rw [List.take_of_length_le (by rw [pns_len]; exact Nat.le_refl _)] at eD
    refine ⟨D, (pns [] t).map fun x => isRx x.2, rfl, .inl (.inl (by rw [List.map_map]; exact eD)), _, rfl, ?_⟩
    rw [not_any t]
    exact q H' sm
/-! ### normal -/
theorem sc_normal : FnScope ["term", "steps", "count"] ["term", "steps"] (defScope (topS 33)) := ⟨rfl, rfl, rfl, by decide +kernel, rfl, by decide +kernel, by decide +kernel⟩
def spNo (K : PySem.W.Frag) (CT CO : Addr) : Sp := fun vs H Q E => ∃ (a : Addr) (t : T) (s : Nat), vs = [.ref a, .int (s : Nat)] ∧ SqT K H a (flat t) ∧ Pl t ∧ sz t ≤ 1000 ∧ s ≤ 100000 ∧
  (∀ (z c : Addr) (n : T) (k : Nat) (H' : Hp), Same H H' → SqT K H' z [.ref c, .int (k : Nat)] → SqT K H' c (flat n) → Fst k t n → normal_ n → Q (.ref z) H') ∧ XE CT H E ∧ XE CO H E
def wNo (K : PySem.W.Frag) (s : Nat) (t : T) (H : Hp) : Nat → L2.St → Hp → Prop := fun m σ H' => ∃ (c : Addr) (u : T) (k : Nat), σ = [some (.ref c), some (.int (s : Nat)), some (.int (k : Nat))] ∧ m = s - k ∧ k ≤ s ∧ Same H H' ∧ SqT K H' c (flat u) ∧ Pl u ∧ sz u ≤ 1000 ∧ Fst k t u
theorem ok_normal (F : Fun K "normal" "normal" (topS 33) f fd) (Z : Glb K mg) (ZO : Err K mg "OutOfSteps" CO) (D_is_normal : Df P w K mg base CX0 2 "is_normal" ["term"] (spIn K)) (D_first_redex : Df P w K mg base CX0 3 "first_redex" ["term"] (spFr K))
    (D_stepped : Df P w K mg base (L2.CX P w) 4 "stepped" ["nodes", "place"] (spSt K CT)) : FnOk P w K mg base (L2.CX P w) 5 f fd ["term", "steps"] (spNo K CT CO) := by
  refine F.okX sc_normal (fun vs H Q E h => ?_) (fun cdv A outer st H vs Q E hr h => ?_)
  · obtain ⟨a, t, s, rfl, _⟩ := h
    rfl
  obtain ⟨a, t, s, rfl, hT, hP, hz, hsl, q, x, xo⟩ := h
  have tk : Takes (cxOf (L2.CX P w) P w K mg base ["term", "steps", "count"] "normal" (defScope (topS 33)) f cdv A outer st H E) (wE E) := takes_of rfl rfl rfl rfl
  refine ⟨_, (pss_cons (ps_set (i := 2) sc_normal.nd rfl (.inl rfl) pe_int)
      (pss_cons (ps_while (passes_of rfl) (pt_not (pt_val (pe_callD D_is_normal (room_in hr) (by rfl) pass0 (pa_cons (pv 0) pa_nil)))) (pss_cons (ps_if (pt_cmpR op_eq (pv 2) (pv 1) (nomark _)) (pss_one (ps_err ZO rfl tk (by rfl))) pss_nil)
      (pss_cons (ps_set (i := 0) sc_normal.nd rfl (.inl rfl) (pe_callD D_stepped (room_in hr) (by rfl) (passE tk) (pa_cons (pv 0) (pa_cons (pe_callD D_first_redex (room_in hr) (by rfl) pass0 (pa_cons (pv 0) pa_nil)) pa_nil))))
      (pss_one (ps_aug (i := 2) sc_normal.nd rfl (.inl rfl) pe_int ip_add)))))
      (pss_one (ps_ret (pe_tup (pa_cons (pv 0) (pa_cons (pv 2) pa_nil))))))), ?_⟩
  refine ⟨wNo K s t H, ⟨s, a, t, 0, rfl, rfl, Nat.zero_le _, Same.refl H, hT, hP, hz, .nil t⟩, ?_⟩
  rintro m σ H' ⟨c, u, k, rfl, rfl, hk, sm, hc, hPu, hzu, hF⟩
  refine ⟨_, rfl, c, u, rfl, hc, hPu, by omega, fun H1 s1 => ⟨_, rfl, ?_⟩⟩
  have s2 := sm.trans s1
  cases e : rdx u with
  | nil =>
    refine iteF ⟨_, rfl, _, rfl, by show 2 ≤ sizeLine; decide, fun z nz => ?_⟩
    have s3 : Same H1 (upd H1 z (.tup [.ref c, .int (k : Nat)])) := same_new nz
    exact q z c u k _ (s2.trans s3) (.inl (.inl upd_same)) (same_t (s1.trans s3) hc) hF e
  | cons y ys =>
    refine iteT ⟨fun σ' H1 => ∃ m', m' < s - k ∧ wNo K s t H m' σ' H1, fun _ _ h => h, ?_⟩
    refine ⟨_, rfl, _, rfl, rfl, _, rfl, ite_b (fun _ => xo H1 s2) (fun d => ?_)⟩
    have d1 : ¬ V.int (k : Nat) = V.int (s : Nat) := of_decide_eq_false d
    have d2 : k ≠ s := fun z => d1 (by rw [z])
    obtain ⟨v, hv⟩ := step_some u y.1 y.2 (by rw [e]; exact List.mem_cons_self)
    refine ⟨_, rfl, _, rfl, c, u, rfl, same_t s1 hc, hPu, by omega, fun p mp hh H2 s3 => ?_, fun z => ?_⟩
    · have hh' := hh
      rw [e] at hh'
      cases Option.some.inj hh'
      refine ⟨c, u, v, p, rfl, same_t (s1.trans s3) hc, hPu.tmk, hzu, hv, fun hzv c2 H3 s4 hc2 => ?_, fun _ H3 s4 => x H3 ((s2.trans s3).trans s4)⟩
      refine ⟨_, rfl, _, _, rfl, rfl, ?_⟩
      exact ⟨s - (k + 1), by omega, c2, v, k + 1, rfl, rfl, by omega, (s2.trans s3).trans s4, hc2, hPu.step hv, hzv, hF.snoc hh hv⟩
    · rw [show rdx u = [] from z] at e
      cases e
end
end Lyd

set_option Elab.async false
set_option linter.all false
set_option maxRecDepth 100000
set_option maxHeartbeats 1000000
namespace Lyd
open PySem PySem.Spec PyProof.Rows L2
/-! ### the stream of draws -/
/-- all but S as it was; S a list with the same head -/
def SameS (S : Addr) (H H' : Hp) : Prop := (∀ b u, b ≠ S → H b = some u → H' b = some u) ∧ ∀ x xs, H S = some (.lst (x :: xs)) → ∃ ys, H' S = some (.lst (x :: ys))
theorem SameS.refl (S : Addr) (H : Hp) : SameS S H H := ⟨fun _ _ _ h => h, fun _ xs h => ⟨xs, h⟩⟩
theorem SameS.trans {S : Addr} {H H1 H2 : Hp} (h : SameS S H H1) (k : SameS S H1 H2) : SameS S H H2 := ⟨fun b u n e => k.1 b u n (h.1 b u n e), fun x xs e => by
  obtain ⟨ys, e1⟩ := h.2 x xs e
  exact k.2 x ys e1⟩
theorem toS {S : Addr} {H H' : Hp} (h : Same H H') : SameS S H H' := ⟨fun b u _ e => h b u e, fun x xs e => ⟨xs, h _ _ e⟩⟩
theorem SameS.upd {S : Addr} {H : Hp} {x : V} {xs ys : List V} (e : H S = some (.lst (x :: xs))) : SameS S H (L2.upd H S (.lst (x :: ys))) := ⟨fun b u n e => by rw [upd_ne n]; exact e, fun y zs e' => by
  rw [e] at e'
  cases e'
  exact ⟨ys, upd_same⟩⟩
theorem SameS.t {K : PySem.W.Frag} {S : Addr} {H H' : Hp} {a : Addr} {xs ys : List V} (h : SameS S H H') (e : H S = some (.lst ys)) (k : SqT K H a xs) : SqT K H' a xs := by
  rcases k with (k | ⟨z, k⟩) | k
  · exact .inl (.inl (h.1 _ _ (ne_of k e fun z => nomatch z) k))
  · exact .inl (.inr ⟨z, h.1 _ _ (ne_of k e fun z => nomatch z) k⟩)
  · exact .inr k
theorem SameS.l {K : PySem.W.Frag} {S : Addr} {H H' : Hp} {a : Addr} {xs : List V} (h : SameS S H H') (n : a ≠ S) (k : SqL K H a xs) : SqL K H' a xs := by
  rcases k with (k | ⟨z, k⟩) | k
  · exact .inl (.inl (h.1 _ _ n k))
  · exact .inl (.inr ⟨z, h.1 _ _ n k⟩)
  · exact .inr k
theorem SameS.new {S : Addr} {H H' : Hp} (h : SameS S H H') (n : H S = none) : Same H H' := fun b u e => h.1 b u (ne_of_none e n) e
/-- what is new may be written -/
theorem SameS.mut {S a : Addr} {H H' : Hp} {o : HO} (h : SameS S H H') (n : H a = none) (na : a ≠ S) : SameS S H (L2.upd H' a o) := ⟨fun b u nb e => by
  rw [upd_ne (ne_of_none e n)]
  exact h.1 b u nb e, fun x xs e => by
  obtain ⟨ys, e1⟩ := h.2 x xs e
  exact ⟨ys, by rw [upd_ne na.symm]; exact e1⟩⟩
/-- a stream at S -/
def Strm (K : PySem.W.Frag) (H : Hp) (S : Addr) : Prop := ∃ (l : Addr) (ns : List Int) (x z : Int) (y : Nat), H S = some (.lst [.ref l, .int x, .int (y : Nat), .int z]) ∧ SqL K H l (ns.map V.int) ∧ l ≠ S ∧ 0 ≤ x ∧ ns.length ≤ 1000
theorem Strm.same {K : PySem.W.Frag} {H H' : Hp} {S : Addr} (h : Strm K H S) (e : Same H H') : Strm K H' S := by
  obtain ⟨l, ns, x, z, y, h1, h2, h3, h4, h5⟩ := h
  exact ⟨l, ns, x, z, y, e _ _ h1, e.seq h2, h3, h4, h5⟩
theorem Strm.at {K : PySem.W.Frag} {H : Hp} {S : Addr} (h : Strm K H S) : ∃ ys, H S = some (.lst ys) := by
  obtain ⟨l, ns, x, z, y, h1, _⟩ := h
  exact ⟨_, h1⟩
theorem Strm.t {K : PySem.W.Frag} {H H' : Hp} {S a : Addr} {xs : List V} (h : Strm K H S) (e : SameS S H H') (k : SqT K H a xs) : SqT K H' a xs := by
  obtain ⟨ys, hy⟩ := h.at
  exact e.t hy k
theorem Strm.mut {K : PySem.W.Frag} {H H' : Hp} {S a : Addr} {o : HO} (h0 : Strm K H S) (e : SameS S H H') (h : Strm K H' S) (n : H a = none) (na : a ≠ S) : Strm K (L2.upd H' a o) S := by
  obtain ⟨l, ns, x, z, y, h1, h2, h3, h4, h5⟩ := h0
  obtain ⟨l', ns', x', z', y', h1', h2', h3', h4', h5'⟩ := h
  obtain ⟨ys, e1⟩ := e.2 _ _ h1
  rw [h1'] at e1
  have el : l' = l := by
    injection e1 with e1
    injection e1 with e1
    injection e1 with e1
    injection e1 with e1
  subst el
  have hS : (L2.upd H' a o) S = some (.lst [.ref l', .int x', .int (y' : Nat), .int z']) := by rw [upd_ne na.symm]; exact h1'
  rcases h2 with h2 | h2
  · have nl : l' ≠ a := by
      rcases h2 with h2 | ⟨_, h2⟩
      · exact ne_of_none h2 n
      · exact ne_of_none h2 n
    refine ⟨l', ns', x', z', y', hS, ?_, h3', h4', h5'⟩
    rcases h2' with (k | ⟨z, k⟩) | k
    · exact .inl (.inl (by rw [upd_ne nl]; exact k))
    · exact .inl (.inr ⟨z, by rw [upd_ne nl]; exact k⟩)
    · exact .inr k
  · exact ⟨l', ns, x', z', y', hS, .inr h2, h3', h4', h5⟩
section
variable {P : Program} {w : World} {K : PySem.W.Frag} {mg : Str → Option Value} {base : Heap} {f : Addr} {fd : FuncData}
/-! ### _law_stream -/
theorem sc_law_stream : FnScope ["_law_script", "_law_mixed", "_law_cell"] ["_law_script"] (defScope (topS 35)) := ⟨rfl, rfl, rfl, by decide +kernel, rfl, by decide +kernel, by decide +kernel⟩
def spStr (K : PySem.W.Frag) : Sp := fun vs H Q _ => ∃ (a : Addr) (ns : List Int), vs = [.ref a] ∧ SqL K H a (ns.map V.int) ∧ ns.length ≤ 1000 ∧ ∀ S H', H S = none → Same H H' → Strm K H' S → Q (.ref S) H'
theorem ok_law_stream (F : Fun K "_law_stream" "_law_stream" (topS 35) f fd) (Z : Glb K mg) : FnOk P w K mg base CX0 1 f fd ["_law_script"] (spStr K) := by
  refine F.ok sc_law_stream (fun vs H Q E h => ?_) (fun cdv A outer s H vs Q E hr h => ?_)
  · obtain ⟨a, ns, rfl, _⟩ := h
    rfl
  obtain ⟨a, ns, rfl, hL, hl, q⟩ := h
  refine ⟨_, (pss_cons (ps_set (i := 1) sc_law_stream.nd rfl (.inl rfl) pe_int)
      (pss_cons (ps_for PassesOwn.never rfl (pi_list (pv 0)) (pg_name (i := 2) sc_law_stream.nd rfl (.inl rfl)) (pss_one (ps_set (i := 1) sc_law_stream.nd rfl (.inl rfl) (pe_op op_mod (pe_callTy call_int1 (by rfl) Z.int boot_int (pa_cons (pe_op op_add (pe_op op_add (pe_op op_mul (pv 1) pe_int) (pe_op op_mod (pe_callTy call_int1 (by rfl) Z.int boot_int (pa_cons (pv 2) pa_nil)) pe_int)) pe_int) pa_nil)) pe_int))))
      (pss_one (ps_ret (pe_lst (pa_cons (pe_callTy call_list_of (by rfl) Z.lst boot_list' (pa_cons (pv 0) pa_nil)) (pa_cons pe_int (pa_cons pe_int (pa_cons (pv 1) pa_nil))))))))), ?_⟩
  refine ⟨_, rfl, a, rfl, ⟨_, hL⟩, for_list (xs := ns.map V.int) (fun i σ H' => H' = H ∧ ∃ (m : Int) (y : Option V), σ = [some (.ref a), some (.int m), y]) ⟨rfl, 17, none, rfl⟩ (fun i σ H' _ h => ?_) (fun i x σ H' hx h => ?_) (fun σ H' h => ?_)⟩
  · obtain ⟨rfl, _⟩ := h
    exact hL
  · obtain ⟨rfl, m, y, rfl⟩ := h
    rw [List.getElem?_map] at hx
    cases e : ns[i]? with
    | none => rw [e] at hx; cases hx
    | some c =>
      rw [e] at hx
      cases Option.some.inj hx
      refine ⟨_, rfl, _, _, rfl, rfl, .inr ⟨by decide, by decide⟩, _, rfl, .inl ⟨_, rfl, _, _, rfl, rfl, by show (0 : Int) < _; decide, _, _, rfl, rfl, _, _, rfl, rfl, .inl ⟨_, rfl, _, _, rfl, rfl, by show (0 : Int) < _; decide, ?_⟩⟩⟩
      exact ⟨rfl, _, _, rfl⟩
  · obtain ⟨rfl, m, y, rfl⟩ := h
    refine ⟨_, rfl, a, _, rfl, .inl hL, fun l nl => ⟨_, rfl, by show 4 ≤ sizeLine; decide, fun S nS => ?_⟩⟩
    have s1 : Same H' (upd H' l (.lst (ns.map V.int))) := same_new nl
    have nlS : l ≠ S := ne_of_none upd_same nS
    have s2 := s1.trans (same_new (o := .lst [.ref l, .int 0, .int 0, .int m]) nS)
    exact q S _ (s1.free nS) s2 ⟨l, ns, 0, m, 0, upd_same, .inl (.inl (by rw [upd_ne nlS, upd_same])), nlS, Int.le_refl 0, hl⟩
/-! ### _law_draw -/
abbrev rInt1 : List V → Hp → VK → Prop := fun xs H Q => (∃ i, xs = [V.int i] ∧ Q (V.int i) H) ∨ ∃ k, xs = [V.bl k] ∧ Q (V.int (if k = true then 1 else 0)) H
theorem sc_law_draw : FnScope ["_law_stream_here", "_law_many", "_law_value"] ["_law_stream_here", "_law_many"] (defScope (topS 36)) := ⟨rfl, rfl, rfl, by decide +kernel, rfl, by decide +kernel, by decide +kernel⟩
def spDr (K : PySem.W.Frag) : Sp := fun vs H Q _ => ∃ (S : Addr) (n : Nat), vs = [.ref S, .int (n : Nat)] ∧ 0 < n ∧ n ≤ 1000000 ∧ Strm K H S ∧ ∀ (v : Nat) H', v < n → SameS S H H' → Strm K H' S → Q (.int (v : Nat)) H'
theorem ok_law_draw (F : Fun K "_law_draw" "_law_draw" (topS 36) f fd) (Z : Glb K mg) : FnOk P w K mg base CX0 1 f fd ["_law_stream_here", "_law_many"] (spDr K) := by
  refine F.ok sc_law_draw (fun vs H Q E h => ?_) (fun cdv A outer s H vs Q E hr h => ?_)
  · obtain ⟨S, n, rfl, _⟩ := h
    rfl
  obtain ⟨S, n, rfl, hn, hn2, ⟨l, ns, x, z, y, eS, eL, hne, hx, hlen⟩, q⟩ := h
  refine ⟨_, (pss_cons (ps_if (PW.pt (pw_and (pt_cmpR op_eq (pe_ix ix_list (pv 0) pe_int (fun _ _ => rfl)) pe_int (nomark _)) (pw_and1 (pt_cmpR op_lt (pe_ix ix_list (pv 0) pe_int (fun _ _ => rfl)) (pe_callB call_len_seq (by rfl) Z.len PySem.boot_len (pa_cons (pe_ix ix_list (pv 0) pe_int (fun _ _ => rfl)) pa_nil)) (nomark _))))) (pss_cons (ps_asg (pe_callB call_abs (by rfl) Z.abs boot_abs' (pa_cons (pe_callTy call_int1 (by rfl) Z.int boot_int (pa_cons (pe_ix ix_list (pe_ix ix_list (pv 0) pe_int (fun _ _ => rfl)) (pe_ix ix_list (pv 0) pe_int (fun _ _ => rfl)) (fun _ _ => rfl)) pa_nil)) pa_nil)) (pg_sub (pv 0) pe_int set_list))
      (pss_one (ps_asg (pe_op op_add (pe_ix ix_list (pv 0) pe_int (fun _ _ => rfl)) pe_int) (pg_sub (pv 0) pe_int set_list)))) pss_nil)
      (pss_cons (ps_if (pt_cmpR op_eq (pe_ix ix_list (pv 0) pe_int (fun _ _ => rfl)) pe_int (nomark _)) (pss_cons (ps_asg (pe_op op_mod (pe_callTy call_int1 (by rfl) Z.int boot_int (pa_cons (pe_op op_add (pe_op op_mul (pe_ix ix_list (pv 0) pe_int (fun _ _ => rfl)) pe_int) pe_int) pa_nil)) pe_int) (pg_sub (pv 0) pe_int set_list))
      (pss_one (ps_ret (pe_op op_mod (pe_callTy call_int1 (by rfl) Z.int boot_int (pa_cons (pe_op op_fdiv (pe_ix ix_list (pv 0) pe_int (fun _ _ => rfl)) pe_int) pa_nil)) (pv 1))))) pss_nil)
      (pss_cons (ps_set (i := 2) sc_law_draw.nd rfl (.inl rfl) (pe_op op_mod (pe_callTy call_int1 (by rfl) Z.int boot_int (pa_cons (pe_ix ix_list (pv 0) pe_int (fun _ _ => rfl)) pa_nil)) (pv 1)))
      (pss_cons (ps_asg (pe_op op_fdiv (pe_ix ix_list (pv 0) pe_int (fun _ _ => rfl)) (pv 1)) (pg_sub (pv 0) pe_int set_list))
      (pss_one (ps_ret (pv 2))))))), ?_⟩
  have rest : ∀ (x' : Int) (y' : Nat) (H1 : Hp), 0 ≤ x' → SameS S H H1 → H1 S = some (.lst [.ref l, .int x', .int (y' : Nat), .int z]) → SqL K H1 l (ns.map V.int) →
      tSeq (tIfS (tTest (tOp rEq (tOp (rIxL K) (tVar 0) (tC (V.int 1))) (tC (V.int 0))))
          (tSeq (tAsg (tOp (rI (fun _ j => 0 < j) fun i j => V.int (i % j)) (tCB rInt1 (tCons (tOp (rI0 fun i j => V.int (i + j)) (tOp (rI CMul fun i j => V.int (i * j)) (tOp (rIxL K) (tVar 0) (tC (V.int 3))) (tC (V.int 48271))) (tC (V.int 11))) tNil)) (tC (V.int 2147483647))) (gSub (tVar 0) (tC (V.int 3)) rSetL))
            (tRet (tOp (rI (fun _ j => 0 < j) fun i j => V.int (i % j)) (tCB rInt1 (tCons (tOp (rI CDiv fun i j => V.int (i / j)) (tOp (rIxL K) (tVar 0) (tC (V.int 3))) (tC (V.int 97))) tNil)) (tVar 1))))
          tNext)
        (tSeq (tAsg (tOp (rI (fun _ j => 0 < j) fun i j => V.int (i % j)) (tCB rInt1 (tCons (tOp (rIxL K) (tVar 0) (tC (V.int 1))) tNil)) (tVar 1)) (gName 2))
          (tSeq (tAsg (tOp (rI CDiv fun i j => V.int (i / j)) (tOp (rIxL K) (tVar 0) (tC (V.int 1))) (tVar 1)) (gSub (tVar 0) (tC (V.int 1)) rSetL)) (tRet (tVar 2))))
        { nx := fun _ H' => Q .non H', rt := Q } [some (.ref S), some (.int (n : Nat)), none] H1 := by
    intro x' y' H1 hx' s1 e1 eL1
    refine ⟨_, rfl, _, _, _, _, rfl, rfl, .inl (.inl e1), rfl, rfl, _, rfl, ?_⟩
    refine ite_b (fun c => ?_) (fun c => ?_)
    · refine ⟨_, rfl, _, _, _, _, rfl, rfl, .inl (.inl e1), rfl, _, _, rfl, rfl, .inr ⟨by decide, by decide⟩, _, _, rfl, rfl, .inl ⟨_, rfl, _, _, rfl, rfl, by show (0 : Int) < _; decide, ?_⟩⟩
      refine ⟨_, rfl, _, _, _, 3, rfl, rfl, e1, rfl, ?_⟩
      generalize hH2 : upd H1 S (.lst ([V.ref l, .int x', .int (y' : Nat), .int z].set 3 (.int ((z * 48271 + 11) % 2147483647)))) = H2
      have e2 : H2 S = some (.lst [.ref l, .int x', .int (y' : Nat), .int ((z * 48271 + 11) % 2147483647)]) := by rw [← hH2, upd_same]; rfl
      have s2 : SameS S H1 H2 := by rw [← hH2]; exact SameS.upd e1
      have hpos : 0 ≤ (z * 48271 + 11) % 2147483647 := Int.emod_nonneg _ (by decide)
      generalize (z * 48271 + 11) % 2147483647 = z2 at e2 hpos
      refine ⟨_, rfl, _, _, _, _, rfl, rfl, .inl (.inl e2), rfl, _, _, rfl, rfl, ⟨by decide, by decide⟩, .inl ⟨_, rfl, _, rfl, _, _, rfl, rfl, by omega, ?_⟩⟩
      have h1 : 0 ≤ (z2 / 97) % (n : Int) := Int.emod_nonneg _ (by omega)
      have h2 : (z2 / 97) % (n : Int) < n := Int.emod_lt_of_pos _ (by omega)
      have h3 : (z2 / 97) % (n : Int) = (((z2 / 97) % (n : Int)).toNat : Nat) := by omega
      show Q (.int ((z2 / 97) % (n : Int))) H2
      rw [h3]
      exact q _ H2 (by omega) (s1.trans s2) ⟨l, ns, x', z2, y', e2, s2.l hne eL1, hne, hx', hlen⟩
    · refine ⟨_, rfl, _, _, _, _, rfl, rfl, .inl (.inl e1), rfl, .inl ⟨_, rfl, _, rfl, _, _, rfl, rfl, by omega, ?_⟩⟩
      refine ⟨_, rfl, _, _, _, _, rfl, rfl, .inl (.inl e1), rfl, _, rfl, _, _, rfl, rfl, ⟨by omega, by omega⟩, ?_⟩
      refine ⟨_, rfl, _, _, _, 1, rfl, rfl, e1, rfl, ?_⟩
      generalize hH2 : upd H1 S (.lst ([V.ref l, .int x', .int (y' : Nat), .int z].set 1 (.int (x' / (n : Int))))) = H2
      have e2 : H2 S = some (.lst [.ref l, .int (x' / (n : Int)), .int (y' : Nat), .int z]) := by rw [← hH2, upd_same]; rfl
      have s2 : SameS S H1 H2 := by rw [← hH2]; exact SameS.upd e1
      refine ⟨_, rfl, ?_⟩
      have h1 : 0 ≤ x' % (n : Int) := Int.emod_nonneg _ (by omega)
      have h2 : x' % (n : Int) < n := Int.emod_lt_of_pos _ (by omega)
      have h3 : x' % (n : Int) = ((x' % (n : Int)).toNat : Nat) := by omega
      show Q (.int (x' % (n : Int))) H2
      rw [h3]
      exact q _ H2 (by omega) (s1.trans s2) ⟨l, ns, x' / (n : Int), z, y', e2, s2.l hne eL1, hne, Int.ediv_nonneg hx' (by omega), hlen⟩
  refine ⟨_, rfl, _, _, _, _, rfl, rfl, .inl (.inl eS), rfl, rfl, _, rfl, ?_⟩
  refine ite_b (fun c1 => ?_) (fun c1 => iteF (rest x y H hx (SameS.refl S H) eS eL))
  refine ⟨_, rfl, _, _, _, _, rfl, rfl, .inl (.inl eS), rfl, _, rfl, _, _, _, _, rfl, rfl, .inl (.inl eS), rfl, l, _, rfl, .inl eL, _, _, rfl, rfl, _, rfl, ?_⟩
  refine ite_b (fun c2 => ?_) (fun c2 => rest x y H hx (SameS.refl S H) eS eL)
  have c3 : (y : Int) < ((ns.map V.int).length : Nat) := of_decide_eq_true c2
  have c4 : y < ns.length := by rw [List.length_map] at c3; omega
  have hg : (ns.map V.int)[y]? = some (V.int ns[y]) := by rw [List.getElem?_map, List.getElem?_eq_getElem c4]; rfl
  refine ⟨_, rfl, _, _, _, _, rfl, rfl, .inl (.inl eS), rfl, _, rfl, _, _, _, _, rfl, rfl, .inl (.inl eS), rfl, _, _, _, _, rfl, rfl, eL, atI_nat hg, .inl ⟨_, rfl, _, rfl, ?_⟩⟩
  refine ⟨_, rfl, _, _, _, 1, rfl, rfl, eS, rfl, ?_⟩
  have hab : 0 ≤ (if ns[y] < 0 then -ns[y] else ns[y]) := by split <;> omega
  generalize (if ns[y] < 0 then -ns[y] else ns[y]) = b at hab
  generalize hH2 : upd H S (.lst ([V.ref l, .int x, .int (y : Nat), .int z].set 1 (.int b))) = H2
  have e2 : H2 S = some (.lst [.ref l, .int b, .int (y : Nat), .int z]) := by rw [← hH2, upd_same]; rfl
  have s2 : SameS S H H2 := by rw [← hH2]; exact SameS.upd eS
  refine ⟨_, rfl, _, _, _, _, rfl, rfl, .inl (.inl e2), rfl, _, _, rfl, rfl, ?_⟩
  refine ⟨_, rfl, _, _, _, 2, rfl, rfl, e2, rfl, ?_⟩
  generalize hH3 : upd H2 S (.lst ([V.ref l, .int b, .int (y : Nat), .int z].set 2 (.int ((y : Int) + 1)))) = H3
  have e3 : H3 S = some (.lst [.ref l, .int b, .int ((y + 1 : Nat) : Nat), .int z]) := by rw [← hH3, upd_same]; rfl
  have s3 : SameS S H2 H3 := by rw [← hH3]; exact SameS.upd e2
  exact rest b (y + 1) H3 hab (s2.trans s3) e3 (s3.l hne (s2.l hne eL))
/-! ### _law_is_lam -/
theorem sc_law_is_lam : FnScope ["_law_node"] ["_law_node"] (defScope (topS 37)) := ⟨rfl, rfl, rfl, by decide +kernel, rfl, by decide +kernel, by decide +kernel⟩
def spIl (K : PySem.W.Frag) : Sp := fun vs H Q _ => ∃ (s : T), vs = [root s] ∧ Tmk K H s ∧ Q (.bl (isLam s)) H
theorem ok_law_is_lam (F : Fun K "_law_is_lam" "_law_is_lam" (topS 37) f fd) (Z : Glb K mg) : FnOk P w K mg base CX0 1 f fd ["_law_node"] (spIl K) := by
  refine F.ok sc_law_is_lam (fun vs H Q E h => ?_) (fun cdv A outer st H vs Q E hr h => ?_)
  · obtain ⟨s, rfl, _⟩ := h
    rfl
  obtain ⟨s, rfl, hN, q⟩ := h
  refine ⟨_, (pss_one (ps_ret (pe_or (pe_cmpR (op_eqS hr.units) (pv 0) pe_str (nomark _)) (pe_one (pe_callB call_isT (by rfl) Z.isi PyProof.Rows.boot_isinstance (pa_cons (pv 0) (pa_cons (pe_type (by rfl) Z.tup PyProof.Rows.boot_tuple) pa_nil))))))), ?_⟩
  refine ⟨_, rfl, _, rfl, can_lam, hN.root, _, rfl, ?_⟩
  refine ite_b (fun c => ?_) (fun c => ?_)
  · cases s with
    | var n => cases of_decide_eq_true c
    | app g x =>
      have e : decide (V.str "app" = V.str "lam") = false := by decide +kernel
      rw [show root (.app g x) = V.str "app" from rfl, e] at c
      cases c
    | lam m b => exact q
  · refine ⟨_, rfl, _, rfl, hN.root, ?_⟩
    cases s with
    | var n => exact q
    | app g x => exact q
    | lam m b =>
      rcases hN m List.mem_cons_self with rfl | ⟨a, k, rfl, _⟩
      · have e : decide (V.str "lam" = V.str "lam") = true := by decide +kernel
        rw [show root (.lam (.str "lam") b) = V.str "lam" from rfl, e] at c
        cases c
      · exact q
end
end Lyd

set_option Elab.async false
set_option linter.all false
set_option maxRecDepth 100000
set_option maxHeartbeats 1000000
namespace Lyd
open PySem PySem.Spec PyProof.Rows L2
section
variable {P : Program} {w : World} {K : PySem.W.Frag} {mg : Str → Option Value} {base : Heap} {f : Addr} {fd : FuncData}
/-! ### _law_end -/
theorem sc_law_end : FnScope ["_law_term_here", "_law_at", "_law_missing"] ["_law_term_here", "_law_at"] (defScope (topS 38)) := ⟨rfl, rfl, rfl, by decide +kernel, rfl, by decide +kernel, by decide +kernel⟩
def wLEnd (K : PySem.W.Frag) (a : Addr) (xs : List V) (z : Nat) (H : Hp) : Nat → L2.St → Hp → Prop := fun m σ H' => H' = H ∧ ∃ (pre post : List V) (P : List (Unit × T)),
  σ = [some (.ref a), some (.int (pre.length : Nat)), some (.int (P.length : Nat))] ∧ (∀ x ∈ P, Tmk K H x.2) ∧ xs = pre ++ (flatP P ++ post) ∧ pre.length + m = z ∧ m = (flatP P).length
theorem ok_law_end (F : Fun K "_law_end" "_law_end" (topS 38) f fd) (Z : Glb K mg) (D_law_is_lam : Df P w K mg base CX0 1 "_law_is_lam" ["_law_node"] (spIl K)) : FnOk P w K mg base CX0 2 f fd ["_law_term_here", "_law_at"] (spEnd K) := by
  refine F.ok sc_law_end (fun vs H Q E h => ?_) (fun cdv A outer s H vs Q E hr h => ?_)
  · obtain ⟨a, xs, pre, post, t, n, rfl, _⟩ := h
    rfl
  obtain ⟨a, xs, pre, post, t, n, rfl, hT, hN, hx, hl, q⟩ := h
  refine ⟨_, (pss_cons (ps_set (i := 2) sc_law_end.nd rfl (.inl rfl) pe_int)
      (pss_cons (ps_while PassesOwn.never (pt_cmpR op_gt (pv 2) pe_int (nomark _)) (pss_cons (ps_if (pt_cmpR (op_eqS hr.units) (pe_ix ix_tup (pv 0) (pv 1) (fun _ _ => rfl)) pe_str (nomark _)) (pss_one (ps_set (i := 2) sc_law_end.nd rfl (.inl rfl) (pe_op op_add (pv 2) pe_int))) (pss_one (ps_if (pt_not (pt_val (pe_callD D_law_is_lam (room_in hr) (by rfl) pass0 (pa_cons (pe_ix ix_tup (pv 0) (pv 1) (fun _ _ => rfl)) pa_nil)))) (pss_one (ps_set (i := 2) sc_law_end.nd rfl (.inl rfl) (pe_op op_sub (pv 2) pe_int))) pss_nil)))
      (pss_one (ps_set (i := 1) sc_law_end.nd rfl (.inl rfl) (pe_op op_add (pv 1) pe_int)))))
      (pss_one (ps_ret (pv 1))))), ?_⟩
  refine ⟨wLEnd K a xs (n + sz t) H, ⟨sz t, rfl, pre, post, [((), t)], by rw [hl]; rfl, ?_, ?_, by rw [hl], ?_⟩, ?_⟩
  · intro x hx'
    rw [List.mem_singleton.mp hx']
    exact hN
  · rw [flatP_cons, flatP_nil, List.append_nil]; exact hx
  · rw [flatP_cons, flatP_nil, List.append_nil]
  rintro m σ H' ⟨rfl, pre', post', P, rfl, hP, hx', hm, hm'⟩
  refine ⟨_, rfl, _, _, rfl, rfl, _, rfl, ?_⟩
  cases P with
  | nil =>
    refine iteF ⟨_, rfl, ?_⟩
    have e : (pre'.length : Nat) = n + sz t := by
      rw [flatP_nil] at hm'
      rw [hm'] at hm
      exact hm
    show Q (.int ((pre'.length : Nat) : Int)) H'
    rw [e]
    exact q
  | cons z P' =>
    refine ite_b (fun _ => ⟨fun σ' H1 => ∃ m', m' < m ∧ wLEnd K a xs (n + sz t) H' m' σ' H1, fun _ _ h => h, ?_⟩) (fun c => absurd c (by simp))
    obtain ⟨r, hr'⟩ := flat_root z.2
    have hf : flatP (z :: P') = root z.2 :: (r ++ flatP P') := by
      rw [flatP_cons, hr']; rfl
    obtain ⟨d, s', P'', e1, e2, e3, _⟩ := pend_step (cb := fun x : Unit => x) (cf := fun x => x) (ca := fun x => x) hf
    injection e1 with e1 e1'
    subst e1 e1'
    have hs' : Tmk K H' s' := hP _ List.mem_cons_self
    have hg : xs[pre'.length]? = some (root s') := get_pre (r := r ++ flatP P' ++ post') (by rw [hx', hf]; simp) rfl
    refine ⟨_, rfl, _, rfl, _, _, _, _, rfl, rfl, hT, atI_nat hg, _, rfl, can_app, hs'.root, _, rfl, ?_⟩
    have fin : ∀ (KK : List (Unit × T)) (k : Int), KK = kidsP (fun x : Unit => x) (fun x => x) (fun x => x) d s' → (∀ x ∈ KK, Tmk K H' x.2) → k = ((KK ++ P').length : Nat) →
        ∃ m', m' < m ∧ wLEnd K a xs (n + sz t) H' m' [some (.ref a), some (.int ((pre'.length : Nat) + 1)), some (.int k)] H' := fun KK k hK hKt hk => by
      refine ⟨(flatP (KK ++ P')).length, ?_, rfl, pre' ++ [root s'], post', KK ++ P', ?_, ?_, ?_, ?_, rfl⟩
      · rw [hm', hf, hK, e3, List.length_cons]
        omega
      · rw [hk, List.length_append, List.length_append]; rfl
      · intro x hxm
        rcases List.mem_append.mp hxm with h | h
        · exact hKt x h
        · exact hP x (List.mem_cons_of_mem _ h)
      · rw [hx', hf, hK, e3]; simp
      · rw [List.length_append, hK, e3, ← hm, hm', hf]
        simp only [List.length_cons, List.length_nil]
        omega
    cases s' with
    | var v =>
      refine iteF ⟨_, rfl, _, rfl, _, _, _, _, rfl, rfl, hT, atI_nat hg, .var v, rfl, hs', _, rfl, ?_⟩
      refine iteT ⟨_, rfl, _, _, rfl, rfl, _, rfl, _, _, rfl, rfl, ?_⟩
      exact fin [] _ rfl (fun x hx => by cases hx) (by rw [List.length_cons]; simp)
    | lam l b =>
      have hl := hs'.nlam
      show if decide (l = V.str "app") = true then _ else _
      rw [dec_ne hl.1]
      refine iteF ⟨_, rfl, _, rfl, _, _, _, _, rfl, rfl, hT, atI_nat hg, .lam l b, rfl, hs', _, rfl, ?_⟩
      refine iteF ⟨_, rfl, _, _, rfl, rfl, ?_⟩
      exact fin [(d, b)] _ rfl (fun x hx => by rw [List.mem_singleton.mp hx]; exact hs'.lam) (by simp)
    | app g x =>
      refine iteT ⟨_, rfl, _, _, rfl, rfl, _, rfl, _, _, rfl, rfl, ?_⟩
      refine fin [(d, g), (d, x)] _ rfl (fun z hz => ?_) (by simp)
      rcases List.mem_cons.mp hz with rfl | hz
      · exact hs'.app.1
      · rw [List.mem_singleton.mp hz]
        exact hs'.app.2
/-! ### _law_depths -/
theorem sc_law_depths : FnScope ["_law_term_here", "_law_found", "_law_waiting", "_law_node", "_law_depth"] ["_law_term_here"] (defScope (topS 39)) := ⟨rfl, rfl, rfl, by decide +kernel, rfl, by decide +kernel, by decide +kernel⟩
theorem ok_law_depths (F : Fun K "_law_depths" "_law_depths" (topS 39) f fd) (Z : Glb K mg) (D_law_is_lam : Df P w K mg base CX0 1 "_law_is_lam" ["_law_node"] (spIl K)) : FnOk P w K mg base CX0 2 f fd ["_law_term_here"] (spDep K) := by
  refine F.ok sc_law_depths (fun vs H Q E h => ?_) (fun cdv A outer s H vs Q E hr h => ?_)
  · obtain ⟨a, t, rfl, _⟩ := h
    rfl
  obtain ⟨a, t, rfl, hT, hN, hz, q⟩ := h
  refine ⟨_, (pss_cons (ps_set (i := 1) sc_law_depths.nd rfl (.inl rfl) (pe_lst pa_nil))
      (pss_cons (ps_set (i := 2) sc_law_depths.nd rfl (.inl rfl) (pe_lst (pa_cons pe_int pa_nil)))
      (pss_cons (ps_for PassesOwn.never rfl (pi_tup (pv 0)) (pg_name (i := 3) sc_law_depths.nd rfl (.inl rfl)) (pss_cons (ps_set (i := 4) sc_law_depths.nd rfl (.inl rfl) (pe_bm0 PySem.F.plainAttrs_list PySem.F.slot_list_pop PySem.F.type_list_pop mt_pop (pv 2)))
      (pss_cons (ps_expr (pe_bm PySem.F.plainAttrs_list PySem.F.slot_list_append PySem.F.type_list_append mt_append (pv 1) (pa_cons (pv 4) pa_nil)))
      (pss_one (ps_if (pt_cmpR (op_eqS hr.units) (pv 3) pe_str (nomark _)) (pss_cons (ps_expr (pe_bm PySem.F.plainAttrs_list PySem.F.slot_list_append PySem.F.type_list_append mt_append (pv 2) (pa_cons (pv 4) pa_nil)))
      (pss_one (ps_expr (pe_bm PySem.F.plainAttrs_list PySem.F.slot_list_append PySem.F.type_list_append mt_append (pv 2) (pa_cons (pv 4) pa_nil))))) (pss_one (ps_if (pt_val (pe_callD D_law_is_lam (room_in hr) (by rfl) pass0 (pa_cons (pv 3) pa_nil))) (pss_one (ps_expr (pe_bm PySem.F.plainAttrs_list PySem.F.slot_list_append PySem.F.type_list_append mt_append (pv 2) (pa_cons (pe_op op_add (pv 4) pe_int) pa_nil)))) pss_nil)))))))
      (pss_one (ps_ret (pv 1)))))), ?_⟩
  refine ⟨Nat.zero_le _, fun fo nf => ?_⟩
  refine ⟨by show 1 ≤ sizeLine; decide, fun wa nw => ?_⟩
  have nfw : fo ≠ wa := fun e => by
    rw [← e, upd_same] at nw
    cases nw
  have nw' : H wa = none := by
    rw [upd_ne nfw.symm] at nw
    exact nw
  have s2 : Same H (upd (upd H fo (.lst [])) wa (.lst [.int 0])) := same_mut (same_new nf) nw'
  refine ⟨.ref a, rfl, a, rfl, ⟨_, same_t s2 hT⟩, for_tup (xs := flat t) (wDep K a fo wa t H) ?_ (fun i σ H' _ h => ?_) (fun i x σ H' hx h => ?_) (fun σ H' h => ?_)⟩
  · refine ⟨[(0, t)], [], none, none, rfl, s2, by rw [upd_ne nfw, upd_same], upd_same, ?_, ?_⟩
    · intro x hx
      rw [List.mem_singleton.mp hx]
      exact hN
    · rw [depV_eq]
      exact Stk.start 0 t
  · obtain ⟨P, F, y3, y4, _, sm, _⟩ := h
    exact same_t sm hT
  · obtain ⟨P, F, y3, y4, rfl, sm, eF, eW, hP, hS⟩ := h
    obtain ⟨d, s', P', rfl, rfl, hS'⟩ := hS.turn hx
    obtain ⟨hs0, hk⟩ := hP.kids (cb := (· + 1)) (cf := fun x => x) (ca := fun x => x)
    have hs' := hs0.mono sm
    have lF := hS'.lenF
    have lP := hS.lenP
    rw [List.length_append, List.length_singleton, List.length_map, deps_len] at lF
    -- depth = waiting.pop()
    have eW' : H' wa = some (.lst (stk eN P' ++ [eN d])) := by rw [eW, stk_cons]
    refine ⟨.ref wa, rfl, .inl ⟨rfl, _, .inl (.inl eW')⟩, wa, _, eN d, rfl, rfl, eW', last_append _ _, ?_⟩
    rw [List.dropLast_concat]
    have eF1 : (upd H' wa (.lst (stk eN P'))) fo = some (.lst F) := by rw [upd_ne nfw]; exact eF
    have sm1 : Same H (upd H' wa (.lst (stk eN P'))) := same_mut sm nw'
    -- found.append(depth)
    refine ⟨.ref fo, rfl, .inl ⟨rfl, _, .inl (.inl eF1)⟩, eN d, rfl, fo, F, eN d, rfl, rfl, eF1, line_of (by omega), ?_⟩
    have eF2 : (upd (upd H' wa (.lst (stk eN P'))) fo (.lst (F ++ [eN d]))) fo = some (.lst (F ++ [eN d])) := upd_same
    have eW2 : (upd (upd H' wa (.lst (stk eN P'))) fo (.lst (F ++ [eN d]))) wa = some (.lst (stk eN P')) := by rw [upd_ne nfw.symm, upd_same]
    have sm2 : Same H (upd (upd H' wa (.lst (stk eN P'))) fo (.lst (F ++ [eN d]))) := same_mut sm1 nf
    generalize (upd (upd H' wa (.lst (stk eN P'))) fo (.lst (F ++ [eN d]))) = H2 at eF2 eW2 sm2 ⊢
    have hs2 := hs0.mono sm2
    have lP' : (stk eN P').length < 100000 := by
      rw [stk_len]
      rw [List.length_cons] at lP
      omega
    refine ⟨_, rfl, _, rfl, can_app, hs2.root, _, rfl, ?_⟩
    cases s' with
    | var n =>
      refine iteF ⟨_, rfl, .var n, rfl, hs2, _, rfl, iteF ?_⟩
      exact ⟨P', F ++ [eN d], _, _, rfl, sm2, eF2, eW2, hk, hS'⟩
    | lam l b =>
      have hl := hs2.nlam
      show if decide (l = V.str "app") = true then _ else _
      rw [dec_ne hl.1]
      refine iteF ⟨_, rfl, .lam l b, rfl, hs2, _, rfl, ?_⟩
      refine iteT ⟨.ref wa, rfl, .inl ⟨rfl, _, .inl (.inl eW2)⟩, _, rfl, _, _, rfl, rfl, wa, _, _, rfl, rfl, eW2, line_of (by omega), ?_⟩
      exact ⟨(d + 1, b) :: P', F ++ [eN d], _, _, rfl, same_mut sm2 nw', by rw [upd_ne nfw]; exact eF2, by rw [upd_same, stk_cons]; rfl, hk, hS'⟩
    | app g x =>
      refine iteT ⟨.ref wa, rfl, .inl ⟨rfl, _, .inl (.inl eW2)⟩, _, rfl, wa, _, _, rfl, rfl, eW2, line_of (by omega), ?_⟩
      refine ⟨.ref wa, rfl, .inl ⟨rfl, _, .inl (.inl upd_same)⟩, _, rfl, wa, _, _, rfl, rfl, upd_same, line_of (by rw [List.length_append, List.length_singleton]; omega), ?_⟩
      exact ⟨(d, g) :: (d, x) :: P', F ++ [eN d], _, _, rfl, same_mut (same_mut sm2 nw') nw', by rw [upd_ne nfw, upd_ne nfw]; exact eF2, by rw [upd_same, stk_cons, stk_cons], hk, hS'⟩
  · obtain ⟨P, F, y3, y4, rfl, sm, eF, eW, hP, hS⟩ := h
    rw [hS.done] at eF
    exact ⟨.ref fo, rfl, q fo H' nf sm eF⟩
/-! ### _law_places -/
theorem sc_law_places : FnScope ["_law_term_here", "_law_found", "_law_waiting", "_law_node", "_law_place"] ["_law_term_here"] (defScope (topS 42)) := ⟨rfl, rfl, rfl, by decide +kernel, rfl, by decide +kernel, by decide +kernel⟩
theorem ok_law_places (F : Fun K "_law_places" "_law_places" (topS 42) f fd) (Z : Glb K mg) (D_law_is_lam : Df P w K mg base CX0 1 "_law_is_lam" ["_law_node"] (spIl K)) : FnOk P w K mg base CX0 2 f fd ["_law_term_here"] (spPl K) := by
  refine F.ok sc_law_places (fun vs H Q E h => ?_) (fun cdv A outer s H vs Q E hr h => ?_)
  · obtain ⟨a, t, rfl, _⟩ := h
    rfl
  obtain ⟨a, t, rfl, hT, hN, hz, q⟩ := h
  refine ⟨_, (pss_cons (ps_set (i := 1) sc_law_places.nd rfl (.inl rfl) (pe_lst pa_nil))
      (pss_cons (ps_set (i := 2) sc_law_places.nd rfl (.inl rfl) (pe_lst (pa_cons pe_str pa_nil)))
      (pss_cons (ps_for PassesOwn.never rfl (pi_tup (pv 0)) (pg_name (i := 3) sc_law_places.nd rfl (.inl rfl)) (pss_cons (ps_set (i := 4) sc_law_places.nd rfl (.inl rfl) (pe_bm0 PySem.F.plainAttrs_list PySem.F.slot_list_pop PySem.F.type_list_pop mt_pop (pv 2)))
      (pss_cons (ps_expr (pe_bm PySem.F.plainAttrs_list PySem.F.slot_list_append PySem.F.type_list_append mt_append (pv 1) (pa_cons (pv 4) pa_nil)))
      (pss_one (ps_if (pt_cmpR (op_eqS hr.units) (pv 3) pe_str (nomark _)) (pss_cons (ps_expr (pe_bm PySem.F.plainAttrs_list PySem.F.slot_list_append PySem.F.type_list_append mt_append (pv 2) (pa_cons (pe_op op_add_str (pv 4) pe_str) pa_nil)))
      (pss_one (ps_expr (pe_bm PySem.F.plainAttrs_list PySem.F.slot_list_append PySem.F.type_list_append mt_append (pv 2) (pa_cons (pe_op op_add_str (pv 4) pe_str) pa_nil))))) (pss_one (ps_if (pt_val (pe_callD D_law_is_lam (room_in hr) (by rfl) pass0 (pa_cons (pv 3) pa_nil))) (pss_one (ps_expr (pe_bm PySem.F.plainAttrs_list PySem.F.slot_list_append PySem.F.type_list_append mt_append (pv 2) (pa_cons (pe_op op_add_str (pv 4) pe_str) pa_nil)))) pss_nil)))))))
      (pss_one (ps_ret (pv 1)))))), ?_⟩
  refine ⟨Nat.zero_le _, fun fo nf => ?_⟩
  refine ⟨by show 1 ≤ sizeLine; decide, fun wa nw => ?_⟩
  have nfw : fo ≠ wa := fun e => by
    rw [← e, upd_same] at nw
    cases nw
  have nw' : H wa = none := by
    rw [upd_ne nfw.symm] at nw
    exact nw
  rw [str_e]
  have s2 : Same H (upd (upd H fo (.lst [])) wa (.lst [.str (plS [])])) := same_mut (same_new nf) nw'
  refine ⟨.ref a, rfl, a, rfl, ⟨_, same_t s2 hT⟩, for_tup (xs := flat t) (wPl K a fo wa t H) ?_ (fun i σ H' _ h => ?_) (fun i x σ H' hx h => ?_) (fun σ H' h => ?_)⟩
  · refine ⟨[([], t)], [], none, none, rfl, s2, by rw [upd_ne nfw, upd_same], upd_same, ?_, Stk.start [] t⟩
    intro x hx
    rw [List.mem_singleton.mp hx]
    exact hN
  · obtain ⟨P, F, y3, y4, _, sm, _⟩ := h
    exact same_t sm hT
  · obtain ⟨P, F, y3, y4, rfl, sm, eF, eW, hP, hS⟩ := h
    obtain ⟨d, s', P', rfl, rfl, hS'⟩ := hS.turn hx
    obtain ⟨hs0, hk⟩ := hP.kids (cb := (· ++ [Dr.b])) (cf := (· ++ [Dr.f])) (ca := (· ++ [Dr.a]))
    have hs' := hs0.mono sm
    have lF := hS'.lenF
    have lP := hS.lenP
    have ld := hS.short
    rw [List.length_append, List.length_singleton, plV_len] at lF
    have lF' : F.length + 1 ≤ sz t := lF
    have eW' : H' wa = some (.lst (stk eP P' ++ [eP d])) := by rw [eW, stk_cons]
    refine ⟨.ref wa, rfl, .inl ⟨rfl, _, .inl (.inl eW')⟩, wa, _, eP d, rfl, rfl, eW', last_append _ _, ?_⟩
    rw [List.dropLast_concat]
    have eF1 : (upd H' wa (.lst (stk eP P'))) fo = some (.lst F) := by rw [upd_ne nfw]; exact eF
    have sm1 : Same H (upd H' wa (.lst (stk eP P'))) := same_mut sm nw'
    refine ⟨.ref fo, rfl, .inl ⟨rfl, _, .inl (.inl eF1)⟩, eP d, rfl, fo, F, eP d, rfl, rfl, eF1, line_of (by omega), ?_⟩
    have eF2 : (upd (upd H' wa (.lst (stk eP P'))) fo (.lst (F ++ [eP d]))) fo = some (.lst (F ++ [eP d])) := upd_same
    have eW2 : (upd (upd H' wa (.lst (stk eP P'))) fo (.lst (F ++ [eP d]))) wa = some (.lst (stk eP P')) := by rw [upd_ne nfw.symm, upd_same]
    have sm2 : Same H (upd (upd H' wa (.lst (stk eP P'))) fo (.lst (F ++ [eP d]))) := same_mut sm1 nf
    generalize (upd (upd H' wa (.lst (stk eP P'))) fo (.lst (F ++ [eP d]))) = H2 at eF2 eW2 sm2 ⊢
    have hs2 := hs0.mono sm2
    have lP' : (stk eP P').length < 100000 := by
      rw [stk_len]
      rw [List.length_cons] at lP
      omega
    have sized : ∀ z : Str, z.length = 1 → (plS d).length + z.length ≤ sizeLine := fun z hz' => by
      rw [plS_len, hz']
      exact line_le (by omega)
    refine ⟨_, rfl, _, rfl, can_app, hs2.root, _, rfl, ?_⟩
    cases s' with
    | var n =>
      refine iteF ⟨_, rfl, .var n, rfl, hs2, _, rfl, iteF ?_⟩
      exact ⟨P', F ++ [eP d], _, _, rfl, sm2, eF2, eW2, hk, hS'⟩
    | lam l b =>
      have hl := hs2.nlam
      show if decide (l = V.str "app") = true then _ else _
      rw [dec_ne hl.1]
      refine iteF ⟨_, rfl, .lam l b, rfl, hs2, _, rfl, ?_⟩
      refine iteT ⟨.ref wa, rfl, .inl ⟨rfl, _, .inl (.inl eW2)⟩, _, rfl, _, _, rfl, rfl, sized _ (by rw [str_b]; rfl), wa, _, _, rfl, rfl, eW2, line_of (by omega), ?_⟩
      exact ⟨(d ++ [Dr.b], b) :: P', F ++ [eP d], _, _, rfl, same_mut sm2 nw', by rw [upd_ne nfw]; exact eF2, by rw [upd_same, stk_cons, str_b]; unfold eP; rw [plS_snoc]; rfl, hk, hS'⟩
    | app g x =>
      refine iteT ⟨.ref wa, rfl, .inl ⟨rfl, _, .inl (.inl eW2)⟩, _, rfl, _, _, rfl, rfl, sized _ (by rw [str_a]; rfl), wa, _, _, rfl, rfl, eW2, line_of (by omega), ?_⟩
      refine ⟨.ref wa, rfl, .inl ⟨rfl, _, .inl (.inl upd_same)⟩, _, rfl, _, _, rfl, rfl, sized _ (by rw [str_f]; rfl), wa, _, _, rfl, rfl, upd_same, line_of (by rw [List.length_append, List.length_singleton]; omega), ?_⟩
      refine ⟨(d ++ [Dr.f], g) :: (d ++ [Dr.a], x) :: P', F ++ [eP d], _, _, rfl, same_mut (same_mut sm2 nw') nw', by rw [upd_ne nfw, upd_ne nfw]; exact eF2, ?_, hk, hS'⟩
      rw [upd_same, stk_cons, stk_cons, str_a, str_f]
      unfold eP
      rw [plS_snoc, plS_snoc]
      rfl
  · obtain ⟨P, F, y3, y4, rfl, sm, eF, eW, hP, hS⟩ := h
    rw [hS.done] at eF
    exact ⟨.ref fo, rfl, q fo H' nf sm eF⟩
end
end Lyd

set_option Elab.async false
set_option linter.all false
set_option maxRecDepth 100000
set_option maxHeartbeats 1000000
namespace Lyd
open PySem PySem.Spec PyProof.Rows L2
section
variable {P : Program} {w : World} {K : PySem.W.Frag} {mg : Str → Option Value} {base : Heap} {f : Addr} {fd : FuncData}
theorem depV_get {t : T} {i d : Nat} (h : (deps 0 t)[i]? = some d) : (depV t)[i]? = some (.int (d : Nat)) := by
  rw [List.getElem?_map, h]
  rfl
theorem deps_get {t : T} {i : Nat} (h : i < (flat t).length) : ∃ d, (deps 0 t)[i]? = some d :=
  ⟨_, List.getElem?_eq_getElem (by rw [deps_len]; exact h)⟩
/-! ### _law_lift -/
theorem sc_law_lift : FnScope ["_law_term_here", "_law_count", "_law_depths_here", "_law_nodes", "_law_k"] ["_law_term_here", "_law_count"] (defScope (topS 40)) := ⟨rfl, rfl, rfl, by decide +kernel, rfl, by decide +kernel, by decide +kernel⟩
def wLLift (K : PySem.W.Frag) (a fo dl : Addr) (t : T) (c : Nat) (H : Hp) : Nat → L2.St → Hp → Prop := fun i σ H' => ∃ y4, σ = [some (.ref a), some (.int (c : Nat)), some (.ref dl), some (.ref fo), y4] ∧ Same H H' ∧
  H' fo = some (.lst ((List.zipWith (liftN c) (flat t) (deps 0 t)).take i)) ∧ H' dl = some (.lst (depV t))
theorem ok_law_lift (F : Fun K "_law_lift" "_law_lift" (topS 40) f fd) (Z : Glb K mg) (D_law_depths : Df P w K mg base CX0 2 "_law_depths" ["_law_term_here"] (spDep K)) : FnOk P w K mg base CX0 3 f fd ["_law_term_here", "_law_count"] (spLift K) := by
  refine F.ok sc_law_lift (fun vs H Q E h => ?_) (fun cdv A outer s H vs Q E hr h => ?_)
  · obtain ⟨a, t, c, rfl, _⟩ := h
    rfl
  obtain ⟨a, t, c, rfl, hT, hN, hz, q⟩ := h
  have hz' : (flat t).length ≤ 100000 := hz
  refine ⟨_, (pss_cons (ps_set (i := 2) sc_law_lift.nd rfl (.inl rfl) (pe_callD D_law_depths (room_in hr) (by rfl) pass0 (pa_cons (pv 0) pa_nil)))
      (pss_cons (ps_set (i := 3) sc_law_lift.nd rfl (.inl rfl) (pe_lst pa_nil))
      (pss_cons (ps_for PassesOwn.never rfl (pi_range1 (by rfl) Z.rng (pa_cons (pe_callB call_len_seq (by rfl) Z.len PySem.boot_len (pa_cons (pv 0) pa_nil)) pa_nil)) (pg_name (i := 4) sc_law_lift.nd rfl (.inl rfl)) (pss_one (ps_if (PW.pt (pw_and (pt_val (pe_callB call_isI (by rfl) Z.isi PyProof.Rows.boot_isinstance (pa_cons (pe_ix ix_tup (pv 0) (pv 4) (fun _ _ => rfl)) (pa_cons (pe_type (by rfl) Z.int boot_int) pa_nil)))) (pw_and1 (pt_cmpR op_ge (pe_ix ix_tup (pv 0) (pv 4) (fun _ _ => rfl)) (pe_ix ix_list (pv 2) (pv 4) (fun _ _ => rfl)) (nomark _))))) (pss_one (ps_expr (pe_bm PySem.F.plainAttrs_list PySem.F.slot_list_append PySem.F.type_list_append mt_append (pv 3) (pa_cons (pe_op op_add (pe_ix ix_tup (pv 0) (pv 4) (fun _ _ => rfl)) (pv 1)) pa_nil)))) (pss_one (ps_expr (pe_bm PySem.F.plainAttrs_list PySem.F.slot_list_append PySem.F.type_list_append mt_append (pv 3) (pa_cons (pe_ix ix_tup (pv 0) (pv 4) (fun _ _ => rfl)) pa_nil)))))))
      (pss_one (ps_ret (pe_callTy call_tuple_of (by rfl) Z.tup PyProof.Rows.boot_tuple (pa_cons (pv 3) pa_nil))))))), ?_⟩
  refine ⟨_, rfl, a, t, rfl, hT, hN, hz, fun dl H1 nd s1 ed => ?_⟩
  refine ⟨Nat.zero_le _, fun fo nf => ?_⟩
  have s2 := s1.trans (same_new (o := .lst []) nf)
  have nfH : H fo = none := s1.free nf
  have nfd : dl ≠ fo := ne_of_none ed nf
  refine ⟨_, rfl, a, _, rfl, .inr (same_t s2 hT), _, rfl, by omega, by omega, for_range (n := (flat t).length) (wLLift K a fo dl t c H) ⟨none, rfl, s2, upd_same, by rw [upd_ne nfd]; exact ed⟩ (fun i σ H' hi h => ?_) (fun σ H' h => ?_)⟩
  · rw [Int.zero_add]
    obtain ⟨y4, rfl, s3, e1, e2⟩ := h
    have hx : (flat t)[i]? = some (flat t)[i] := List.getElem?_eq_getElem hi
    generalize (flat t)[i] = x at hx
    obtain ⟨d, hd⟩ := deps_get hi
    have hdV := depV_get hd
    have hT' := same_t s3 hT
    have hn : Nod K H' x := (hN.mono s3).nods.at hx
    have hg := zw_get (liftN c) hx hd
    have hlen : ((List.zipWith (liftN c) (flat t) (deps 0 t)).take i).length < sizeLine := by
      rw [List.length_take]
      exact line_of (by omega)
    have fin : ∀ v : V, v = liftN c x d → wLLift K a fo dl t c H (i + 1) [some (.ref a), some (.int (c : Nat)), some (.ref dl), some (.ref fo), some (.int (i : Nat))] (upd H' fo (.lst ((List.zipWith (liftN c) (flat t) (deps 0 t)).take i ++ [v]))) := fun v hv =>
      ⟨_, rfl, same_mut s3 nfH, by rw [upd_same, take_more hg, hv], by rw [upd_ne nfd]; exact e2⟩
    have keep : (isI x = false ∨ ∃ v, x = .int v ∧ v < (d : Int)) → wLLift K a fo dl t c H (i + 1) [some (.ref a), some (.int (c : Nat)), some (.ref dl), some (.ref fo), some (.int (i : Nat))] (upd H' fo (.lst ((List.zipWith (liftN c) (flat t) (deps 0 t)).take i ++ [x]))) := fun hb => fin x (by
      rcases hb with hb | ⟨v, rfl, hv⟩
      · cases x with
        | int v => cases hb
        | _ => rfl
      · show V.int v = if v < (d : Nat) then .int v else .int (v + (c : Nat))
        rw [if_pos hv])
    refine ⟨_, rfl, _, rfl, _, _, _, _, rfl, rfl, hT', atI_nat hx, _, rfl, hn, _, rfl, ?_⟩
    refine ite_b (fun hb => ?_) (fun hb => ?_)
    · cases x with
      | int v =>
        refine ⟨_, rfl, _, rfl, _, _, _, _, rfl, rfl, hT', atI_nat hx, _, rfl, _, rfl, _, _, _, _, rfl, rfl, .inl (.inl e2), atI_nat hdV, _, _, rfl, rfl, _, rfl, ?_⟩
        refine ite_b (fun c1 => ?_) (fun c1 => ?_)
        · have c2 : (d : Int) ≤ v := of_decide_eq_true c1
          refine ⟨.ref fo, rfl, .inl ⟨rfl, _, .inl (.inl e1)⟩, _, rfl, _, rfl, _, _, _, _, rfl, rfl, hT', atI_nat hx, _, rfl, _, _, rfl, rfl, fo, _, _, rfl, rfl, e1, hlen, fin _ ?_⟩
          show V.int (v + (c : Nat)) = if v < (d : Nat) then .int v else .int (v + (c : Nat))
          rw [if_neg (by omega)]
        · have c2 : ¬ (d : Int) ≤ v := of_decide_eq_false c1
          exact ⟨.ref fo, rfl, .inl ⟨rfl, _, .inl (.inl e1)⟩, _, rfl, _, rfl, _, _, _, _, rfl, rfl, hT', atI_nat hx, fo, _, _, rfl, rfl, e1, hlen, keep (.inr ⟨v, rfl, by omega⟩)⟩
      | _ => cases hb
    · exact iteF ⟨.ref fo, rfl, .inl ⟨rfl, _, .inl (.inl e1)⟩, _, rfl, _, rfl, _, _, _, _, rfl, rfl, hT', atI_nat hx, fo, _, _, rfl, rfl, e1, hlen, keep (.inl hb)⟩
  · obtain ⟨y4, rfl, s3, e1, e2⟩ := h
    have ef : (List.zipWith (liftN c) (flat t) (deps 0 t)).take (flat t).length = flat (lift c 0 t) := by
      rw [← lift_flat t 0 hN.labd, List.take_of_length_le]
      rw [List.length_zipWith]
      exact Nat.min_le_left _ _
    rw [ef] at e1
    exact ⟨.ref fo, rfl, fo, _, rfl, .inl ⟨.inl (.inl e1), fun p hp => q p _ (s3.trans (same_new hp)) (.inl (.inl upd_same))⟩⟩
/-! ### _law_put -/
theorem sc_law_put : FnScope ["_law_term_here", "_law_value", "_law_depths_here", "_law_nodes", "_law_k"] ["_law_term_here", "_law_value"] (defScope (topS 41)) := ⟨rfl, rfl, rfl, by decide +kernel, rfl, by decide +kernel, by decide +kernel⟩
def spLPut (K : PySem.W.Frag) : Sp := fun vs H Q _ => ∃ (a b : Addr) (s v : T), vs = [.ref a, .ref b] ∧ SqT K H a (flat s) ∧ SqT K H b (flat v) ∧ Tmk K H s ∧ Tmk K H v ∧ sz s ≤ 300 ∧ sz v ≤ 300 ∧ RT K (flat (put v 0 s)) H Q
def wLPut (K : PySem.W.Frag) (a b fo dl : Addr) (s v : T) (H : Hp) : Nat → L2.St → Hp → Prop := fun i σ H' => ∃ y4, σ = [some (.ref a), some (.ref b), some (.ref dl), some (.ref fo), y4] ∧ Same H H' ∧
  H' fo = some (.lst ((putL s v).take i).flatten) ∧ H' dl = some (.lst (depV s))
theorem ok_law_put (F : Fun K "_law_put" "_law_put" (topS 41) f fd) (Z : Glb K mg) (D_law_depths : Df P w K mg base CX0 2 "_law_depths" ["_law_term_here"] (spDep K)) (D_law_lift : Df P w K mg base CX0 3 "_law_lift" ["_law_term_here", "_law_count"] (spLift K)) :
    FnOk P w K mg base CX0 4 f fd ["_law_term_here", "_law_value"] (spLPut K) := by
  refine F.ok sc_law_put (fun vs H Q E h => ?_) (fun cdv A outer st H vs Q E hr h => ?_)
  · obtain ⟨a, b, s, v, rfl, _⟩ := h
    rfl
  obtain ⟨a, b, s, v, rfl, hTa, hTb, hNs, hNv, hzs, hzv, q⟩ := h
  have hzs' : (flat s).length ≤ 300 := hzs
  have eall : (putL s v).flatten = flat (put v 0 s) := put_flat s 0 hNs.labd
  have zeq : (putL s v).length = (flat s).length := by
    rw [List.length_zipWith, deps_len]
    exact Nat.min_self _
  have zall : (putL s v).flatten.length ≤ 90000 := by
    rw [eall]
    exact Nat.le_trans (sz_put s 0) (Nat.mul_le_mul hzs hzv)
  refine ⟨_, (pss_cons (ps_set (i := 2) sc_law_put.nd rfl (.inl rfl) (pe_callD D_law_depths (room_in hr) (by rfl) pass0 (pa_cons (pv 0) pa_nil)))
      (pss_cons (ps_set (i := 3) sc_law_put.nd rfl (.inl rfl) (pe_lst pa_nil))
      (pss_cons (ps_for PassesOwn.never rfl (pi_range1 (by rfl) Z.rng (pa_cons (pe_callB call_len_seq (by rfl) Z.len PySem.boot_len (pa_cons (pv 0) pa_nil)) pa_nil)) (pg_name (i := 4) sc_law_put.nd rfl (.inl rfl)) (pss_one (ps_if (PW.pt (pw_and (pt_val (pe_callB call_isI (by rfl) Z.isi PyProof.Rows.boot_isinstance (pa_cons (pe_ix ix_tup (pv 0) (pv 4) (fun _ _ => rfl)) (pa_cons (pe_type (by rfl) Z.int boot_int) pa_nil)))) (pw_and1 (pt_cmpR op_eq (pe_ix ix_tup (pv 0) (pv 4) (fun _ _ => rfl)) (pe_ix ix_list (pv 2) (pv 4) (fun _ _ => rfl)) (nomark _))))) (pss_one (ps_expr (pe_bm PySem.F.plainAttrs_list PySem.F.slot_list_extend PySem.F.type_list_extend mt_extT (pv 3) (pa_cons (pe_callD D_law_lift (room_in hr) (by rfl) pass0 (pa_cons (pv 1) (pa_cons (pe_ix ix_list (pv 2) (pv 4) (fun _ _ => rfl)) pa_nil))) pa_nil)))) (pss_one (ps_if (PW.pt (pw_and (pt_val (pe_callB call_isI (by rfl) Z.isi PyProof.Rows.boot_isinstance (pa_cons (pe_ix ix_tup (pv 0) (pv 4) (fun _ _ => rfl)) (pa_cons (pe_type (by rfl) Z.int boot_int) pa_nil)))) (pw_and1 (pt_cmpR op_gt (pe_ix ix_tup (pv 0) (pv 4) (fun _ _ => rfl)) (pe_ix ix_list (pv 2) (pv 4) (fun _ _ => rfl)) (nomark _))))) (pss_one (ps_expr (pe_bm PySem.F.plainAttrs_list PySem.F.slot_list_append PySem.F.type_list_append mt_append (pv 3) (pa_cons (pe_op op_sub (pe_ix ix_tup (pv 0) (pv 4) (fun _ _ => rfl)) pe_int) pa_nil)))) (pss_one (ps_expr (pe_bm PySem.F.plainAttrs_list PySem.F.slot_list_append PySem.F.type_list_append mt_append (pv 3) (pa_cons (pe_ix ix_tup (pv 0) (pv 4) (fun _ _ => rfl)) pa_nil)))))))))
      (pss_one (ps_ret (pe_callTy call_tuple_of (by rfl) Z.tup PyProof.Rows.boot_tuple (pa_cons (pv 3) pa_nil))))))), ?_⟩
  refine ⟨_, rfl, a, s, rfl, hTa, hNs, by omega, fun dl H1 nd s1 ed => ?_⟩
  refine ⟨Nat.zero_le _, fun fo nf => ?_⟩
  have s2 := s1.trans (same_new (o := .lst []) nf)
  have nfH : H fo = none := s1.free nf
  have nfd : dl ≠ fo := ne_of_none ed nf
  refine ⟨_, rfl, a, _, rfl, .inr (same_t s2 hTa), _, rfl, by omega, by omega, for_range (n := (flat s).length) (wLPut K a b fo dl s v H) ⟨none, rfl, s2, upd_same, by rw [upd_ne nfd]; exact ed⟩ (fun i σ H' hi h => ?_) (fun σ H' h => ?_)⟩
  · rw [Int.zero_add]
    obtain ⟨y4, rfl, s3, e1, e2⟩ := h
    have hx : (flat s)[i]? = some (flat s)[i] := List.getElem?_eq_getElem hi
    generalize (flat s)[i] = x at hx
    obtain ⟨d, hd⟩ := deps_get hi
    have hdV := depV_get hd
    have hT' := same_t s3 hTa
    have hn : Nod K H' x := (hNs.mono s3).nods.at hx
    have hg := zw_get (putN v) hx hd
    have hm := flat_more hg
    have hl0 : ((putL s v).take i).flatten.length ≤ 90000 := Nat.le_trans (flat_take_len _ _) zall
    have fin : ∀ (zs : List V) (H4 : Hp), Same H H4 → H4 dl = some (.lst (depV s)) → H4 fo = some (.lst (((putL s v).take i).flatten ++ zs)) → zs = putN v x d → wLPut K a b fo dl s v H (i + 1) [some (.ref a), some (.ref b), some (.ref dl), some (.ref fo), some (.int (i : Nat))] H4 := fun zs H4 s4 d4 e4 hz =>
      ⟨_, rfl, s4, by rw [e4, hz, hm], d4⟩
    have keep : [x] = putN v x d → wLPut K a b fo dl s v H (i + 1) [some (.ref a), some (.ref b), some (.ref dl), some (.ref fo), some (.int (i : Nat))] (upd H' fo (.lst (((putL s v).take i).flatten ++ [x]))) := fun hb =>
      fin [x] _ (same_mut s3 nfH) (by rw [upd_ne nfd]; exact e2) upd_same hb
    refine ⟨_, rfl, _, rfl, _, _, _, _, rfl, rfl, hT', atI_nat hx, _, rfl, hn, _, rfl, ?_⟩
    refine ite_b (fun hb => ?_) (fun hb => ?_)
    · cases x with
      | int k =>
        have eput : putN v (.int k) d = if k < (d : Nat) then [.int k] else if k = (d : Nat) then flat (lift d 0 v) else [V.int (k - 1)] := rfl
        refine ⟨_, rfl, _, rfl, _, _, _, _, rfl, rfl, hT', atI_nat hx, _, rfl, _, rfl, _, _, _, _, rfl, rfl, .inl (.inl e2), atI_nat hdV, rfl, _, rfl, ?_⟩
        refine ite_b (fun c1 => ?_) (fun c1 => ?_)
        · have c2 : V.int k = V.int (d : Nat) := of_decide_eq_true c1
          have c3 : k = (d : Int) := V.int.inj c2
          have e6 : putN v (.int k) d = flat (lift d 0 v) := by rw [eput, if_neg (by omega), if_pos c3]
          refine ⟨.ref fo, rfl, .inl ⟨rfl, _, .inl (.inl e1)⟩, _, rfl, _, rfl, _, rfl, _, _, _, _, rfl, rfl, .inl (.inl e2), atI_nat hdV, b, v, d, rfl, same_t s3 hTb, hNv.mono s3, by omega, fun p H4 s4 hp => ?_⟩
          have hzl : (flat (lift d 0 v)).length ≤ 300 := by
            have := sz_lift (c := d) v 0
            show sz (lift d 0 v) ≤ 300
            omega
          refine ⟨fo, p, _, _, rfl, rfl, s4 _ _ e1, hp, line_le (by omega), ?_⟩
          exact fin _ _ (same_mut (s3.trans s4) nfH) (by rw [upd_ne nfd]; exact s4 _ _ e2) upd_same e6.symm
        · have c2 : ¬ k = (d : Int) := fun z => (of_decide_eq_false c1) (by rw [z])
          refine ⟨_, rfl, _, rfl, _, _, _, _, rfl, rfl, hT', atI_nat hx, _, rfl, hn, _, rfl, iteT ?_⟩
          refine ⟨_, rfl, _, rfl, _, _, _, _, rfl, rfl, hT', atI_nat hx, _, rfl, _, rfl, _, _, _, _, rfl, rfl, .inl (.inl e2), atI_nat hdV, _, _, rfl, rfl, _, rfl, ?_⟩
          refine ite_b (fun c3 => ?_) (fun c3 => ?_)
          · have c4 : (d : Int) < k := of_decide_eq_true c3
            have e6 : putN v (.int k) d = [.int (k - 1)] := by rw [eput, if_neg (by omega), if_neg c2]
            refine ⟨.ref fo, rfl, .inl ⟨rfl, _, .inl (.inl e1)⟩, _, rfl, _, rfl, _, _, _, _, rfl, rfl, hT', atI_nat hx, _, _, rfl, rfl, fo, _, _, rfl, rfl, e1, line_of (by omega), ?_⟩
            exact fin _ _ (same_mut s3 nfH) (by rw [upd_ne nfd]; exact e2) upd_same e6.symm
          · have c4 : ¬ (d : Int) < k := of_decide_eq_false c3
            refine ⟨.ref fo, rfl, .inl ⟨rfl, _, .inl (.inl e1)⟩, _, rfl, _, rfl, _, _, _, _, rfl, rfl, hT', atI_nat hx, fo, _, _, rfl, rfl, e1, line_of (by omega), keep ?_⟩
            rw [eput, if_pos (by omega)]
      | _ => cases hb
    · have e6 : [x] = putN v x d := by
        cases x with
        | int k => cases hb
        | _ => rfl
      refine iteF ⟨_, rfl, _, rfl, _, _, _, _, rfl, rfl, hT', atI_nat hx, _, rfl, hn, _, rfl, ?_⟩
      rw [hb]
      exact iteF (iteF ⟨.ref fo, rfl, .inl ⟨rfl, _, .inl (.inl e1)⟩, _, rfl, _, rfl, _, _, _, _, rfl, rfl, hT', atI_nat hx, fo, _, _, rfl, rfl, e1, line_of (by omega), keep e6⟩)
  · obtain ⟨y4, rfl, s3, e1, e2⟩ := h
    rw [← zeq, List.take_length, eall] at e1
    exact ⟨.ref fo, rfl, fo, _, rfl, .inl ⟨.inl (.inl e1), fun p hp => q p _ (s3.trans (same_new hp)) (.inl (.inl upd_same))⟩⟩
end
end Lyd

set_option Elab.async false
set_option linter.all false
set_option maxRecDepth 100000
set_option maxHeartbeats 1000000
namespace Lyd
open PySem PySem.Spec PyProof.Rows L2
section
variable {P : Program} {w : World} {K : PySem.W.Frag} {mg : Str → Option Value} {base : Heap} {f : Addr} {fd : FuncData}
theorem plV_get {t : T} {i : Nat} {p : Place} {s : T} (h : (pns [] t)[i]? = some (p, s)) : (plV t)[i]? = some (eP p) := by
  rw [List.getElem?_map, h]
  rfl
/-! ### _law_redexes -/
theorem sc_law_redexes : FnScope ["_law_term_here", "_law_places_here", "_law_k"] ["_law_term_here"] (defScope (topS 43)) := ⟨rfl, rfl, rfl, by decide +kernel, rfl, by decide +kernel, by decide +kernel⟩
theorem ok_law_redexes (F : Fun K "_law_redexes" "_law_redexes" (topS 43) f fd) (Z : Glb K mg) (D_law_places : Df P w K mg base CX0 2 "_law_places" ["_law_term_here"] (spPl K)) (D_law_is_lam : Df P w K mg base CX0 1 "_law_is_lam" ["_law_node"] (spIl K)) :
    FnOk P w K mg base CX0 3 f fd ["_law_term_here"] (spRds K) := by
  refine F.ok sc_law_redexes (fun vs H Q E h => ?_) (fun cdv A outer st H vs Q E hr h => ?_)
  · obtain ⟨a, t, rfl, _⟩ := h
    rfl
  obtain ⟨a, t, rfl, hT, hN, hz, q⟩ := h
  have hz' : (flat t).length ≤ 100000 := hz
  refine ⟨_, (pss_cons (ps_set (i := 1) sc_law_redexes.nd rfl (.inr rfl) (pe_callD D_law_places (room_in hr) (by rfl) pass0 (pa_cons (pv 0) pa_nil)))
      (pss_one (ps_ret (pe_lc (own := [("_law_k", 2)]) (by rfl) sc_law_redexes.nd (pi_range1 (by rfl) Z.rng (pa_cons (pe_callB call_len_seq (by rfl) Z.len PySem.boot_len (pa_cons (pv 0) pa_nil)) pa_nil)) (blkOk_by (own := [("_law_k", 2)]) (N := ["_law_term_here", "_law_places_here", "_law_k"]) (sc := defScope (topS 43)) (by decide +kernel)) (fun _ _ _ _ _ => (pg_name (i := 2) sc_law_redexes.nd rfl (.inl rfl))) (fun _ _ _ _ _ => (pts_one (PW.pt (pw_and (pt_cmpR (op_eqSK (K := K) hr.units rfl) (pe_ix (ix_tupK (K := K) rfl) (pv 0) (pv 2) (fun _ _ => rfl)) pe_str (nomark _)) (pw_and1 (pt_val (pe_callD D_law_is_lam (room_in hr) (by rfl) pass0 (pa_cons (pe_ix (ix_tupK (K := K) rfl) (pv 0) (pe_op op_add (pv 2) pe_int) (fun _ _ => rfl)) pa_nil)))))))) (fun _ _ _ _ _ => (pe_ix (ix_listK (K := K) rfl) (pv 1) (pv 2) (fun _ _ => rfl))))))), ?_⟩
  refine ⟨_, rfl, a, t, rfl, hT, hN, hz, fun pl H1 np s1 ep => ?_⟩
  refine ⟨_, rfl, a, _, rfl, .inr (same_t s1 hT), _, rfl, by omega, by omega, fun D nD => lc_range (n := (flat t).length) (fun i H' => Same H1 H' ∧ H' D = some (.lst (fnd (fun p _ => eP p) t i))) ⟨same_new nD, upd_same⟩ (fun i H' hi h => ?_) (fun H' h => ?_)⟩
  · rw [Int.zero_add]
    obtain ⟨sm, eD⟩ := h
    have hi' : i < (pns [] t).length := by rw [pns_len]; exact hi
    have e : (pns [] t)[i]? = some (pns [] t)[i] := List.getElem?_eq_getElem hi'
    generalize (pns [] t)[i] = z at e
    obtain ⟨p, s⟩ := z
    obtain ⟨pre, post, hx', hl⟩ := nds_at t [] i p s e
    obtain ⟨p', ep', hi2⟩ := pns_ix t [] i p s e
    have sH := s1.trans sm
    have hs : Tmk K H' s := (hN.mono sH).ix hi2
    have hT' := same_t sH hT
    have hm := fnd_more (g := fun p _ => eP p) e
    have hlen : (fnd (fun p _ => eP p) t i).length < sizeLine := line_of (Nat.le_trans fnd_len (by omega))
    have hg : (flat t)[i]? = some (root s) := by
      obtain ⟨q', e⟩ := flat_root s
      exact get_pre (r := q' ++ post) (by rw [hx', e]; rfl) hl
    refine ⟨rfl, _, rfl, _, rfl, _, _, _, _, rfl, rfl, hT', atI_nat hg, _, rfl, can_app, hs.root, _, rfl, ?_⟩
    cases s with
    | var v =>
      have hm' : fnd (fun p _ => eP p) t (i + 1) = fnd (fun p _ => eP p) t i := by rw [hm]; exact List.append_nil _
      exact iteF (iteF ⟨sm, by rw [hm']; exact eD⟩)
    | lam l b =>
      have hm' : fnd (fun p _ => eP p) t (i + 1) = fnd (fun p _ => eP p) t i := by rw [hm]; exact List.append_nil _
      have hl' := hs.nlam
      show if decide (l = V.str "app") = true then _ else _
      rw [dec_ne hl'.1]
      exact iteF (iteF ⟨sm, by rw [hm']; exact eD⟩)
    | app g x =>
      have hg2 : (flat t)[i + 1]? = some (root g) := by
        obtain ⟨q', e⟩ := flat_root g
        exact get_pre (pre := pre ++ [V.str "app"]) (r := q' ++ flat x ++ post) (by rw [hx']; show pre ++ (V.str "app" :: (flat g ++ flat x) ++ post) = _; rw [e]; simp) (by rw [List.length_append, hl]; rfl)
      refine iteT ⟨_, rfl, _, rfl, _, _, rfl, rfl, _, _, _, _, rfl, rfl, hT', atI_nat (j := i + 1) hg2, g, rfl, hs.app.1, _, rfl, ?_⟩
      cases g with
      | var v =>
        have hm' : fnd (fun p _ => eP p) t (i + 1) = fnd (fun p _ => eP p) t i := by rw [hm]; exact List.append_nil _
        exact iteF ⟨sm, by rw [hm']; exact eD⟩
      | app g y =>
        have hm' : fnd (fun p _ => eP p) t (i + 1) = fnd (fun p _ => eP p) t i := by rw [hm]; exact List.append_nil _
        exact iteF ⟨sm, by rw [hm']; exact eD⟩
      | lam m b =>
        refine iteT ⟨_, rfl, _, rfl, _, _, _, _, rfl, rfl, .inl (.inl (sm _ _ ep)), atI_nat (plV_get e), _, eD, hlen, same_mut sm nD, ?_⟩
        rw [upd_same, hm]
        rfl
  · obtain ⟨sm, eD⟩ := h
    rw [fnd_all] at eD
    exact q D H' (s1.free nD) (s1.trans sm) eD
/-! ### _law_step -/
theorem sc_law_step : FnScope ["_law_term_here", "_law_place", "_law_at", "_law_middle", "_law_end_here"] ["_law_term_here", "_law_place"] (defScope (topS 44)) := ⟨rfl, rfl, rfl, by decide +kernel, rfl, by decide +kernel, by decide +kernel⟩
def spLSt (K : PySem.W.Frag) : Sp := fun vs H Q _ => ∃ (a : Addr) (t u : T) (p : Place), vs = [.ref a, .str (plS p)] ∧ SqT K H a (flat t) ∧ Tmk K H t ∧ sz t ≤ 300 ∧ step t p = some u ∧ RT K (flat u) H Q
theorem ok_law_step (F : Fun K "_law_step" "_law_step" (topS 44) f fd) (Z : Glb K mg) (D_law_places : Df P w K mg base CX0 2 "_law_places" ["_law_term_here"] (spPl K)) (D_law_end : Df P w K mg base CX0 2 "_law_end" ["_law_term_here", "_law_at"] (spEnd K))
    (D_law_put : Df P w K mg base CX0 4 "_law_put" ["_law_term_here", "_law_value"] (spLPut K)) : FnOk P w K mg base CX0 5 f fd ["_law_term_here", "_law_place"] (spLSt K) := by
  refine F.ok sc_law_step (fun vs H Q E h => ?_) (fun cdv A outer st H vs Q E hr h => ?_)
  · obtain ⟨a, t, u, p, rfl, _⟩ := h
    rfl
  obtain ⟨a, t, u, p, rfl, hT0, hN0, hz, hs, q0⟩ := h
  refine ⟨_, (pss_cons (ps_set (i := 2) sc_law_step.nd rfl (.inl rfl) (pe_bm PySem.F.plainAttrs_list PySem.F.slot_list_index PySem.F.type_list_index mt_index (pe_callD D_law_places (room_in hr) (by rfl) pass0 (pa_cons (pv 0) pa_nil)) (pa_cons (pv 1) pa_nil)))
      (pss_cons (ps_set (i := 3) sc_law_step.nd rfl (.inl rfl) (pe_callD D_law_end (room_in hr) (by rfl) pass0 (pa_cons (pv 0) (pa_cons (pe_op op_add (pv 2) pe_int) pa_nil))))
      (pss_cons (ps_set (i := 4) sc_law_step.nd rfl (.inl rfl) (pe_callD D_law_end (room_in hr) (by rfl) pass0 (pa_cons (pv 0) (pa_cons (pv 3) pa_nil))))
      (pss_one (ps_ret (pe_op op_catA (pe_op op_catA (pe_slice sl_tupA (pv 0) po_none (po_some (pv 2))) (pe_callD D_law_put (room_in hr) (by rfl) pass0 (pa_cons (pe_slice sl_tupA (pv 0) (po_some (pe_op op_add (pv 2) pe_int)) (po_some (pv 3))) (pa_cons (pe_slice sl_tupA (pv 0) (po_some (pv 3)) (po_some (pv 4))) pa_nil)))) (pe_slice sl_tupA (pv 0) (po_some (pv 4)) po_none))))))), ?_⟩
  obtain ⟨i, m, b, x, pre, post, hi, hl, hx, hu⟩ := step_flat p t u hs
  have hpl := plV_get (ix_pns t [] p i _ hi)
  rw [List.nil_append] at hpl
  refine ⟨_, rfl, a, t, rfl, hT0, hN0, by omega, fun pl H1 np s1 ep => ?_⟩
  refine ⟨.inl ⟨rfl, _, .inl (.inl ep)⟩, _, rfl, pl, _, _, i, eP p, rfl, rfl, .inl (.inl ep), rfl, ?_, hpl, ?_, ?_, ?_⟩
  · rw [List.all_eq_true]
    intro y hy
    obtain ⟨z, _, rfl⟩ := List.mem_map.mp hy
    rfl
  · show (plS p == plS p) = true
    exact beq_self_eq_true _
  · intro j z hj hjz
    rw [List.getElem?_map] at hjz
    cases e : (pns [] t)[j]? with
    | none => rw [e] at hjz; cases hjz
    | some y =>
      rw [e] at hjz
      cases Option.some.inj hjz
      obtain ⟨p', s'⟩ := y
      obtain ⟨p2, e2, hi2⟩ := pns_ix t [] j p' s' e
      show (plS p' == plS p) = false
      refine beq_eq_false_iff_ne.mpr fun z => ?_
      have e3 : p' = p := plS_inj z
      rw [List.nil_append] at e2
      subst e2 e3
      rw [hi] at hi2
      cases hi2
      exact Nat.lt_irrefl _ hj
  have hT := same_t s1 hT0
  have hN := hN0.mono s1
  have q : RT K (flat u) H1 Q := fun p H' sm hp => q0 p H' (s1.trans sm) hp
  have hr' := hN.ix hi
  have lx : (flat t).length = i + (sz b + sz x + 2) + post.length := by
    rw [hx, List.length_append, List.length_append, hl]
    have : (flat (.app (.lam m b) x)).length = sz b + sz x + 2 := by
      show sz (.app (.lam m b) x) = _
      rw [sz_app, sz_lam]
      omega
    omega
  have hz' : (flat t).length ≤ 300 := hz
  have lu : sz u = i + sz (put x 0 b) + post.length := by
    show (flat u).length = _
    rw [hu, List.length_append, List.length_append, hl]
    have e : sz (put x 0 b) = (flat (put x 0 b)).length := rfl
    omega
  have hx2 : flat t = pre ++ (V.str "app" :: m :: (flat b ++ (flat x ++ post))) := by
    rw [hx]
    show pre ++ (V.str "app" :: ((m :: flat b) ++ flat x) ++ post) = _
    simp
  refine ⟨_, rfl, _, rfl, _, _, rfl, rfl, a, _, pre ++ [V.str "app"], flat x ++ post, .lam m b, i + 1, rfl, hT, hr'.app.1, ?_, by rw [List.length_append, hl]; rfl, ?_⟩
  · rw [hx2]
    show _ = (pre ++ [V.str "app"]) ++ ((m :: flat b) ++ (flat x ++ post))
    simp
  refine ⟨_, rfl, _, rfl, a, _, pre ++ (V.str "app" :: m :: flat b), post, x, i + 1 + sz (.lam m b), rfl, hT, hr'.app.2, ?_, ?_, ?_⟩
  · rw [hx2]
    simp
  · rw [List.length_append, hl, sz_lam]
    show i + ((flat b).length + 1 + 1) = i + 1 + (sz b + 1)
    show i + (sz b + 1 + 1) = i + 1 + (sz b + 1)
    omega
  -- the three pieces
  refine ⟨_, rfl, _, rfl, _, rfl, sl_any hT (cut_take (by omega)) fun p1 H1 s1 h1 => ?_⟩
  have e1 : (flat t).take i = pre := by rw [hx, ← hl, List.take_left]
  rw [e1] at h1
  refine ⟨_, rfl, _, rfl, _, _, rfl, rfl, _, rfl, _, rfl, _, rfl, sl_any (ys := flat b) (same_t s1 hT) ?_ fun p2 H2 s2 h2 => ?_⟩
  · have e : (i : Int) + 2 = ((i + 2 : Nat) : Int) := by omega
    rw [e]
    refine cut_mid (pre := pre ++ [V.str "app", m]) (post := flat x ++ post) (by rw [hx2]; simp) (by rw [List.length_append, hl]; rfl) ?_
    rw [sz_lam]
    show i + 2 + sz b = i + 1 + (sz b + 1)
    omega
  have s12 := s1.trans s2
  refine ⟨_, rfl, _, rfl, _, rfl, _, rfl, _, rfl, sl_any (ys := flat x) (same_t s12 hT) ?_ fun p3 H3 s3 h3 => ?_⟩
  · refine cut_mid (pre := pre ++ (V.str "app" :: m :: flat b)) (post := post) (by rw [hx2]; simp) ?_ rfl
    rw [List.length_append, hl, sz_lam]
    show i + (sz b + 1 + 1) = i + 1 + (sz b + 1)
    omega
  have s13 := s12.trans s3
  have hb' := hr'.app.1.lam
  refine ⟨p2, p3, b, x, rfl, same_t s3 h2, h3, hb'.mono s13, hr'.app.2.mono s13, by omega, by omega, fun p4 H4 s4 h4 => ?_⟩
  have s14 := s13.trans s4
  have hsz : sz (put x 0 b) ≤ 90000 := Nat.le_trans (sz_put b 0) (Nat.mul_le_mul (show sz b ≤ 300 by omega) (show sz x ≤ 300 by omega))
  have lpre : pre.length ≤ 1000 := by omega
  refine cat_any (same_t s4 (same_t s3 (same_t s2 h1))) h4 (by show pre.length + sz (put x 0 b) ≤ _; omega) fun p5 H5 s5 h5 => ?_
  have s15 := s14.trans s5
  refine ⟨_, rfl, _, rfl, _, rfl, ?_⟩
  dsimp only [tNoPart]
  refine sl_any (ys := post) (same_t s15 hT) ?_ fun p6 H6 s6 h6 => ?_
  · refine (cut_drop (by rw [lx, sz_lam]; omega)).trans ?_
    rw [hx2, show pre ++ (V.str "app" :: m :: (flat b ++ (flat x ++ post))) = (pre ++ (V.str "app" :: m :: (flat b ++ flat x))) ++ post by simp]
    rw [List.drop_append_of_le_length, List.drop_of_length_le, List.nil_append]
    · rw [List.length_append, hl, List.length_cons, List.length_cons, List.length_append, sz_lam]
      show i + (sz b + sz x + 1 + 1) ≤ _
      omega
    · rw [List.length_append, hl, List.length_cons, List.length_cons, List.length_append, sz_lam]
      show _ ≤ i + (sz b + sz x + 1 + 1)
      omega
  have s16 := s15.trans s6
  refine cat_any (same_t s6 h5) h6 (by rw [List.length_append]; show pre.length + sz (put x 0 b) + _ ≤ _; omega) fun p7 H7 s7 h7 => ?_
  have s17 := s16.trans s7
  have eu : (pre ++ flat (put x 0 b)) ++ post = flat u := by rw [hu]; simp
  rw [eu] at h7
  exact q p7 H7 s17 h7
end
end Lyd

set_option Elab.async false
set_option linter.all false
set_option maxRecDepth 100000
set_option maxHeartbeats 1000000
namespace Lyd
open PySem PySem.Spec PyProof.Rows L2
section
variable {P : Program} {w : World} {K : PySem.W.Frag} {mg : Str → Option Value} {base : Heap} {f : Addr} {fd : FuncData}
theorem Pl.var (n : Nat) : Pl (.var n) := fun m h => by cases h
theorem Pl.lam {b : T} (h : Pl b) : Pl (.lam (.str "lam") b) := fun m hm => by
  rcases List.mem_cons.mp hm with rfl | hm
  · rfl
  · exact h m hm
theorem Pl.app {g x : T} (h : Pl g) (k : Pl x) : Pl (.app g x) := fun m hm => by
  rcases List.mem_append.mp hm with hm | hm
  · exact h m hm
  · exact k m hm
/-- a drawn term: at most z nodes, its variables at most N -/
def RD (K : PySem.W.Frag) (S : Addr) (z N : Nat) (H : Hp) (Q : VK) : Prop := ∀ (p : Addr) (t : T) (H' : Hp), SameS S H H' → Strm K H' S → SqT K H' p (flat t) → Pl t → sz t ≤ z → vb N t → Q (.ref p) H'
/-! ### _law_term -/
theorem sc_law_term : FnScope ["_law_stream_here", "_law_size", "_law_depth", "_law_pick", "_law_half"] ["_law_stream_here", "_law_size", "_law_depth"] (defScope (topS 45)) := ⟨rfl, rfl, rfl, by decide +kernel, rfl, by decide +kernel, by decide +kernel⟩
def spTm (K : PySem.W.Frag) (n : Nat) : Sp := fun vs H Q _ => ∃ (S : Addr) (z d : Nat), vs = [.ref S, .int (z : Nat), .int (d : Nat)] ∧ Strm K H S ∧ 1 ≤ z ∧ z ≤ n ∧ d + z ≤ 1000 ∧ RD K S (3 * z - 2) (d + z + 1) H Q
theorem cat_two {H : Hp} {Q : VK} {a b : Addr} {xs ys : List V} (ha : SqT K H a xs) (hb : SqT K H b ys) (hl : xs.length + ys.length ≤ 1000000) (q : ∀ p H', Same H H' → SqT K H' p (xs ++ ys) → Q (.ref p) H') : rCatA K (.ref a) (.ref b) H Q := cat_any ha hb hl q
theorem ok_law_term {n : Nat} (F : Fun K "_law_term" "_law_term" (topS 45) f fd) (Z : Glb K mg) (D_law_draw : Df P w K mg base CX0 1 "_law_draw" ["_law_stream_here", "_law_many"] (spDr K)) (D_law_term : Df P w K mg base CX0 (n + 1) "_law_term" ["_law_stream_here", "_law_size", "_law_depth"] (spTm K n)) :
    FnOk P w K mg base CX0 (n + 2) f fd ["_law_stream_here", "_law_size", "_law_depth"] (spTm K (n + 1)) := by
  refine F.ok sc_law_term (fun vs H Q E h => ?_) (fun cdv A outer st H vs Q E hr h => ?_)
  · obtain ⟨S, z, d, rfl, _⟩ := h
    rfl
  obtain ⟨S, z, d, rfl, hS, h1, h2, h3, q⟩ := h
  refine ⟨_, (pss_cons (ps_if (pt_cmpR op_lt (pv 1) pe_int (nomark _)) (pss_one (ps_ret (pe_tup (pa_cons (pe_callD D_law_draw (hr.mono (by omega)) (by rfl) pass0 (pa_cons (pv 0) (pa_cons (pe_op op_add (pv 2) pe_int) pa_nil))) pa_nil)))) pss_nil)
      (pss_cons (ps_set (i := 3) sc_law_term.nd rfl (.inl rfl) (pe_callD D_law_draw (hr.mono (by omega)) (by rfl) pass0 (pa_cons (pv 0) (pa_cons pe_int pa_nil))))
      (pss_cons (ps_if (pt_cmpR op_lt (pv 3) pe_int (nomark _)) (pss_one (ps_ret (pe_op op_catA (pe_tup (pa_cons pe_str pa_nil)) (pe_callD D_law_term (hr.mono (by omega)) (by rfl) pass0 (pa_cons (pv 0) (pa_cons (pe_op op_sub (pv 1) pe_int) (pa_cons (pe_op op_add (pv 2) pe_int) pa_nil))))))) pss_nil)
      (pss_cons (ps_set (i := 4) sc_law_term.nd rfl (.inl rfl) (pe_op op_add pe_int (pe_callD D_law_draw (hr.mono (by omega)) (by rfl) pass0 (pa_cons (pv 0) (pa_cons (pe_op op_sub (pv 1) pe_int) pa_nil)))))
      (pss_cons (ps_if (pt_cmpR op_eq (pv 3) pe_int (nomark _)) (pss_one (ps_ret (pe_op op_catA (pe_op op_catA (pe_tup (pa_cons pe_str (pa_cons pe_str pa_nil))) (pe_callD D_law_term (hr.mono (by omega)) (by rfl) pass0 (pa_cons (pv 0) (pa_cons (pv 4) (pa_cons (pe_op op_add (pv 2) pe_int) pa_nil))))) (pe_callD D_law_term (hr.mono (by omega)) (by rfl) pass0 (pa_cons (pv 0) (pa_cons (pe_op op_sub (pv 1) (pv 4)) (pa_cons (pv 2) pa_nil))))))) pss_nil)
      (pss_one (ps_ret (pe_op op_catA (pe_op op_catA (pe_tup (pa_cons pe_str pa_nil)) (pe_callD D_law_term (hr.mono (by omega)) (by rfl) pass0 (pa_cons (pv 0) (pa_cons (pv 4) (pa_cons (pv 2) pa_nil))))) (pe_callD D_law_term (hr.mono (by omega)) (by rfl) pass0 (pa_cons (pv 0) (pa_cons (pe_op op_sub (pv 1) (pv 4)) (pa_cons (pv 2) pa_nil)))))))))))), ?_⟩
  refine ⟨_, rfl, _, _, rfl, rfl, _, rfl, ?_⟩
  refine ite_b (fun c => ?_) (fun c => ?_)
  · refine ⟨_, rfl, _, rfl, _, _, rfl, rfl, S, d + 2, rfl, by omega, by omega, hS, fun v H1 hv s1 hS1 => ?_⟩
    refine ⟨by show 1 ≤ sizeLine; decide, fun p np => ?_⟩
    have s2 : Same H1 (upd H1 p (.tup [.int (v : Nat)])) := same_new np
    exact q p (.var v) _ (s1.trans (toS s2)) (hS1.same s2) (.inl (.inl upd_same)) (Pl.var v) (by show 1 ≤ _; omega) (by show v ≤ _; omega)
  have c0 : ¬ (z : Int) < 2 := of_decide_eq_false c
  refine ⟨_, rfl, S, 5, rfl, by omega, by omega, hS, fun pick H1 hp s1 hS1 => ?_⟩
  refine ⟨_, rfl, _, _, rfl, rfl, _, rfl, ?_⟩
  refine ite_b (fun c1 => ?_) (fun c1 => ?_)
  · refine ⟨by show 1 ≤ sizeLine; decide, fun p np => ?_⟩
    have s2 : Same H1 (upd H1 p (.tup [.str "lam"])) := same_new np
    refine ⟨_, rfl, _, rfl, _, _, rfl, rfl, _, rfl, _, _, rfl, rfl, S, z - 1, d + 1, congrArg (fun x : Int => [V.ref S, V.int x, V.int ((d + 1 : Nat) : Int)]) (show (z : Int) - 1 = ((z - 1 : Nat) : Int) by omega), hS1.same s2, by omega, by omega, by omega, fun p2 t H2 s3 hS2 ht hP hz hv => ?_⟩
    refine cat_two ((hS1.same s2).t s3 (.inl (.inl upd_same))) ht (by show 1 + sz t ≤ _; omega) fun p3 H3 s4 h3' => ?_
    exact q p3 (.lam (.str "lam") t) H3 (((s1.trans (toS s2)).trans s3).trans (toS s4)) (hS2.same s4) h3' hP.lam (by rw [sz_lam]; omega) (vb_mono (by omega) t hv)
  have c2 : ¬ (pick : Int) < 2 := of_decide_eq_false c1
  refine ⟨_, rfl, _, rfl, _, _, rfl, rfl, S, z - 1, congrArg (fun x : Int => [V.ref S, V.int x]) (show (z : Int) - 1 = ((z - 1 : Nat) : Int) by omega), by omega, by omega, hS1, fun v H2 hv s2 hS2 => ⟨_, _, rfl, rfl, ?_⟩⟩
  have s12 := s1.trans s2
  refine ⟨_, rfl, rfl, _, rfl, ?_⟩
  refine ite_b (fun c3 => ?_) (fun c3 => ?_)
  · refine ⟨by show 2 ≤ sizeLine; decide, fun p np => ?_⟩
    have s3 : Same H2 (upd H2 p (.tup [.str "app", .str "lam"])) := same_new np
    refine ⟨_, rfl, _, rfl, _, rfl, _, _, rfl, rfl, S, 1 + v, d + 1, rfl, hS2.same s3, by omega, by omega, by omega, fun p2 t H3 s4 hS3 ht hP hz hvb => ?_⟩
    refine cat_two ((hS2.same s3).t s4 (.inl (.inl upd_same))) ht (by show 2 + sz t ≤ _; omega) fun p3 H4 s5 h3' => ?_
    have hS4 := hS3.same s5
    refine ⟨_, rfl, _, rfl, _, rfl, _, _, rfl, rfl, _, rfl, S, z - (1 + v), d, congrArg (fun x : Int => [V.ref S, V.int x, V.int ((d : Nat) : Int)]) (show (z : Int) - (1 + (v : Nat)) = ((z - (1 + v) : Nat) : Int) by omega), hS4, by omega, by omega, by omega, fun p4 u H5 s6 hS5 hu hPu hzu hvu => ?_⟩
    have lt3 : ([V.str "app", V.str "lam"] ++ flat t).length = 2 + sz t := by rw [List.length_append]; rfl
    refine cat_two (hS4.t s6 h3') hu (by rw [lt3]; show 2 + sz t + sz u ≤ _; omega) fun p5 H6 s7 h5' => ?_
    exact q p5 (.app (.lam (.str "lam") t) u) H6 (((((s12.trans (toS s3)).trans s4).trans (toS s5)).trans s6).trans (toS s7)) (hS5.same s7) h5' (hP.lam.app hPu) (by rw [sz_app, sz_lam]; omega) ⟨vb_mono (by omega) t hvb, vb_mono (by omega) u hvu⟩
  · refine ⟨by show 1 ≤ sizeLine; decide, fun p np => ?_⟩
    have s3 : Same H2 (upd H2 p (.tup [.str "app"])) := same_new np
    refine ⟨_, rfl, _, rfl, _, rfl, S, 1 + v, d, rfl, hS2.same s3, by omega, by omega, by omega, fun p2 t H3 s4 hS3 ht hP hz hvb => ?_⟩
    refine cat_two ((hS2.same s3).t s4 (.inl (.inl upd_same))) ht (by show 1 + sz t ≤ _; omega) fun p3 H4 s5 h3' => ?_
    have hS4 := hS3.same s5
    refine ⟨_, rfl, _, rfl, _, rfl, _, _, rfl, rfl, _, rfl, S, z - (1 + v), d, congrArg (fun x : Int => [V.ref S, V.int x, V.int ((d : Nat) : Int)]) (show (z : Int) - (1 + (v : Nat)) = ((z - (1 + v) : Nat) : Int) by omega), hS4, by omega, by omega, by omega, fun p4 u H5 s6 hS5 hu hPu hzu hvu => ?_⟩
    have lt3 : ([V.str "app"] ++ flat t).length = 1 + sz t := by rw [List.length_append]; rfl
    refine cat_two (hS4.t s6 h3') hu (by rw [lt3]; show 1 + sz t + sz u ≤ _; omega) fun p5 H6 s7 h5' => ?_
    exact q p5 (.app t u) H6 (((((s12.trans (toS s3)).trans s4).trans (toS s5)).trans s6).trans (toS s7)) (hS5.same s7) h5' (hP.app hPu) (by rw [sz_app]; omega) ⟨vb_mono (by omega) t hvb, vb_mono (by omega) u hvu⟩
theorem term_all (F : Fun K "_law_term" "_law_term" (topS 45) f fd) (Z : Glb K mg) (D_law_draw : Df P w K mg base CX0 1 "_law_draw" ["_law_stream_here", "_law_many"] (spDr K)) (hb : Binds K fd ["_law_stream_here", "_law_size", "_law_depth"] []) (hm : mg "_law_term" = some (.ref f)) (hk : PySem.W.keepIn K (.ref f) = true) :
    ∀ n, FnOk P w K mg base CX0 (n + 1) f fd ["_law_stream_here", "_law_size", "_law_depth"] (spTm K n)
  | 0 => by
    have no : ∀ vs H Q E, ¬ spTm K 0 vs H Q E := fun vs H Q E h => by
      obtain ⟨S, z, d, _, _, h1, h2, _⟩ := h
      omega
    exact ⟨fun vs H Q E h => absurd h (no vs H Q E), fun A outer s H args us vs Q E _ _ _ _ h => absurd h (no vs H Q E)⟩
  | n + 1 => ok_law_term F Z D_law_draw ⟨f, fd, term_all F Z D_law_draw hb hm hk n, hb, hm, hk⟩
/-! ### _law_closed_term -/
theorem sc_law_closed_term : FnScope ["_law_stream_here", "_law_many", "_law_term_here", "_law_k", "_law_other"] ["_law_stream_here"] (defScope (topS 46)) := ⟨rfl, rfl, rfl, by decide +kernel, rfl, by decide +kernel, by decide +kernel⟩
def spCl (K : PySem.W.Frag) : Sp := fun vs H Q _ => ∃ (S : Addr), vs = [.ref S] ∧ Strm K H S ∧ RD K S 20 20 H Q
def lams : Nat → T → T
  | 0, t => t
  | n + 1, t => .lam (.str "lam") (lams n t)
theorem lams_flat (t : T) : ∀ n, flat (lams n t) = List.replicate n (V.str "lam") ++ flat t
  | 0 => rfl
  | n + 1 => by
    show V.str "lam" :: flat (lams n t) = _
    rw [lams_flat t n]
    rfl
theorem lams_pl {t : T} (h : Pl t) : ∀ n, Pl (lams n t)
  | 0 => h
  | n + 1 => (lams_pl h n).lam
theorem lams_sz (t : T) : ∀ n, sz (lams n t) = n + sz t
  | 0 => (Nat.zero_add _).symm
  | n + 1 => by
    show sz (.lam _ (lams n t)) = _
    rw [sz_lam, lams_sz t n]
    omega
theorem lams_vb {N : Nat} {t : T} (h : vb N t) : ∀ n, vb N (lams n t)
  | 0 => h
  | n + 1 => lams_vb h n
def wCl (K : PySem.W.Frag) (S : Addr) (many : Nat) (H : Hp) : Nat → L2.St → Hp → Prop := fun i σ H' => ∃ (c : Addr) (t : T) (y3 y4 : Option V), σ = [some (.ref S), some (.int (many : Nat)), some (.ref c), y3, y4] ∧ SameS S H H' ∧ Strm K H' S ∧ SqT K H' c (flat t) ∧ Pl t ∧ sz t ≤ 1 + 2 * i ∧ vb 20 t
theorem ok_law_closed_term (F : Fun K "_law_closed_term" "_law_closed_term" (topS 46) f fd) (Z : Glb K mg) (D_law_draw : Df P w K mg base CX0 1 "_law_draw" ["_law_stream_here", "_law_many"] (spDr K)) : FnOk P w K mg base CX0 2 f fd ["_law_stream_here"] (spCl K) := by
  refine F.ok sc_law_closed_term (fun vs H Q E h => ?_) (fun cdv A outer st H vs Q E hr h => ?_)
  · obtain ⟨S, rfl, _⟩ := h
    rfl
  obtain ⟨S, rfl, hS, q⟩ := h
  refine ⟨_, (pss_cons (ps_if (pt_cmpR op_eq (pe_callD D_law_draw (room_in hr) (by rfl) pass0 (pa_cons (pv 0) (pa_cons pe_int pa_nil))) pe_int (nomark _)) (pss_one (ps_ret (pe_tup (pa_cons (pe_callD D_law_draw (room_in hr) (by rfl) pass0 (pa_cons (pv 0) (pa_cons pe_int pa_nil))) pa_nil)))) pss_nil)
      (pss_cons (ps_set (i := 1) sc_law_closed_term.nd rfl (.inl rfl) (pe_op op_add pe_int (pe_callD D_law_draw (room_in hr) (by rfl) pass0 (pa_cons (pv 0) (pa_cons pe_int pa_nil)))))
      (pss_cons (ps_set (i := 2) sc_law_closed_term.nd rfl (.inl rfl) (pe_tup (pa_cons (pe_callD D_law_draw (room_in hr) (by rfl) pass0 (pa_cons (pv 0) (pa_cons (pv 1) pa_nil))) pa_nil)))
      (pss_cons (ps_for PassesOwn.never rfl (pi_range1 (by rfl) Z.rng (pa_cons (pe_callD D_law_draw (room_in hr) (by rfl) pass0 (pa_cons (pv 0) (pa_cons pe_int pa_nil))) pa_nil)) (pg_name (i := 3) sc_law_closed_term.nd rfl (.inl rfl)) (pss_cons (ps_set (i := 4) sc_law_closed_term.nd rfl (.inl rfl) (pe_tup (pa_cons (pe_callD D_law_draw (room_in hr) (by rfl) pass0 (pa_cons (pv 0) (pa_cons (pv 1) pa_nil))) pa_nil)))
      (pss_one (ps_if (pt_cmpR op_eq (pe_callD D_law_draw (room_in hr) (by rfl) pass0 (pa_cons (pv 0) (pa_cons pe_int pa_nil))) pe_int (nomark _)) (pss_one (ps_set (i := 2) sc_law_closed_term.nd rfl (.inl rfl) (pe_op op_catA (pe_op op_catA (pe_tup (pa_cons pe_str pa_nil)) (pv 2)) (pv 4)))) (pss_one (ps_set (i := 2) sc_law_closed_term.nd rfl (.inl rfl) (pe_op op_catA (pe_op op_catA (pe_tup (pa_cons pe_str pa_nil)) (pv 4)) (pv 2))))))))
      (pss_one (ps_ret (pe_op op_catA (pe_op (op_rep1.or op_repT) (pe_tup (pa_cons pe_str pa_nil)) (pv 1)) (pv 2)))))))), ?_⟩
  refine ⟨_, rfl, S, 8, rfl, by omega, by omega, hS, fun v0 H1 hv0 s1 hS1 => ⟨rfl, _, rfl, ?_⟩⟩
  refine ite_b (fun c => ?_) (fun c => ?_)
  · refine ⟨_, rfl, S, 8, rfl, by omega, by omega, hS1, fun v H2 hv s2 hS2 => ?_⟩
    refine ⟨by show 1 ≤ sizeLine; decide, fun p np => ?_⟩
    have s3 : Same H2 (upd H2 p (.tup [.int (v : Nat)])) := same_new np
    exact q p (.var v) _ ((s1.trans s2).trans (toS s3)) (hS2.same s3) (.inl (.inl upd_same)) (Pl.var v) (by show 1 ≤ _; omega) (by show v ≤ _; omega)
  refine ⟨_, rfl, S, 3, rfl, by omega, by omega, hS1, fun v1 H2 hv1 s2 hS2 => ⟨_, _, rfl, rfl, ?_⟩⟩
  refine ⟨_, rfl, _, rfl, S, 1 + v1, rfl, by omega, by omega, hS2, fun v2 H3 hv2 s3 hS3 => ⟨by show 1 ≤ sizeLine; decide, fun c0 nc0 => ?_⟩⟩
  have s4 : Same H3 (upd H3 c0 (.tup [.int (v2 : Nat)])) := same_new nc0
  refine ⟨_, rfl, S, 4, rfl, by omega, by omega, hS3.same s4, fun v3 H5 hv3 s5 hS5 => ?_⟩
  have sA := ((s1.trans s2).trans s3).trans ((toS s4).trans s5)
  refine ⟨_, rfl, by omega, by omega, for_range (n := v3) (wCl K S (1 + v1) H) ⟨c0, .var v2, none, none, rfl, sA, hS5, (hS3.same s4).t s5 (.inl (.inl upd_same)), Pl.var v2, Nat.le_refl _, by show v2 ≤ 20; omega⟩ (fun i σ H' hi h => ?_) (fun σ H' h => ?_)⟩
  · rw [Int.zero_add]
    obtain ⟨c, t, y3, y4, rfl, sm, hSt, hT, hP, hz, hv⟩ := h
    refine ⟨_, rfl, _, rfl, S, 1 + v1, rfl, by omega, by omega, hSt, fun v H1' hv' t1 hSt1 => ⟨by show 1 ≤ sizeLine; decide, fun o no => ?_⟩⟩
    have t2 : Same H1' (upd H1' o (.tup [.int (v : Nat)])) := same_new no
    have hSt2 := hSt1.same t2
    have hO : SqT K (upd H1' o (.tup [.int (v : Nat)])) o (flat (.var v)) := .inl (.inl upd_same)
    have hT2 := same_t t2 (hSt.t t1 hT)
    have sB := (sm.trans t1).trans (toS t2)
    generalize upd H1' o (.tup [.int (v : Nat)]) = H2' at t2 hSt2 hO hT2 sB ⊢
    refine ⟨_, rfl, S, 2, rfl, by omega, by omega, hSt2, fun v5 H3' hv5 t3 hSt3 => ⟨rfl, _, rfl, ?_⟩⟩
    have hO3 := hSt2.t t3 hO
    have hT3 := hSt2.t t3 hT2
    refine ite_b (fun _ => ?_) (fun _ => ?_)
    · refine ⟨by show 1 ≤ sizeLine; decide, fun p np => ?_⟩
      have t4 : Same H3' (upd H3' p (.tup [.str "app"])) := same_new np
      refine ⟨_, rfl, cat_two (.inl (.inl upd_same)) (same_t t4 hT3) (by show 1 + sz t ≤ _; omega) fun p2 H5' t5 h5 => ?_⟩
      have t45 := t4.trans t5
      have lt3 : ([V.str "app"] ++ flat t).length = 1 + sz t := by rw [List.length_append]; rfl
      refine ⟨_, rfl, cat_two h5 (same_t t45 hO3) (by rw [lt3]; show 1 + sz t + 1 ≤ _; omega) fun p3 H6' t6 h6 => ?_⟩
      have t46 := t45.trans t6
      exact ⟨p3, .app t (.var v), _, _, rfl, (sB.trans t3).trans (toS t46), hSt3.same t46, h6, hP.app (Pl.var v), by rw [sz_app]; show sz t + 1 + 1 ≤ _; omega, ⟨hv, by show v ≤ 20; omega⟩⟩
    · refine ⟨by show 1 ≤ sizeLine; decide, fun p np => ?_⟩
      have t4 : Same H3' (upd H3' p (.tup [.str "app"])) := same_new np
      refine ⟨_, rfl, cat_two (.inl (.inl upd_same)) (same_t t4 hO3) (by show 1 + 1 ≤ _; omega) fun p2 H5' t5 h5 => ?_⟩
      have t45 := t4.trans t5
      refine ⟨_, rfl, cat_two h5 (same_t t45 hT3) (by show 2 + sz t ≤ _; omega) fun p3 H6' t6 h6 => ?_⟩
      have t46 := t45.trans t6
      exact ⟨p3, .app (.var v) t, _, _, rfl, (sB.trans t3).trans (toS t46), hSt3.same t46, h6, (Pl.var v).app hP, by rw [sz_app]; show 1 + sz t + 1 ≤ _; omega, ⟨by show v ≤ 20; omega, hv⟩⟩
  · obtain ⟨c, t, y3, y4, rfl, sm, hSt, hT, hP, hz, hv⟩ := h
    refine ⟨by show 1 ≤ sizeLine; decide, fun p np => ?_⟩
    have t4 : Same H' (upd H' p (.tup [.str "lam"])) := same_new np
    have e4 : SqT K (upd H' p (.tup [.str "lam"])) p [.str "lam"] := .inl (.inl upd_same)
    generalize upd H' p (.tup [.str "lam"]) = H4 at t4 e4
    have fin : ∀ (p1 : Addr) (H5 : Hp), Same H4 H5 → SqT K H5 p1 (List.replicate (1 + v1) (V.str "lam")) → rCatA K (.ref p1) (.ref c) H5 Q := fun p1 H5 t5 h5 =>
      cat_two h5 (same_t (t4.trans t5) hT) (by rw [List.length_replicate]; show 1 + v1 + sz t ≤ _; omega) fun p3 H6 t6 h6 => by
        have t46 := (t4.trans t5).trans t6
        rw [← lams_flat] at h6
        exact q p3 (lams (1 + v1) t) H6 (sm.trans (toS t46)) (hSt.same t46) h6 (lams_pl hP _) (by rw [lams_sz]; omega) (lams_vb hv _)
    refine ⟨_, rfl, ?_⟩
    by_cases h1 : v1 = 0
    · subst h1
      exact .inl ⟨p, _, rfl, rfl, e4, _, rfl, fin p H4 (Same.refl _) e4⟩
    · refine .inr ⟨p, _, _, rfl, rfl, e4, (fun z => nomatch z), by omega, by omega, by show 1 ≤ 1000; decide, fun p1 n1 => ⟨_, rfl, fin p1 _ (same_new n1) (.inl (.inl ?_))⟩⟩
      rw [upd_same]
      have e : ∀ n, (List.replicate n [V.str "lam"]).flatten = List.replicate n (V.str "lam") := fun n => by
        induction n with
        | zero => rfl
        | succ n ih => rw [List.replicate_succ, List.flatten_cons, ih]; rfl
      rw [e, Int.toNat_natCast]
/-! ### _law_rich -/
theorem sc_law_rich : FnScope ["_law_stream_here", "_law_size", "_law_pick", "_law_half"] ["_law_stream_here", "_law_size"] (defScope (topS 47)) := ⟨rfl, rfl, rfl, by decide +kernel, rfl, by decide +kernel, by decide +kernel⟩
def spRi (K : PySem.W.Frag) (n : Nat) : Sp := fun vs H Q _ => ∃ (S : Addr) (z : Nat), vs = [.ref S, .int (z : Nat)] ∧ Strm K H S ∧ 1 ≤ z ∧ z ≤ n ∧ z ≤ 100 ∧ RD K S (35 * z - 1) 20 H Q
theorem ok_law_rich {n : Nat} (F : Fun K "_law_rich" "_law_rich" (topS 47) f fd) (Z : Glb K mg) (D_law_draw : Df P w K mg base CX0 1 "_law_draw" ["_law_stream_here", "_law_many"] (spDr K)) (D_law_closed_term : Df P w K mg base CX0 2 "_law_closed_term" ["_law_stream_here"] (spCl K))
    (D_law_term : Df P w K mg base CX0 13 "_law_term" ["_law_stream_here", "_law_size", "_law_depth"] (spTm K 12)) (D_law_rich : Df P w K mg base CX0 (n + 14) "_law_rich" ["_law_stream_here", "_law_size"] (spRi K n)) :
    FnOk P w K mg base CX0 (n + 15) f fd ["_law_stream_here", "_law_size"] (spRi K (n + 1)) := by
  refine F.ok sc_law_rich (fun vs H Q E h => ?_) (fun cdv A outer st H vs Q E hr h => ?_)
  · obtain ⟨S, z, rfl, _⟩ := h
    rfl
  obtain ⟨S, z, rfl, hS, h1, h2, h3, q⟩ := h
  refine ⟨_, (pss_cons (ps_set (i := 2) sc_law_rich.nd rfl (.inl rfl) (pe_callD D_law_draw (hr.mono (by omega)) (by rfl) pass0 (pa_cons (pv 0) (pa_cons pe_int pa_nil))))
      (pss_cons (ps_if (PW.pt (pw_or (pt_cmpR op_lt (pv 1) pe_int (nomark _)) (pw_or1 (pt_cmpR op_eq (pv 2) pe_int (nomark _))))) (pss_one (ps_ret (pe_callD D_law_closed_term (hr.mono (by omega)) (by rfl) pass0 (pa_cons (pv 0) pa_nil)))) pss_nil)
      (pss_cons (ps_if (pt_cmpR op_eq (pv 2) pe_int (nomark _)) (pss_one (ps_ret (pe_callD D_law_term (hr.mono (by omega)) (by rfl) pass0 (pa_cons (pv 0) (pa_cons (pe_op op_add pe_int (pe_callD D_law_draw (hr.mono (by omega)) (by rfl) pass0 (pa_cons (pv 0) (pa_cons pe_int pa_nil)))) (pa_cons pe_int pa_nil)))))) pss_nil)
      (pss_cons (ps_if (PW.pt (pw_and (pt_cmpR op_eq (pv 2) pe_int (nomark _)) (pw_and1 (pt_cmpR op_gt (pv 1) pe_int (nomark _))))) (pss_one (ps_ret (pe_op op_catA (pe_tup (pa_cons pe_str pa_nil)) (pe_callD D_law_rich (hr.mono (by omega)) (by rfl) pass0 (pa_cons (pv 0) (pa_cons (pe_op op_sub (pv 1) pe_int) pa_nil)))))) pss_nil)
      (pss_cons (ps_set (i := 3) sc_law_rich.nd rfl (.inl rfl) (pe_op op_add pe_int (pe_callD D_law_draw (hr.mono (by omega)) (by rfl) pass0 (pa_cons (pv 0) (pa_cons (pe_op op_sub (pv 1) pe_int) pa_nil)))))
      (pss_one (ps_ret (pe_op op_catA (pe_op op_catA (pe_tup (pa_cons pe_str pa_nil)) (pe_callD D_law_rich (hr.mono (by omega)) (by rfl) pass0 (pa_cons (pv 0) (pa_cons (pv 3) pa_nil)))) (pe_callD D_law_rich (hr.mono (by omega)) (by rfl) pass0 (pa_cons (pv 0) (pa_cons (pe_op op_sub (pv 1) (pv 3)) pa_nil))))))))))), ?_⟩
  refine ⟨_, rfl, S, 4, rfl, by omega, by omega, hS, fun pick H1 hp s1 hS1 => ?_⟩
  have closed : spCl K [.ref S] H1 Q E0 := ⟨S, rfl, hS1, fun p t H' s2 hS2 ht hP hz hv => q p t H' (s1.trans s2) hS2 ht hP (by omega) hv⟩
  refine ⟨_, rfl, _, _, rfl, rfl, _, rfl, ?_⟩
  refine ite_b (fun c => iteT ⟨_, rfl, closed⟩) (fun c => ⟨_, rfl, rfl, _, rfl, ite_b (fun c1 => ⟨_, rfl, closed⟩) (fun c1 => ?_)⟩)
  have hz2 : ¬ (z : Int) < 2 := of_decide_eq_false c
  refine ⟨_, rfl, rfl, _, rfl, ite_b (fun c2 => ?_) (fun c2 => ?_)⟩
  · refine ⟨_, rfl, _, rfl, S, 12, rfl, by omega, by omega, hS1, fun v H2 hv s2 hS2 => ⟨_, _, rfl, rfl, ?_⟩⟩
    exact ⟨S, 1 + v, 0, rfl, hS2, by omega, by omega, by omega, fun p t H' s3 hS3 ht hP hz hvb => q p t H' ((s1.trans s2).trans s3) hS3 ht hP (by omega) (vb_mono (by omega) t hvb)⟩
  refine ⟨_, rfl, rfl, _, rfl, ite_b (fun c3 => ⟨_, rfl, _, _, rfl, rfl, _, rfl, ite_b (fun c4 => ?_) (fun c4 => ?_)⟩) (fun c3 => iteF ?_)⟩
  · refine ⟨by show 1 ≤ sizeLine; decide, fun p np => ?_⟩
    have s2 : Same H1 (upd H1 p (.tup [.str "lam"])) := same_new np
    refine ⟨_, rfl, _, rfl, _, _, rfl, rfl, S, z - 1, congrArg (fun x : Int => [V.ref S, V.int x]) (show (z : Int) - 1 = ((z - 1 : Nat) : Int) by omega), hS1.same s2, by omega, by omega, by omega, fun p2 t H2 s3 hS2 ht hP hz hv => ?_⟩
    refine cat_two ((hS1.same s2).t s3 (.inl (.inl upd_same))) ht (by show 1 + sz t ≤ _; omega) fun p3 H3 s4 h3' => ?_
    exact q p3 (.lam (.str "lam") t) H3 (((s1.trans (toS s2)).trans s3).trans (toS s4)) (hS2.same s4) h3' hP.lam (by rw [sz_lam]; omega) hv
  all_goals
    refine ⟨_, rfl, _, rfl, _, _, rfl, rfl, S, z - 1, congrArg (fun x : Int => [V.ref S, V.int x]) (show (z : Int) - 1 = ((z - 1 : Nat) : Int) by omega), by omega, by omega, hS1, fun v H2 hv s2 hS2 => ⟨_, _, rfl, rfl, ?_⟩⟩
    have s12 := s1.trans s2
    refine ⟨by show 1 ≤ sizeLine; decide, fun p np => ?_⟩
    have s3 : Same H2 (upd H2 p (.tup [.str "app"])) := same_new np
    refine ⟨_, rfl, _, rfl, S, 1 + v, rfl, hS2.same s3, by omega, by omega, by omega, fun p2 t H3 s4 hS3 ht hP hz hvb => ?_⟩
    refine cat_two ((hS2.same s3).t s4 (.inl (.inl upd_same))) ht (by show 1 + sz t ≤ _; omega) fun p3 H4 s5 h3' => ?_
    have hS4 := hS3.same s5
    refine ⟨_, rfl, _, rfl, _, rfl, _, _, rfl, rfl, S, z - (1 + v), congrArg (fun x : Int => [V.ref S, V.int x]) (show (z : Int) - (1 + (v : Nat)) = ((z - (1 + v) : Nat) : Int) by omega), hS4, by omega, by omega, by omega, fun p4 u H5 s6 hS5 hu hPu hzu hvu => ?_⟩
    have lt3 : ([V.str "app"] ++ flat t).length = 1 + sz t := by rw [List.length_append]; rfl
    refine cat_two (hS4.t s6 h3') hu (by rw [lt3]; show 1 + sz t + sz u ≤ _; omega) fun p5 H6 s7 h5' => ?_
    exact q p5 (.app t u) H6 (((((s12.trans (toS s3)).trans s4).trans (toS s5)).trans s6).trans (toS s7)) (hS5.same s7) h5' (hP.app hPu) (by rw [sz_app]; omega) ⟨hvb, hvu⟩
theorem rich_all (F : Fun K "_law_rich" "_law_rich" (topS 47) f fd) (Z : Glb K mg) (D_law_draw : Df P w K mg base CX0 1 "_law_draw" ["_law_stream_here", "_law_many"] (spDr K)) (D_law_closed_term : Df P w K mg base CX0 2 "_law_closed_term" ["_law_stream_here"] (spCl K))
    (D_law_term : Df P w K mg base CX0 13 "_law_term" ["_law_stream_here", "_law_size", "_law_depth"] (spTm K 12)) (hb : Binds K fd ["_law_stream_here", "_law_size"] []) (hm : mg "_law_rich" = some (.ref f)) (hk : PySem.W.keepIn K (.ref f) = true) :
    ∀ n, FnOk P w K mg base CX0 (n + 14) f fd ["_law_stream_here", "_law_size"] (spRi K n)
  | 0 => by
    have no : ∀ vs H Q E, ¬ spRi K 0 vs H Q E := fun vs H Q E h => by
      obtain ⟨S, z, _, _, h1, h2, _⟩ := h
      omega
    exact ⟨fun vs H Q E h => absurd h (no vs H Q E), fun A outer s H args us vs Q E _ _ _ _ h => absurd h (no vs H Q E)⟩
  | n + 1 => ok_law_rich F Z D_law_draw D_law_closed_term D_law_term ⟨f, fd, rich_all F Z D_law_draw D_law_closed_term D_law_term hb hm hk n, hb, hm, hk⟩
end
end Lyd

set_option Elab.async false
set_option linter.all false
set_option maxRecDepth 100000
set_option maxHeartbeats 1000000
namespace Lyd
open PySem PySem.Spec PyProof.Rows L2
/-- no term of the road has more than 150 nodes before its step -/
def Wk : T → List Place → Prop
  | _, [] => True
  | t, p :: r => sz t ≤ 150 ∧ ∃ u, step t p = some u ∧ Wk u r
theorem Wk.snoc : ∀ {r : List Place} {t u v : T} {p : Place}, Wk t r → follow_ t r = some u → sz u ≤ 150 → step u p = some v → Wk t (r ++ [p])
  | [], t, u, v, p, _, h, hz, hs => by
    cases h
    exact ⟨hz, v, hs, True.intro⟩
  | q :: r, t, u, v, p, h, hf, hz, hs => by
    obtain ⟨h1, t', h2, h3⟩ := h
    obtain ⟨t2, e, hf'⟩ := follow_cons hf
    rw [h2] at e
    cases e
    exact ⟨h1, t', h2, h3.snoc hf' hz hs⟩
theorem follow_snoc {r : List Place} {t u v : T} {p : Place} (h : follow_ t r = some u) (hs : step u p = some v) : follow_ t (r ++ [p]) = some v := by
  rw [follow_append, h]
  show (step u p).bind (fun z => some z) = _
  rw [hs]
  rfl
/-- .. nor more than 1000 after it -/
def Ft : T → List Place → Prop
  | _, [] => True
  | t, p :: r => ∃ u, step t p = some u ∧ sz u ≤ 1000 ∧ Ft u r
theorem Ft.snoc : ∀ {r : List Place} {t u v : T} {p : Place}, Ft t r → follow_ t r = some u → step u p = some v → sz v ≤ 1000 → Ft t (r ++ [p])
  | [], t, u, v, p, _, h, hs, hz => by
    cases h
    exact ⟨v, hs, hz, True.intro⟩
  | q :: r, t, u, v, p, h, hf, hs, hz => by
    obtain ⟨t', h2, h1, h3⟩ := h
    obtain ⟨t2, e, hf'⟩ := follow_cons hf
    rw [h2] at e
    cases e
    exact ⟨t', h2, h1, h3.snoc hf' hs hz⟩
theorem Ft.fits : ∀ {r : List Place} {t : T} {N : Nat}, Ft t r → sz t ≤ 1000 → vb N t → N + 1000 * r.length ≤ 1000000 → Fits t r
  | [], _, _, _, _, _, _ => True.intro
  | p :: r, t, N, h, hz, hv, hN => by
    obtain ⟨u, h1, h2, h3⟩ := h
    rw [List.length_cons] at hN
    have hvu : vb (N + 1000) u := vb_mono (by omega) u (vb_step p t u h1 hv)
    refine ⟨u, h1, fun hb => ?_, h3.fits h2 hvu (by omega)⟩
    rcases hb with hb | hb
    · omega
    · exact hb (vb_mono (by omega) u hvu)
section
variable {P : Program} {w : World} {K : PySem.W.Frag} {mg : Str → Option Value} {base : Heap} {f CT CO : Addr} {fd : FuncData}
/-! ### _law_road -/
theorem sc_law_road : FnScope ["_law_stream_here", "_law_term_here", "_law_many", "_law_road_here", "_law_k", "_law_rows", "_law_place"] ["_law_stream_here", "_law_term_here", "_law_many"] (defScope (topS 48)) := ⟨rfl, rfl, rfl, by decide +kernel, rfl, by decide +kernel, by decide +kernel⟩
def spRo (K : PySem.W.Frag) : Sp := fun vs H Q _ => ∃ (S a : Addr) (t : T) (n : Nat), vs = [.ref S, .ref a, .int (n : Nat)] ∧ Strm K H S ∧ SqT K H a (flat t) ∧ Pl t ∧ sz t ≤ 22500 ∧ n ≤ 100 ∧
  ∀ (l : Addr) (r : List Place) (H' : Hp), SameS S H H' → Strm K H' S → H l = none → H' l = some (.lst (roV r)) → Wk t r → r.length ≤ n → Q (.ref l) H'
def wRo (K : PySem.W.Frag) (S ro : Addr) (t : T) (n : Nat) (H : Hp) : Nat → L2.St → Hp → Prop := fun i σ H' => ∃ (c : Addr) (u : T) (r : List Place) (y4 y5 y6 : Option V), σ = [some (.ref S), some (.ref c), some (.int (n : Nat)), some (.ref ro), y4, y5, y6] ∧
  SameS S H H' ∧ Strm K H' S ∧ H' ro = some (.lst (roV r)) ∧ r.length ≤ i ∧ SqT K H' c (flat u) ∧ Pl u ∧ sz u ≤ 22500 ∧ follow_ t r = some u ∧ Wk t r
theorem ok_law_road (F : Fun K "_law_road" "_law_road" (topS 48) f fd) (Z : Glb K mg) (D_law_redexes : Df P w K mg base CX0 3 "_law_redexes" ["_law_term_here"] (spRds K)) (D_law_draw : Df P w K mg base CX0 1 "_law_draw" ["_law_stream_here", "_law_many"] (spDr K))
    (D_law_step : Df P w K mg base CX0 5 "_law_step" ["_law_term_here", "_law_place"] (spLSt K)) : FnOk P w K mg base CX0 6 f fd ["_law_stream_here", "_law_term_here", "_law_many"] (spRo K) := by
  refine F.ok sc_law_road (fun vs H Q E h => ?_) (fun cdv A outer st H vs Q E hr h => ?_)
  · obtain ⟨S, a, t, n, rfl, _⟩ := h
    rfl
  obtain ⟨S, a, t, n, rfl, hS, hT, hP, hz, hn, q⟩ := h
  refine ⟨_, (pss_cons (ps_set (i := 3) sc_law_road.nd rfl (.inl rfl) (pe_lst pa_nil))
      (pss_cons (ps_for PassesOwn.never rfl (pi_range1 (by rfl) Z.rng (pa_cons (pv 2) pa_nil)) (pg_name (i := 4) sc_law_road.nd rfl (.inl rfl)) (pss_cons (ps_set (i := 5) sc_law_road.nd rfl (.inl rfl) (pe_callD D_law_redexes (room_in hr) (by rfl) pass0 (pa_cons (pv 1) pa_nil)))
      (pss_cons (ps_if (PW.pt (pw_or (pt_cmpR op_eq (pe_callB call_len_seq (by rfl) Z.len PySem.boot_len (pa_cons (pv 5) pa_nil)) pe_int (nomark _)) (pw_or1 (pt_cmpR op_gt (pe_callB call_len_seq (by rfl) Z.len PySem.boot_len (pa_cons (pv 1) pa_nil)) pe_int (nomark _))))) (pss_one (ps_ret (pv 3))) pss_nil)
      (pss_cons (ps_set (i := 6) sc_law_road.nd rfl (.inl rfl) (pe_ix ix_list (pv 5) (pe_callD D_law_draw (room_in hr) (by rfl) pass0 (pa_cons (pv 0) (pa_cons (pe_callB call_len_seq (by rfl) Z.len PySem.boot_len (pa_cons (pv 5) pa_nil)) pa_nil))) (fun _ _ => rfl)))
      (pss_cons (ps_expr (pe_bm PySem.F.plainAttrs_list PySem.F.slot_list_append PySem.F.type_list_append mt_append (pv 3) (pa_cons (pv 6) pa_nil)))
      (pss_one (ps_set (i := 1) sc_law_road.nd rfl (.inl rfl) (pe_callD D_law_step (room_in hr) (by rfl) pass0 (pa_cons (pv 1) (pa_cons (pv 6) pa_nil))))))))))
      (pss_one (ps_ret (pv 3))))), ?_⟩
  refine ⟨Nat.zero_le _, fun ro nro => ?_⟩
  have s1 : Same H (upd H ro (.lst [])) := same_new nro
  have roS : ro ≠ S := by
    obtain ⟨ys, e⟩ := hS.at
    exact (ne_of_none e nro).symm
  have fin : ∀ (r : List Place) (i : Nat) (H' : Hp), SameS S H H' → Strm K H' S → H' ro = some (.lst (roV r)) → r.length ≤ i → i ≤ n → Wk t r → Q (.ref ro) H' := fun r i H' sm hSt ero hl hi hw => q ro r H' sm hSt nro ero hw (by omega)
  refine ⟨_, rfl, _, rfl, by omega, by omega, for_range (n := n) (wRo K S ro t n H) ⟨a, t, [], none, none, none, rfl, toS s1, hS.same s1, upd_same, Nat.le_refl _, same_t s1 hT, hP, hz, rfl, True.intro⟩ (fun i σ H' hi h => ?_) (fun σ H' h => ?_)⟩
  · rw [Int.zero_add]
    obtain ⟨c, u, r, y4, y5, y6, rfl, sm, hSt, ero, hl, hc, hPu, hzu, hf, hw⟩ := h
    refine ⟨_, rfl, c, u, rfl, hc, hPu.tmk, by omega, fun rl H1 nrl s2 erl => ?_⟩
    have hSt1 := hSt.same s2
    have sm1 := sm.trans (toS s2)
    have ero1 := s2 _ _ ero
    have hc1 := same_t s2 hc
    refine ⟨_, rfl, rl, _, rfl, .inl (.inl (.inl erl)), rfl, _, rfl, ite_b (fun c1 => iteT ⟨_, rfl, fin r i H1 sm1 hSt1 ero1 hl (by omega) hw⟩) (fun c1 => ?_)⟩
    refine ⟨_, rfl, c, _, rfl, .inr hc1, _, _, rfl, rfl, _, rfl, ite_b (fun c2 => ⟨_, rfl, fin r i H1 sm1 hSt1 ero1 hl (by omega) hw⟩) (fun c2 => ?_)⟩
    have hz2 : ¬ (150 : Int) < ((flat u).length : Nat) := of_decide_eq_false c2
    have hz3 : sz u ≤ 150 := by show (flat u).length ≤ 150; omega
    have hne : (rdV u).length ≠ 0 := fun z => by
      rw [z] at c1
      cases c1
    have hlr : (rdV u).length ≤ 150 := by
      have e : (rdV u).length = (fnd (fun p _ => eP p) u (flat u).length).length := by rw [fnd_all]
      rw [e]
      exact Nat.le_trans fnd_len hz3
    refine ⟨_, rfl, _, rfl, _, rfl, rl, _, rfl, .inl (.inl (.inl erl)), S, (rdV u).length, rfl, by omega, by omega, hSt1, fun v H2 hv s3 hSt2 => ?_⟩
    have rlS : rl ≠ S := by
      obtain ⟨ys, e⟩ := hSt.at
      exact (ne_of_none e nrl).symm
    have erl2 : H2 rl = some (.lst (rdV u)) := s3.1 _ _ rlS erl
    have hv' : v < (rdx u).length := by rw [List.length_map] at hv; exact hv
    have hgx : (rdx u)[v]? = some (rdx u)[v] := List.getElem?_eq_getElem hv'
    generalize (rdx u)[v] = x at hgx
    obtain ⟨p, m⟩ := x
    have hg : (rdV u)[v]? = some (eP p) := by rw [List.getElem?_map, hgx]; rfl
    obtain ⟨u2, hu2⟩ := step_some u p m (List.mem_of_getElem? hgx)
    refine ⟨_, _, _, _, rfl, rfl, .inl (.inl erl2), atI_nat hg, ?_⟩
    have ero2 : H2 ro = some (.lst (roV r)) := s3.1 _ _ roS ero1
    have sm2 := sm1.trans s3
    have hlr2 : (roV r).length ≤ 100 := by rw [List.length_map]; omega
    refine ⟨.ref ro, rfl, .inl ⟨rfl, _, .inl (.inl ero2)⟩, _, rfl, ro, _, _, rfl, rfl, ero2, line_of (by omega), ?_⟩
    have hc3 : SqT K (upd H2 ro (.lst (roV r ++ [eP p]))) c (flat u) := sq_upd (hSt1.t s3 hc1) ero2 (fun _ z => nomatch z) (fun _ _ z => nomatch z)
    have sm3 : SameS S H (upd H2 ro (.lst (roV r ++ [eP p]))) := sm2.mut nro roS
    have hSt3 : Strm K (upd H2 ro (.lst (roV r ++ [eP p]))) S := hS.mut sm2 hSt2 nro roS
    have ero3 : (upd H2 ro (.lst (roV r ++ [eP p]))) ro = some (.lst (roV (r ++ [p]))) := by
      rw [upd_same]
      show _ = some (HO.lst ((r ++ [p]).map eP))
      rw [List.map_append]
      rfl
    generalize upd H2 ro (.lst (roV r ++ [eP p])) = H3 at hc3 sm3 hSt3 ero3 ⊢
    refine ⟨_, rfl, _, rfl, c, u, u2, p, rfl, hc3, hPu.tmk, by omega, hu2, fun p4 H4 s4 h4 => ?_⟩
    exact ⟨p4, u2, r ++ [p], _, _, _, rfl, sm3.trans (toS s4), hSt3.same s4, s4 _ _ ero3, by rw [List.length_append]; show r.length + 1 ≤ i + 1; omega, h4, hPu.step hu2, Nat.le_trans (sz_step hu2) (Nat.mul_le_mul hz3 hz3), follow_snoc hf hu2, hw.snoc hf hz3 hu2⟩
  · obtain ⟨c, u, r, y4, y5, y6, rfl, sm, hSt, ero, hl, hc, hPu, hzu, hf, hw⟩ := h
    exact ⟨_, rfl, fin r n H' sm hSt ero hl (Nat.le_refl _) hw⟩
/-! ### _law_passed -/
theorem sc_law_passed : FnScope ["_law_term_here", "_law_road_here", "_law_found", "_law_place"] ["_law_term_here", "_law_road_here"] (defScope (topS 49)) := ⟨rfl, rfl, rfl, by decide +kernel, rfl, by decide +kernel, by decide +kernel⟩
/-- tuples that hold terms -/
def Tps (K : PySem.W.Frag) (H : Hp) : List T → List V → Prop := Paired fun t v => ∃ c, v = .ref c ∧ SqT K H c (flat t) ∧ Pl t
def spPa (K : PySem.W.Frag) : Sp := fun vs H Q _ => ∃ (a l : Addr) (t : T) (r : List Place), vs = [.ref a, .ref l] ∧ SqT K H a (flat t) ∧ SqL K H l (roV r) ∧ Pl t ∧ Wk t r ∧ r.length ≤ 1000 ∧ (∀ H', Same H H' → Q (.str "large") H') ∧
  ∀ (p : Addr) (ts : List T) (xs : List V) (n : T) (H' : Hp), Same H H' → H' p = some (.lst xs) → Tps K H' ts xs → ts[ts.length - 1]? = some n → ts.length ≤ 2000 → 1 ≤ ts.length → follow_ t r = some n → Ft t r → Q (.ref p) H'
def wPa (K : PySem.W.Frag) (l fo : Addr) (t : T) (r : List Place) (H : Hp) : Nat → L2.St → Hp → Prop := fun i σ H' => ∃ (c : Addr) (u : T) (ts : List T) (xs : List V) (y3 : Option V), σ = [some (.ref c), some (.ref l), some (.ref fo), y3] ∧ Same H H' ∧
  H' fo = some (.lst xs) ∧ Tps K H' ts xs ∧ ts.length = i + 1 ∧ ts[i]? = some u ∧ SqT K H' c (flat u) ∧ Pl u ∧ follow_ t (r.take i) = some u ∧ Wk u (r.drop i) ∧ Ft t (r.take i)
theorem Tps.mono {K : PySem.W.Frag} {H H' : Hp} {ts : List T} {xs : List V} (h : Tps K H ts xs) (k : ∀ a ys, SqT K H a ys → SqT K H' a ys) : Tps K H' ts xs := Paired.mapP h fun t v ⟨c, e, h1, h2⟩ => ⟨c, e, k _ _ h1, h2⟩
theorem Tps.snoc {K : PySem.W.Frag} {H : Hp} {ts : List T} {xs : List V} {t : T} {c : Addr} (h : Tps K H ts xs) (e : SqT K H c (flat t)) (hP : Pl t) : Tps K H (ts ++ [t]) (xs ++ [.ref c]) := by
  induction h with
  | nil => exact .cons ⟨c, rfl, e, hP⟩ .nil
  | cons r _ ih => exact .cons r ih
theorem Tps.at {K : PySem.W.Frag} {H : Hp} {ts : List T} {xs : List V} (h : Tps K H ts xs) : ∀ {i : Nat} {t : T}, ts[i]? = some t → ∃ c, xs[i]? = some (.ref c) ∧ SqT K H c (flat t) ∧ Pl t := by
  induction h with
  | nil => intro i t e; simp at e
  | cons r _ ih =>
    intro i t e
    cases i with
    | zero =>
      cases Option.some.inj e
      obtain ⟨c, e, h1, h2⟩ := r
      exact ⟨c, by rw [e]; rfl, h1, h2⟩
    | succ i => exact ih (i := i) e
theorem Tps.len {K : PySem.W.Frag} {H : Hp} {ts : List T} {xs : List V} (h : Tps K H ts xs) : ts.length = xs.length := Paired.length h
theorem ok_law_passed (F : Fun K "_law_passed" "_law_passed" (topS 49) f fd) (Z : Glb K mg) (D_law_redexes : Df P w K mg base CX0 3 "_law_redexes" ["_law_term_here"] (spRds K)) (D_law_step : Df P w K mg base CX0 5 "_law_step" ["_law_term_here", "_law_place"] (spLSt K)) :
    FnOk P w K mg base CX0 6 f fd ["_law_term_here", "_law_road_here"] (spPa K) := by
  refine F.ok sc_law_passed (fun vs H Q E h => ?_) (fun cdv A outer st H vs Q E hr h => ?_)
  · obtain ⟨a, l, t, r, rfl, _⟩ := h
    rfl
  obtain ⟨a, l, t, r, rfl, hT, hL, hP, hw, hrl, q1, q2⟩ := h
  refine ⟨_, (pss_cons (ps_set (i := 2) sc_law_passed.nd rfl (.inl rfl) (pe_lst (pa_cons (pv 0) pa_nil)))
      (pss_cons (ps_for PassesOwn.never rfl (pi_list (pv 1)) (pg_name (i := 3) sc_law_passed.nd rfl (.inl rfl)) (pss_cons (ps_if (pt_cmpR op_notIn_seq (pv 3) (pe_callD D_law_redexes (room_in hr) (by rfl) pass0 (pa_cons (pv 0) pa_nil)) rfl) (pss_one (ps_ret pe_str)) pss_nil)
      (pss_cons (ps_set (i := 0) sc_law_passed.nd rfl (.inl rfl) (pe_callD D_law_step (room_in hr) (by rfl) pass0 (pa_cons (pv 0) (pa_cons (pv 3) pa_nil))))
      (pss_cons (ps_if (pt_cmpR op_gt (pe_callB call_len_seq (by rfl) Z.len PySem.boot_len (pa_cons (pv 0) pa_nil)) pe_int (nomark _)) (pss_one (ps_ret pe_str)) pss_nil)
      (pss_one (ps_expr (pe_bm PySem.F.plainAttrs_list PySem.F.slot_list_append PySem.F.type_list_append mt_append (pv 2) (pa_cons (pv 0) pa_nil))))))))
      (pss_one (ps_ret (pv 2))))), ?_⟩
  refine ⟨_, rfl, by show 1 ≤ sizeLine; decide, fun fo nf => ?_⟩
  have s1 : Same H (upd H fo (.lst [.ref a])) := same_new nf
  have hTp : Tps K (upd H fo (.lst [.ref a])) [t] [.ref a] := .cons ⟨a, rfl, same_t s1 hT, hP⟩ .nil
  refine ⟨_, rfl, l, rfl, ⟨_, s1.seq hL⟩, for_list (xs := roV r) (wPa K l fo t r H) ⟨a, t, [t], [.ref a], none, rfl, s1, upd_same, hTp, rfl, rfl, same_t s1 hT, hP, rfl, hw, True.intro⟩ (fun i σ H' _ h => ?_) (fun i x σ H' hx h => ?_) (fun σ H' h => ?_)⟩
  · obtain ⟨_, _, _, _, _, _, sm, _⟩ := h
    exact sm.seq hL
  · obtain ⟨c, u, ts, xs, y3, rfl, sm, ef, hTs, hlen, hti, hc, hPu, hfu, hwu, hft⟩ := h
    rw [List.getElem?_map] at hx
    cases e : r[i]? with
    | none => rw [e] at hx; cases hx
    | some p =>
      rw [e] at hx
      cases Option.some.inj hx
      have hi : i < r.length := (List.getElem?_eq_some_iff.mp e).1
      rw [drop_cons e] at hwu
      obtain ⟨hz, v, hv, hwv⟩ := hwu
      obtain ⟨m, hm⟩ := some_step hv
      refine ⟨_, rfl, _, rfl, c, u, rfl, hc, hPu.tmk, by omega, fun rl H1 nrl s2 erl => ?_⟩
      refine ⟨rl, _, rfl, .inl (.inl (.inl erl)), rfl, ?_, _, rfl, ?_⟩
      · rw [List.all_eq_true]
        intro y hy
        obtain ⟨z, _, rfl⟩ := List.mem_map.mp hy
        rfl
      have hin : inV (eP p) (rdV u) = true := List.any_eq_true.mpr ⟨eP p, List.mem_map.mpr ⟨(p, m), hm, rfl⟩, beq_self_eq_true (plS p)⟩
      show if (!inV (eP p) (rdV u)) = true then _ else _
      rw [hin]
      refine iteF ?_
      have hc1 := same_t s2 hc
      refine ⟨_, rfl, _, rfl, c, u, v, p, rfl, hc1, hPu.tmk, by omega, hv, fun c2 H2 s3 hc2 => ?_⟩
      have s23 := s2.trans s3
      have sm2 := sm.trans s23
      refine ⟨_, rfl, c2, _, rfl, .inr hc2, _, _, rfl, rfl, _, rfl, ite_b (fun _ => q1 H2 sm2) (fun cc => ?_)⟩
      have hz2 : ¬ (1000 : Int) < ((flat v).length : Nat) := of_decide_eq_false cc
      have hz3 : sz v ≤ 1000 := by show (flat v).length ≤ 1000; omega
      have ef2 := s23 _ _ ef
      have lx := hTs.len
      refine ⟨.ref fo, rfl, .inl ⟨rfl, _, .inl (.inl ef2)⟩, _, rfl, fo, _, _, rfl, rfl, ef2, line_of (by omega), ?_⟩
      have keep : ∀ a ys, SqT K H2 a ys → SqT K (upd H2 fo (.lst (xs ++ [.ref c2]))) a ys := fun a ys h => sq_upd h ef2 (fun _ z => nomatch z) (fun _ _ z => nomatch z)
      have hc4 := keep _ _ hc2
      have hT4 : Tps K (upd H2 fo (.lst (xs ++ [.ref c2]))) (ts ++ [v]) (xs ++ [.ref c2]) := (hTs.mono fun a ys h => keep _ _ (same_t s23 h)).snoc hc4 (hPu.step hv)
      refine ⟨c2, v, ts ++ [v], xs ++ [.ref c2], _, rfl, same_mut sm2 nf, upd_same, hT4, by rw [List.length_append, hlen]; rfl, ?_, hc4, hPu.step hv, ?_, hwv, ?_⟩
      · rw [List.getElem?_append_right (by omega), hlen, Nat.sub_self]
        rfl
      · rw [take_more e]
        exact follow_snoc hfu hv
      · rw [take_more e]
        exact hft.snoc hfu hv hz3
  · obtain ⟨c, u, ts, xs, y3, rfl, sm, ef, hTs, hlen, hti, hc, hPu, hfu, hwu, hft⟩ := h
    rw [List.length_map] at hlen hti hfu hft
    rw [List.take_length] at hfu hft
    refine ⟨_, rfl, q2 fo ts xs u H' sm ef hTs (by rw [hlen, Nat.add_sub_cancel]; exact hti) (by omega) (by omega) hfu hft⟩
end
end Lyd

set_option Elab.async false
set_option linter.all false
set_option maxRecDepth 100000
set_option maxHeartbeats 1000000
namespace Lyd
open PySem PySem.Spec PyProof.Rows L2
/-- what the except clauses say of the own errors -/
structure Exs (K : PySem.W.Frag) (CT CO : Addr) : Prop where
  tt : PySem.W.exmOne K (.ref CT) (.ref CT) = some true
  oo : PySem.W.exmOne K (.ref CO) (.ref CO) = some true
  to : PySem.W.exmOne K (.ref CT) (.ref CO) = some false
theorem passL {X : Cx} : Passes (L2.CX X.prog X.w) X E0 := passes_call takes_none5 fun _ _ _ _ h => h
section
variable {P : Program} {w : World} {K : PySem.W.Frag} {mg : Str → Option Value} {base : Heap} {f CT CO : Addr} {fd : FuncData}
/-! ### _law_normal -/
theorem sc_law_normal : FnScope ["_law_term_here"] ["_law_term_here"] (defScope (topS 50)) := ⟨rfl, rfl, rfl, by decide +kernel, rfl, by decide +kernel, by decide +kernel⟩
/-- None, or the normal term and the number of the first redexes to it -/
def FndV (K : PySem.W.Frag) (H : Hp) (t : T) (v : V) : Prop := v = .non ∨ ∃ (z c : Addr) (n : T) (k : Nat), v = .ref z ∧ SqT K H z [.ref c, .int (k : Nat)] ∧ SqT K H c (flat n) ∧ Fst k t n ∧ normal_ n
def spLn (K : PySem.W.Frag) : Sp := fun vs H Q _ => ∃ (a : Addr) (t : T), vs = [.ref a] ∧ SqT K H a (flat t) ∧ Pl t ∧ sz t ≤ 1000 ∧ ∀ v H', Same H H' → FndV K H' t v → Q v H'
theorem ok_law_normal (F : Fun K "_law_normal" "_law_normal" (topS 50) f fd) (Z : Glb K mg) (ZT : Err K mg "TooLarge" CT) (ZO : Err K mg "OutOfSteps" CO) (XS : Exs K CT CO) (D_normal : Df P w K mg base (L2.CX P w) 5 "normal" ["term", "steps"] (spNo K CT CO)) :
    FnOk P w K mg base CX0 6 f fd ["_law_term_here"] (spLn K) := by
  refine F.ok sc_law_normal (fun vs H Q E h => ?_) (fun cdv A outer st H vs Q E hr h => ?_)
  · obtain ⟨a, t, rfl, _⟩ := h
    rfl
  obtain ⟨a, t, rfl, hT, hP, hz, q⟩ := h
  refine ⟨_, (pss_one (ps_try_many (tb := fun W => tRet (tCallS (spNo K CT CO) (WE W) (tCons (tVar 0) (tCons (tC (.int 500)) tNil)))) (Wout := fun _ _ _ _ => False) rfl rfl takes_none5 (fun W pn xe tk _ => pss_one (ps_ret (pe_callT D_normal (room_in hr) (by rfl) (fun σ => passAt tk σ) (pa_cons (pv 0) (pa_cons pe_int pa_nil))))) (HdsOk.cons (ts := fun _ _ _ => tRet (tC .non)) ⟨by rfl, by decide, .inl ZO.g⟩ (fun _ _ _ _ _ _ _ => pss_one (ps_ret pe_non)) (HdsOk.cons (ts := fun _ _ _ => tRet (tC .non)) ⟨by rfl, by decide, .inl ZT.g⟩ (fun _ _ _ _ _ _ _ => pss_one (ps_ret pe_non)) HdsOk.nil)))), ?_⟩
  refine ⟨_, rfl, a, t, 500, rfl, hT, hP, hz, by omega, fun z c n k H' sm h1 h2 h3 h4 => q _ H' sm (.inr ⟨z, c, n, k, rfl, h1, h2, h3, h4⟩), fun H' sm => ?_, fun H' sm => ?_⟩
  · exact ⟨false, XS.to, fun z => (nomatch z), fun _ => ⟨true, XS.tt, fun _ _ _ => q _ H' sm (.inl rfl), fun z => (nomatch z)⟩⟩
  · exact ⟨true, XS.oo, fun _ _ _ => q _ H' sm (.inl rfl), fun z => (nomatch z)⟩
/-! ### _law_told -/
theorem sc_law_told : FnScope ["_law_term_here", "_law_road_here"] ["_law_term_here", "_law_road_here"] (defScope (topS 51)) := ⟨rfl, rfl, rfl, by decide +kernel, rfl, by decide +kernel, by decide +kernel⟩
/-- None, or the list of the first redexes to n -/
def MadV (H : Hp) (t n : T) (v : V) : Prop := v = .non ∨ ∃ (l : Addr) (r : List Place), v = .ref l ∧ H l = some (.lst (roV r)) ∧ Fst r.length t n
def spLt (K : PySem.W.Frag) : Sp := fun vs H Q _ => ∃ (a l : Addr) (t n : T) (r : List Place), vs = [.ref a, .ref l] ∧ SqT K H a (flat t) ∧ SqL K H l (roV r) ∧ Pl t ∧ sz t ≤ 1000 ∧ r.length ≤ 200 ∧ follow_ t r = some n ∧ normal_ n ∧ ∀ v H', Same H H' → MadV H' t n v → Q v H'
theorem ok_law_told (F : Fun K "_law_told" "_law_told" (topS 51) f fd) (Z : Glb K mg) (ZT : Err K mg "TooLarge" CT) (XS : Exs K CT CO) (D_standard : Df P w K mg base (L2.CX P w) 6 "standard" ["term", "road"] (spSd K CT)) :
    FnOk P w K mg base CX0 7 f fd ["_law_term_here", "_law_road_here"] (spLt K) := by
  refine F.ok sc_law_told (fun vs H Q E h => ?_) (fun cdv A outer st H vs Q E hr h => ?_)
  · obtain ⟨a, l, t, n, r, rfl, _⟩ := h
    rfl
  obtain ⟨a, l, t, n, r, rfl, hT, hL, hP, hz, hrl, hf, hn, q⟩ := h
  refine ⟨_, (pss_one (ps_try_only (tb := fun W => tRet (tCallS (spSd K CT) (WE W) (tCons (tVar 0) (tCons (tVar 1) tNil)))) (ts := fun _ _ _ => tRet (tC .non)) (Wout := fun _ _ _ _ => False) rfl rfl ⟨by rfl, by decide, .inl ZT.g⟩ takes_none5 (fun W pn xe tk _ => pss_one (ps_ret (pe_callT D_standard (room_in hr) (by rfl) (fun σ => passAt tk σ) (pa_cons (pv 0) (pa_cons (pv 1) pa_nil))))) (fun _ _ _ _ _ _ _ => pss_one (ps_ret pe_non)))), ?_⟩
  refine ⟨_, rfl, _, rfl, a, l, t, n, r, rfl, hT, hL, hP, hz, hrl, hf, hn, fun fo Fd H' sm h1 h2 => q _ H' sm (.inr ⟨fo, Fd, rfl, h1, h2⟩), fun H' sm => ?_⟩
  exact ⟨true, XS.tt, fun _ _ _ => q _ H' sm (.inl rfl), fun z => (nomatch z)⟩
end
end Lyd

set_option Elab.async false
set_option linter.all false
set_option maxRecDepth 100000
set_option maxHeartbeats 1000000
namespace Lyd
open PySem PySem.Spec PyProof.Rows L2
/-! ### data -/
def toD : V → PyData
  | .int i => .int i
  | .str s => .str s
  | _ => .none
def dat (t : T) : PyData := .tuple ((flat t).map toD)
theorem leaf_flat {t : T} (h : Pl t) : ∀ x ∈ flat t, (∃ i, x = .int i) ∨ x = .str "app" ∨ x = .str "lam" := fun x hx => by
  rcases mem_flat t x hx with rfl | hm | ⟨n, rfl⟩
  · exact .inr (.inl rfl)
  · exact .inr (.inr (h x hm))
  · exact .inl ⟨_, rfl⟩
theorem leaves {K : PySem.W.Frag} {H : Hp} : ∀ xs : List V, (∀ x ∈ xs, (∃ i, x = .int i) ∨ x = .str "app" ∨ x = .str "lam") → DpAll K H xs (xs.map toD) ∧ PyData.canLayAll0 (xs.map toD) = true ∧ PyData.depthAll (xs.map toD) = 0
  | [], _ => ⟨.nil, rfl, rfl⟩
  | x :: xs, h => by
    obtain ⟨h1, h2, h3⟩ := leaves (K := K) (H := H) xs fun y hy => h y (List.mem_cons_of_mem _ hy)
    have hx : Dp K H x (toD x) ∧ PyData.canLay0 (toD x) = true ∧ PyData.depth (toD x) = 0 := by
      rcases h x List.mem_cons_self with ⟨i, rfl⟩ | rfl | rfl
      · exact ⟨.int i, rfl, rfl⟩
      · exact ⟨.str _, can_app, rfl⟩
      · exact ⟨.str _, can_lam, rfl⟩
    refine ⟨.cons hx.1 h1, ?_, ?_⟩
    · show (PyData.canLay0 (toD x) && PyData.canLayAll0 (xs.map toD)) = true
      rw [hx.2.1, h2]
      rfl
    · show max (PyData.depth (toD x)) (PyData.depthAll (xs.map toD)) = 0
      rw [hx.2.2, h3]
      rfl
theorem dat_can {t : T} (h : Pl t) : PyData.canLay0 (dat t) = true := (leaves (K := []) (H := fun _ => none) _ (leaf_flat h)).2.1
theorem dat_depth {t : T} (h : Pl t) : PyData.depth (dat t) = 1 := by
  show PyData.depthAll _ + 1 = 1
  rw [(leaves (K := []) (H := fun _ => none) _ (leaf_flat h)).2.2]
theorem dat_shaped {t : T} (h : Pl t) : SeqAt.shaped (dat t) = true := by
  unfold SeqAt.shaped
  rw [dat_can h, dat_depth h]
  rfl
theorem dat_dp {K : PySem.W.Frag} {H : Hp} {a : Addr} {t : T} (h : Pl t) (e : SqT K H a (flat t)) : Dp K H (.ref a) (dat t) := .tup e (leaves _ (leaf_flat h)).1
theorem dats {K : PySem.W.Frag} {H : Hp} {ts : List T} {xs : List V} (h : Tps K H ts xs) : DpAll K H xs (ts.map dat) ∧ PyData.canLayAll0 (ts.map dat) = true ∧ PyData.depthAll (ts.map dat) ≤ 1 := by
  induction h with
  | nil => exact ⟨.nil, rfl, Nat.zero_le _⟩
  | @cons t v ts vs r _ ih =>
    obtain ⟨c, rfl, h1, h2⟩ := r
    refine ⟨.cons (dat_dp h2 h1) ih.1, ?_, ?_⟩
    · show (PyData.canLay0 (dat t) && PyData.canLayAll0 (ts.map dat)) = true
      rw [dat_can h2, ih.2.1]
      rfl
    · show max (PyData.depth (dat t)) (PyData.depthAll (ts.map dat)) ≤ 1
      rw [dat_depth h2]
      exact Nat.max_le.mpr ⟨Nat.le_refl _, ih.2.2⟩
theorem list_shaped {K : PySem.W.Frag} {H : Hp} {ts : List T} {xs : List V} (h : Tps K H ts xs) : SeqAt.shaped (.list (ts.map dat)) = true := by
  unfold SeqAt.shaped
  have h1 : PyData.canLay0 (.list (ts.map dat)) = true := (dats h).2.1
  have h2 : PyData.depth (.list (ts.map dat)) ≤ 64 := by
    show PyData.depthAll _ + 1 ≤ 64
    have := (dats h).2.2
    omega
  rw [h1, decide_eq_true h2]
  rfl
theorem eq_same {K : PySem.W.Frag} {H : Hp} {Q : VK} {a b : Addr} {t : T} (h : Pl t) (ea : SqT K H a (flat t)) (eb : SqT K H b (flat t)) (q : Q (.bl true) H) : rEqD K (.ref a) (.ref b) H Q :=
  ⟨_, _, dat_dp h ea, dat_dp h eb, dat_shaped h, dat_shaped h, by rw [SeqAt.eqv_refl _ (dat_can h)]; exact q⟩
theorem ne_same {K : PySem.W.Frag} {H : Hp} {Q : VK} {a b : Addr} {t : T} (h : Pl t) (ea : SqT K H a (flat t)) (eb : SqT K H b (flat t)) (q : Q (.bl false) H) : rNeD K (.ref a) (.ref b) H Q :=
  ⟨_, _, dat_dp h ea, dat_dp h eb, dat_shaped h, dat_shaped h, by rw [SeqAt.eqv_refl _ (dat_can h)]; exact q⟩
/-! ### the two tests -/
abbrev rNN : R2 := fun x y H Q => y = .non ∧ Q (.bl (!decide (x = .non))) H
theorem test_found {K : PySem.W.Frag} {σ : L2.St} {H : Hp} {Q : Bool → Hp → Prop} {i j : Nat} {v : V} {b : Addr} {t n : T} (h1 : σ[i]? = some (some v)) (h2 : σ[j]? = some (some (.ref b))) (hv : FndV K H t v) (hb : SqT K H b (flat n)) (hP : Pl n) (hn : normal_ n) (hp : Pars t n) (q : Q false H) :
    tAnd (tTest (tOp rNN (tVar i) (tC .non))) (tTest (tOp (rNeD K) (tOp (rIxT K) (tVar i) (tC (.int 0))) (tVar j))) σ H Q := by
  rcases hv with rfl | ⟨z, c, m, k, rfl, hz, hc, hF, hm⟩
  · exact ⟨_, h1, rfl, _, rfl, iteF q⟩
  · have e : m = n := unique hF.pars hp hm hn
    subst e
    exact ⟨_, h1, rfl, _, rfl, iteT ⟨_, h1, _, _, _, _, rfl, rfl, hz, rfl, _, h2, ne_same hP hc hb ⟨_, rfl, q⟩⟩⟩
theorem test_made {K : PySem.W.Frag} {σ : L2.St} {H : Hp} {Q : Bool → Hp → Prop} {i j : Nat} {v u : V} {t n : T} (h1 : σ[i]? = some (some v)) (h2 : σ[j]? = some (some u)) (hv : FndV K H t v) (hu : MadV H t n u) (hn : normal_ n) (q : Q false H) :
    tAnd (tTest (tOp rNN (tVar j) (tC .non))) (tAnd (tTest (tOp rNN (tVar i) (tC .non))) (tTest (tOp rNe (tCB (fun xs H Q => ∃ p ys, xs = [.ref p] ∧ (SqL K H p ys ∨ SqT K H p ys) ∧ Q (.int ys.length) H) (tCons (tVar j) tNil)) (tOp (rIxT K) (tVar i) (tC (.int 1)))))) σ H Q := by
  rcases hu with rfl | ⟨l, r, rfl, hl, hr⟩
  · exact ⟨_, h2, rfl, _, rfl, iteF q⟩
  · refine ⟨_, h2, rfl, _, rfl, iteT ?_⟩
    rcases hv with rfl | ⟨z, c, m, k, rfl, hz, hc, hF, hm⟩
    · exact ⟨_, h1, rfl, _, rfl, iteF q⟩
    · have e : r.length = k := hr.same hF hn hm
      refine ⟨_, h1, rfl, _, rfl, iteT ⟨_, h2, l, _, rfl, .inl (.inl (.inl hl)), _, h1, _, _, _, _, rfl, rfl, hz, rfl, rfl, _, rfl, ?_⟩⟩
      have e2 : (!decide (V.int ((roV r).length : Nat) = V.int (k : Nat))) = false := by
        rw [List.length_map, e, decide_eq_true rfl]
        rfl
      rw [e2]
      exact q
theorem Ft.end_sz : ∀ {r : List Place} {t n : T}, Ft t r → follow_ t r = some n → sz t ≤ 1000 → sz n ≤ 1000
  | [], t, n, _, h, hz => by
    cases h
    exact hz
  | p :: r, t, n, h, hf, _ => by
    obtain ⟨u, h1, h2, h3⟩ := h
    obtain ⟨u', e, hf'⟩ := follow_cons hf
    rw [h1] at e
    cases e
    exact h3.end_sz hf' h2
section
variable {P : Program} {w : World} {K : PySem.W.Frag} {mg : Str → Option Value} {base : Heap} {f CT CO : Addr} {fd : FuncData}
/-! ### law -/
theorem sc_law : FnScope ["_law_script", "_law_stream_here", "_law_term_here", "_law_ends", "_law_k", "_law_road_here", "_law_passed_here", "_law_end_here", "_law_found", "_law_made"] ["_law_script"] (defScope (topS 52)) := ⟨rfl, rfl, rfl, by decide +kernel, rfl, by decide +kernel, by decide +kernel⟩
def spLaw (K : PySem.W.Frag) : Sp := fun vs H Q _ => ∃ (a : Addr) (ns : List Int), vs = [.ref a] ∧ SqL K H a (ns.map V.int) ∧ ns.length ≤ 63 ∧ ∀ H', Q (.bl true) H'
def wLaw (K : PySem.W.Frag) (a S c e : Addr) (t : T) (H : Hp) : Nat → L2.St → Hp → Prop := fun i σ H' => ∃ (ts : List T) (xs : List V) (y4 y5 y6 y7 y8 y9 : Option V), σ = [some (.ref a), some (.ref S), some (.ref c), some (.ref e), y4, y5, y6, y7, y8, y9] ∧
  SameS S H H' ∧ Strm K H' S ∧ H' e = some (.lst xs) ∧ Tps K H' ts xs ∧ SqT K H' c (flat t) ∧ ts.length ≤ i ∧ ∀ n ∈ ts, Pars t n ∧ normal_ n
theorem ok_law (F : Fun K "law" "law" (topS 52) f fd) (Z : Glb K mg) (D_law_stream : Df P w K mg base CX0 1 "_law_stream" ["_law_script"] (spStr K)) (D_law_draw : Df P w K mg base CX0 1 "_law_draw" ["_law_stream_here", "_law_many"] (spDr K))
    (D_law_rich : Df P w K mg base CX0 21 "_law_rich" ["_law_stream_here", "_law_size"] (spRi K 7)) (D_law_road : Df P w K mg base CX0 6 "_law_road" ["_law_stream_here", "_law_term_here", "_law_many"] (spRo K)) (D_law_passed : Df P w K mg base CX0 6 "_law_passed" ["_law_term_here", "_law_road_here"] (spPa K))
    (D_follow : Df P w K mg base (L2.CX P w) 5 "follow" ["term", "road"] (spFo K)) (D_law_redexes : Df P w K mg base CX0 3 "_law_redexes" ["_law_term_here"] (spRds K)) (D_law_normal : Df P w K mg base CX0 6 "_law_normal" ["_law_term_here"] (spLn K))
    (D_law_told : Df P w K mg base CX0 7 "_law_told" ["_law_term_here", "_law_road_here"] (spLt K)) : FnOk P w K mg base CX0 22 f fd ["_law_script"] (spLaw K) := by
  refine F.ok sc_law (fun vs H Q E h => ?_) (fun cdv A outer st H vs Q E hr h => ?_)
  · obtain ⟨a, ns, rfl, _⟩ := h
    rfl
  obtain ⟨a, ns, rfl, hL, hl, q⟩ := h
  refine ⟨_, (pss_cons (ps_set (i := 1) sc_law.nd rfl (.inl rfl) (pe_callD D_law_stream (room_in hr) (by rfl) pass0 (pa_cons (pv 0) pa_nil)))
      (pss_cons (ps_set (i := 2) sc_law.nd rfl (.inl rfl) (pe_callD D_law_rich (room_in hr) (by rfl) pass0 (pa_cons (pv 1) (pa_cons (pe_op op_add pe_int (pe_callD D_law_draw (room_in hr) (by rfl) pass0 (pa_cons (pv 1) (pa_cons pe_int pa_nil)))) pa_nil))))
      (pss_cons (ps_set (i := 3) sc_law.nd rfl (.inl rfl) (pe_lst pa_nil))
      (pss_cons (ps_for PassesOwn.never rfl (pi_range1 (by rfl) Z.rng (pa_cons pe_int pa_nil)) (pg_name (i := 4) sc_law.nd rfl (.inl rfl)) (pss_cons (ps_set (i := 5) sc_law.nd rfl (.inl rfl) (pe_callD D_law_road (room_in hr) (by rfl) pass0 (pa_cons (pv 1) (pa_cons (pv 2) (pa_cons pe_int pa_nil)))))
      (pss_cons (ps_set (i := 6) sc_law.nd rfl (.inl rfl) (pe_callD D_law_passed (room_in hr) (by rfl) pass0 (pa_cons (pv 2) (pa_cons (pv 5) pa_nil))))
      (pss_cons (ps_if (pt_cmpR (op_eqD hr.units) (pv 6) pe_str (nomark _)) (pss_one (ps_ret pe_bl)) pss_nil)
      (pss_cons (ps_set (i := 7) sc_law.nd rfl (.inl rfl) (pe_ix ix_list (pv 6) (pe_op op_sub (pe_callB call_len_seq (by rfl) Z.len PySem.boot_len (pa_cons (pv 6) pa_nil)) pe_int) (fun _ _ => rfl)))
      (pss_cons (ps_if (pt_cmpR (op_neD hr.units) (pe_callD D_follow (room_in hr) (by rfl) passL (pa_cons (pv 2) (pa_cons (pe_callTy call_list_of (by rfl) Z.lst boot_list' (pa_cons (pv 5) pa_nil)) pa_nil))) (pv 7) (nomark _)) (pss_one (ps_ret pe_bl)) pss_nil)
      (pss_one (ps_if (pt_cmpR op_eq (pe_callB call_len_seq (by rfl) Z.len PySem.boot_len (pa_cons (pe_callD D_law_redexes (room_in hr) (by rfl) pass0 (pa_cons (pv 7) pa_nil)) pa_nil)) pe_int (nomark _)) (pss_cons (ps_expr (pe_bm PySem.F.plainAttrs_list PySem.F.slot_list_append PySem.F.type_list_append mt_append (pv 3) (pa_cons (pv 7) pa_nil)))
      (pss_cons (ps_set (i := 8) sc_law.nd rfl (.inl rfl) (pe_callD D_law_normal (room_in hr) (by rfl) pass0 (pa_cons (pv 2) pa_nil)))
      (pss_cons (ps_if (PW.pt (pw_and (pt_cmpR op_notN (pv 8) pe_non (nomark _)) (pw_and1 (pt_cmpR (op_neD hr.units) (pe_ix ix_tup (pv 8) pe_int (fun _ _ => rfl)) (pv 7) (nomark _))))) (pss_one (ps_ret pe_bl)) pss_nil)
      (pss_cons (ps_set (i := 9) sc_law.nd rfl (.inl rfl) pe_non)
      (pss_cons (ps_if (pt_cmpR op_le (pe_callB call_len_seq (by rfl) Z.len PySem.boot_len (pa_cons (pv 5) pa_nil)) pe_int (nomark _)) (pss_one (ps_set (i := 9) sc_law.nd rfl (.inl rfl) (pe_callD D_law_told (room_in hr) (by rfl) pass0 (pa_cons (pv 2) (pa_cons (pe_callTy call_list_of (by rfl) Z.lst boot_list' (pa_cons (pv 5) pa_nil)) pa_nil))))) pss_nil)
      (pss_one (ps_if (PW.pt (pw_and (pt_cmpR op_notN (pv 9) pe_non (nomark _)) (pw_and (pt_cmpR op_notN (pv 8) pe_non (nomark _)) (pw_and1 (pt_cmpR op_ne (pe_callB call_len_seq (by rfl) Z.len PySem.boot_len (pa_cons (pv 9) pa_nil)) (pe_ix ix_tup (pv 8) pe_int (fun _ _ => rfl)) (nomark _)))))) (pss_one (ps_ret pe_bl)) pss_nil))))))) pss_nil))))))))
      (pss_one (ps_ret (pe_or (pe_cmpR op_lt (pe_callB call_len_seq (by rfl) Z.len PySem.boot_len (pa_cons (pv 3) pa_nil)) pe_int (nomark _)) (pe_one (pe_cmpR (op_eqD hr.units) (pe_ix ix_list (pv 3) pe_int (fun _ _ => rfl)) (pe_ix ix_list (pv 3) pe_int (fun _ _ => rfl)) (nomark _)))))))))), ?_⟩
  refine ⟨_, rfl, a, ns, rfl, hL, by omega, fun S H1 nS s1 hS => ?_⟩
  refine ⟨_, rfl, _, rfl, S, 6, rfl, by omega, by omega, hS, fun v H2 hv s2 hS2 => ⟨_, _, rfl, rfl, S, 2 + v, rfl, hS2, by omega, by omega, by omega, fun c t H3 s3 hS3 hT hP hz hvb => ?_⟩⟩
  refine ⟨Nat.zero_le _, fun e ne => ?_⟩
  have sE : Same H3 (upd H3 e (.lst [])) := same_new ne
  have eS : e ≠ S := by
    obtain ⟨ys, h⟩ := hS3.at
    exact (ne_of_none h ne).symm
  refine ⟨_, rfl, by omega, by omega, for_range (n := 2) (wLaw K a S c e t H3) ⟨[], [], none, none, none, none, none, none, rfl, toS sE, hS3.same sE, upd_same, .nil, same_t sE hT, Nat.le_refl _, fun n hn => by cases hn⟩ (fun i σ H' hi h => ?_) (fun σ H' h => ?_)⟩
  · rw [Int.zero_add]
    obtain ⟨ts, xs, y4, y5, y6, y7, y8, y9, rfl, sm, hSt, ee, hTs, hc, hlen, hall⟩ := h
    refine ⟨_, rfl, _, rfl, S, c, t, 40, rfl, hSt, hc, hP, by omega, by omega, fun rl r H4 s4 hS4 nrl erl hwk hrl => ?_⟩
    have hc4 := hSt.t s4 hc
    have sm4 := sm.trans s4
    have ee4 := s4.1 _ _ eS ee
    have rle : rl ≠ e := (ne_of_none ee nrl).symm
    refine ⟨_, rfl, _, rfl, c, rl, t, r, rfl, hc4, .inl (.inl erl), hP, hwk, by omega, fun H5 s5 => ?_, fun p ts2 xs2 n H5 s5 ep hTp hlast hlen2 hlen1 hf hft => ?_⟩
    · refine ⟨_, rfl, _, _, .str _, .str _, shaped_str can_large, shaped_str can_large, _, rfl, ?_⟩
      rw [SeqAt.eqv_refl _ can_large]
      exact iteT (q H5)
    refine ⟨_, rfl, _, _, .lst (.inl (.inl ep)) (dats hTp).1, .str _, list_shaped hTp, shaped_str can_large, _, rfl, iteF ?_⟩
    obtain ⟨en, hen, hEn, hPn⟩ := hTp.at hlast
    have hat : atI xs2 (((xs2.length : Nat) : Int) - 1) = some (.ref en) := by
      have e1 : ((xs2.length : Nat) : Int) - 1 = ((ts2.length - 1 : Nat) : Int) := by
        have := hTp.len
        omega
      rw [e1]
      exact atI_nat hen
    refine ⟨_, rfl, _, rfl, p, _, rfl, .inl (.inl (.inl ep)), _, _, rfl, rfl, _, _, _, _, rfl, rfl, .inl (.inl ep), hat, ?_⟩
    have sm5 := sm4.trans (toS s5)
    have erl5 := s5 _ _ erl
    have hzn := hft.end_sz hf (by omega)
    have hfits : Fits t r := hft.fits (by omega) hvb (by omega)
    refine ⟨_, rfl, _, rfl, rl, _, rfl, .inl (.inl (.inl erl5)), fun l2 nl2 => ?_⟩
    have sA : Same H5 (upd H5 l2 (.lst (roV r))) := same_new nl2
    refine ⟨c, l2, t, n, r, rfl, same_t sA (same_t s5 hc4), .inl (.inl upd_same), hP.tmk, by omega, hfits, hf, fun u H6 s6 hu => ?_⟩
    have s56 := sA.trans s6
    refine ⟨_, rfl, ne_same hPn hu (same_t s56 hEn) ⟨_, rfl, iteF ?_⟩⟩
    have hEn6 := same_t s56 hEn
    have hS6 := (hS4.same s5).same s56
    have sm6 := sm5.trans (toS s56)
    have hTs6 : Tps K H6 ts xs := hTs.mono fun a ys h => same_t s56 (same_t s5 (hSt.t s4 h))
    have ee6 := s56 _ _ (s5 _ _ ee4)
    have erl6 := s56 _ _ erl5
    have hc6 := same_t s56 (same_t s5 hc4)
    refine ⟨_, rfl, en, n, rfl, hEn6, hPn.tmk, by omega, fun rl2 H7 nrl2 s7 erl2 => ?_⟩
    have ee7 := s7 _ _ ee6
    have sm7 := sm6.trans (toS s7)
    have hS7 := hS6.same s7
    have hTs7 : Tps K H7 ts xs := hTs6.mono fun a ys h => same_t s7 h
    have hc7 := same_t s7 hc6
    have hEn7 := same_t s7 hEn6
    have erl7 := s7 _ _ erl6
    refine ⟨rl2, _, rfl, .inl (.inl (.inl erl2)), rfl, _, rfl, ite_b (fun z => ?_) (fun z => ?_)⟩
    · -- the end is normal
      have hnn : normal_ n := by
        have z1 : V.int ((rdV n).length : Nat) = V.int 0 := of_decide_eq_true z
        have z2 : ((rdV n).length : Int) = 0 := V.int.inj z1
        rw [List.length_map] at z2
        exact List.length_eq_zero_iff.mp (by omega)
      have hpt : Pars t n := follow_pars hf
      have lx := hTs7.len
      refine ⟨.ref e, rfl, .inl ⟨rfl, _, .inl (.inl ee7)⟩, _, rfl, e, _, _, rfl, rfl, ee7, line_of (by omega), ?_⟩
      have keep : ∀ a ys, SqT K H7 a ys → SqT K (upd H7 e (.lst (xs ++ [.ref en]))) a ys := fun a ys h => sq_upd h ee7 (fun _ z => nomatch z) (fun _ _ z => nomatch z)
      have hc8 := keep _ _ hc7
      have hEn8 := keep _ _ hEn7
      have hT8 : Tps K (upd H7 e (.lst (xs ++ [.ref en]))) (ts ++ [n]) (xs ++ [.ref en]) := (hTs7.mono keep).snoc hEn8 hPn
      have sm8 : SameS S H3 (upd H7 e (.lst (xs ++ [.ref en]))) := sm7.mut ne eS
      have hS8 : Strm K (upd H7 e (.lst (xs ++ [.ref en]))) S := hS3.mut sm7 hS7 ne eS
      have ee8 : (upd H7 e (.lst (xs ++ [.ref en]))) e = some (.lst (xs ++ [.ref en])) := upd_same
      have erl8 : (upd H7 e (.lst (xs ++ [.ref en]))) rl = some (.lst (roV r)) := by rw [upd_ne rle]; exact erl7
      generalize upd H7 e (.lst (xs ++ [.ref en])) = H8 at hc8 hEn8 hT8 sm8 hS8 ee8 erl8 ⊢
      have hall8 : ∀ m ∈ ts ++ [n], Pars t m ∧ normal_ m := fun m hm => by
        rcases List.mem_append.mp hm with hm | hm
        · exact hall m hm
        · rw [List.mem_singleton.mp hm]
          exact ⟨hpt, hnn⟩
      refine ⟨_, rfl, c, t, rfl, hc8, hP, by omega, fun vf H9 s9 hvf => ?_⟩
      refine test_found (i := 8) (j := 7) rfl rfl hvf (same_t s9 hEn8) hPn hnn hpt (iteF ?_)
      have erl9 := s9 _ _ erl8
      -- the invariant behind the turn
      have fin : ∀ (H' : Hp) (y8 y9 : Option V), Same H9 H' → wLaw K a S c e t H3 (i + 1) [some (.ref a), some (.ref S), some (.ref c), some (.ref e), some (.int (i : Nat)), some (.ref rl), some (.ref p), some (.ref en), y8, y9] H' := fun H' y8 y9 sF =>
        ⟨ts ++ [n], xs ++ [.ref en], _, _, _, _, _, _, rfl, sm8.trans (toS (s9.trans sF)), hS8.same (s9.trans sF), (s9.trans sF) _ _ ee8, hT8.mono fun a ys h => same_t (s9.trans sF) h, same_t (s9.trans sF) hc8, by rw [List.length_append]; show ts.length + 1 ≤ i + 1; omega, hall8⟩
      refine ⟨_, rfl, rl, _, rfl, .inl (.inl (.inl erl9)), _, _, rfl, rfl, _, rfl, ite_b (fun c1 => ?_) (fun c1 => ?_)⟩
      · refine ⟨_, rfl, _, rfl, rl, _, rfl, .inl (.inl (.inl erl9)), fun l3 nl3 => ?_⟩
        have sB : Same H9 (upd H9 l3 (.lst (roV r))) := same_new nl3
        refine ⟨c, l3, t, n, r, rfl, same_t (s9.trans sB) hc8, .inl (.inl upd_same), hP, by omega, by omega, hf, hnn, fun vm H10 s10 hvm => ?_⟩
        have sC := sB.trans s10
        have hvf' : FndV K H10 t vf := by
          rcases hvf with h | ⟨z, c', m, k, h1, h2, h3, h4, h5⟩
          · exact .inl h
          · exact .inr ⟨z, c', m, k, h1, same_t sC h2, same_t sC h3, h4, h5⟩
        exact test_made (i := 8) (j := 9) rfl rfl hvf' hvm hnn (iteF (fin H10 _ _ sC))
      · exact test_made (i := 8) (j := 9) rfl rfl hvf (.inl rfl) hnn (iteF (fin H9 _ _ (Same.refl _)))
    · exact ⟨ts, xs, _, _, _, _, _, _, rfl, sm7, hS7, ee7, hTs7, hc7, by omega, hall⟩
  · obtain ⟨ts, xs, y4, y5, y6, y7, y8, y9, rfl, sm, hSt, ee, hTs, hc, hlen, hall⟩ := h
    refine ⟨_, rfl, e, _, rfl, .inl (.inl (.inl ee)), _, _, rfl, rfl, _, rfl, ite_b (fun _ => q H') (fun z => ?_)⟩
    have z1 : ¬ ((xs.length : Nat) : Int) < 2 := of_decide_eq_false z
    have lx := hTs.len
    have g0 : ts[0]? = some ts[0] := List.getElem?_eq_getElem (by omega)
    have g1 : ts[1]? = some ts[1] := List.getElem?_eq_getElem (by omega)
    have a0 := hall _ (List.mem_of_getElem? g0)
    have a1 := hall _ (List.mem_of_getElem? g1)
    have e01 : ts[0] = ts[1] := unique a0.1 a1.1 a0.2 a1.2
    obtain ⟨c0, x0, h0, p0⟩ := hTs.at g0
    obtain ⟨c1, x1, h1, p1⟩ := hTs.at g1
    rw [← e01] at h1
    exact ⟨_, rfl, _, _, _, _, rfl, rfl, .inl (.inl ee), atI_nat (j := 0) x0, _, rfl, _, _, _, _, rfl, rfl, .inl (.inl ee), atI_nat (j := 1) x1, eq_same p0 h0 h1 (q H')⟩
end
end Lyd

set_option Elab.async false
set_option linter.all false
set_option maxRecDepth 100000
set_option maxHeartbeats 4000000
namespace Lyd
open PySem PySem.Spec PyProof.Rows L2
/-! ### the top -/
theorem exm_of {K : PySem.W.Frag} {c : Value} {S : Addr} {b : Bool} (h1 : PySem.W.subIn K (.ref S) (.type "BaseException") = some true) (h2 : PySem.W.isClsIn K S = true) (h3 : PySem.W.typeIn K (.ref S) = some (.type "type")) (h4 : PySem.W.subIn K c (.ref S) = some b) :
    PySem.W.exmOne K c (.ref S) = some b := by
  have e1 : (PySem.W.subIn K (.ref S) (.type "BaseException") == some true) = true := by rw [h1] <;> rfl
  have e2 : ((PySem.W.clsIn K S).isSome && PySem.W.typeIn K (.ref S) == some (.type "type")) = true := by
    have h2' : (PySem.W.clsIn K S).isSome = true := h2
    rw [h2', h3] <;> rfl
  show (if (PySem.W.subIn K (.ref S) (.type "BaseException") == some true) = true then (if ((PySem.W.clsIn K S).isSome && PySem.W.typeIn K (.ref S) == some (.type "type")) = true then PySem.W.subIn K c (.ref S) else none) else none) = some b
  rw [if_pos e1, if_pos e2]
  exact h4
theorem all_mk {l : PySem.W.OpenLaw} {w : World} {K : PySem.W.Frag} {h : Heap} {mg : Str → Option Value} {fa CT CR CO f0 f1 f2 f3 f4 f5 f6 f7 f8 f9 f10 f11 f12 f13 f14 f15 f16 f17 f18 f19 f20 f21 f22 f23 f24 f25 f26 f27 f28 f29 f30 f31 f32 f33 f34 f35 f36 f37 f38 : Addr} (X : K.In h) (G : h.Ns mainGlobals mg) (hfa : mg "law" = some (.ref fa))
    {od0 an0 : Option Addr} {sl0 : Array (Option Value)} {oc0 kV0 dc0 pm0 cd0 ct0 : Value}
    (a0 : PySem.W.nsIn K mainGlobals "end_of" = some (some (.ref f0))) (l0 : K.lookup f0 = some ⟨oc0, od0, .func (PySem.W.fnOf "end_of" "end_of" (defArgs (topS 9)) (defBody (topS 9)) (defScope (topS 9)) .none kV0 dc0 pm0 an0 cd0 ct0), sl0⟩) (c0 : PySem.W.codeIn K cd0 "end_of" = true) (k0 : PySem.W.keepIn K (.ref f0) = true)
    {od1 an1 : Option Addr} {sl1 : Array (Option Value)} {oc1 kV1 dc1 pm1 cd1 ct1 : Value}
    (a1 : PySem.W.nsIn K mainGlobals "depths" = some (some (.ref f1))) (l1 : K.lookup f1 = some ⟨oc1, od1, .func (PySem.W.fnOf "depths" "depths" (defArgs (topS 10)) (defBody (topS 10)) (defScope (topS 10)) .none kV1 dc1 pm1 an1 cd1 ct1), sl1⟩) (c1 : PySem.W.codeIn K cd1 "depths" = true) (k1 : PySem.W.keepIn K (.ref f1) = true)
    {od2 an2 : Option Addr} {sl2 : Array (Option Value)} {oc2 kV2 dc2 pm2 cd2 ct2 : Value}
    (a2 : PySem.W.nsIn K mainGlobals "lifted" = some (some (.ref f2))) (l2 : K.lookup f2 = some ⟨oc2, od2, .func (PySem.W.fnOf "lifted" "lifted" (defArgs (topS 11)) (defBody (topS 11)) (defScope (topS 11)) .none kV2 dc2 pm2 an2 cd2 ct2), sl2⟩) (c2 : PySem.W.codeIn K cd2 "lifted" = true) (k2 : PySem.W.keepIn K (.ref f2) = true)
    {od3 an3 : Option Addr} {sl3 : Array (Option Value)} {oc3 kV3 dc3 pm3 cd3 ct3 : Value}
    (a3 : PySem.W.nsIn K mainGlobals "checked" = some (some (.ref f3))) (l3 : K.lookup f3 = some ⟨oc3, od3, .func (PySem.W.fnOf "checked" "checked" (defArgs (topS 8)) (defBody (topS 8)) (defScope (topS 8)) .none kV3 dc3 pm3 an3 cd3 ct3), sl3⟩) (c3 : PySem.W.codeIn K cd3 "checked" = true) (k3 : PySem.W.keepIn K (.ref f3) = true)
    {od4 an4 : Option Addr} {sl4 : Array (Option Value)} {oc4 kV4 dc4 pm4 cd4 ct4 : Value}
    (a4 : PySem.W.nsIn K mainGlobals "placed" = some (some (.ref f4))) (l4 : K.lookup f4 = some ⟨oc4, od4, .func (PySem.W.fnOf "placed" "placed" (defArgs (topS 12)) (defBody (topS 12)) (defScope (topS 12)) .none kV4 dc4 pm4 an4 cd4 ct4), sl4⟩) (c4 : PySem.W.codeIn K cd4 "placed" = true) (k4 : PySem.W.keepIn K (.ref f4) = true)
    {od5 an5 : Option Addr} {sl5 : Array (Option Value)} {oc5 kV5 dc5 pm5 cd5 ct5 : Value}
    (a5 : PySem.W.nsIn K mainGlobals "placed_nodes" = some (some (.ref f5))) (l5 : K.lookup f5 = some ⟨oc5, od5, .func (PySem.W.fnOf "placed_nodes" "placed_nodes" (defArgs (topS 14)) (defBody (topS 14)) (defScope (topS 14)) .none kV5 dc5 pm5 an5 cd5 ct5), sl5⟩) (c5 : PySem.W.codeIn K cd5 "placed_nodes" = true) (k5 : PySem.W.keepIn K (.ref f5) = true)
    {od6 an6 : Option Addr} {sl6 : Array (Option Value)} {oc6 kV6 dc6 pm6 cd6 ct6 : Value}
    (a6 : PySem.W.nsIn K mainGlobals "index_of" = some (some (.ref f6))) (l6 : K.lookup f6 = some ⟨oc6, od6, .func (PySem.W.fnOf "index_of" "index_of" (defArgs (topS 15)) (defBody (topS 15)) (defScope (topS 15)) .none kV6 dc6 pm6 an6 cd6 ct6), sl6⟩) (c6 : PySem.W.codeIn K cd6 "index_of" = true) (k6 : PySem.W.keepIn K (.ref f6) = true)
    {od7 an7 : Option Addr} {sl7 : Array (Option Value)} {oc7 kV7 dc7 pm7 cd7 ct7 : Value}
    (a7 : PySem.W.nsIn K mainGlobals "is_redex" = some (some (.ref f7))) (l7 : K.lookup f7 = some ⟨oc7, od7, .func (PySem.W.fnOf "is_redex" "is_redex" (defArgs (topS 17)) (defBody (topS 17)) (defScope (topS 17)) .none kV7 dc7 pm7 an7 cd7 ct7), sl7⟩) (c7 : PySem.W.codeIn K cd7 "is_redex" = true) (k7 : PySem.W.keepIn K (.ref f7) = true)
    {od8 an8 : Option Addr} {sl8 : Array (Option Value)} {oc8 kV8 dc8 pm8 cd8 ct8 : Value}
    (a8 : PySem.W.nsIn K mainGlobals "redexes" = some (some (.ref f8))) (l8 : K.lookup f8 = some ⟨oc8, od8, .func (PySem.W.fnOf "redexes" "redexes" (defArgs (topS 18)) (defBody (topS 18)) (defScope (topS 18)) .none kV8 dc8 pm8 an8 cd8 ct8), sl8⟩) (c8 : PySem.W.codeIn K cd8 "redexes" = true) (k8 : PySem.W.keepIn K (.ref f8) = true)
    {od9 an9 : Option Addr} {sl9 : Array (Option Value)} {oc9 kV9 dc9 pm9 cd9 ct9 : Value}
    (a9 : PySem.W.nsIn K mainGlobals "stepped" = some (some (.ref f9))) (l9 : K.lookup f9 = some ⟨oc9, od9, .func (PySem.W.fnOf "stepped" "stepped" (defArgs (topS 19)) (defBody (topS 19)) (defScope (topS 19)) .none kV9 dc9 pm9 an9 cd9 ct9), sl9⟩) (c9 : PySem.W.codeIn K cd9 "stepped" = true) (k9 : PySem.W.keepIn K (.ref f9) = true)
    {od10 an10 : Option Addr} {sl10 : Array (Option Value)} {oc10 kV10 dc10 pm10 cd10 ct10 : Value}
    (a10 : PySem.W.nsIn K mainGlobals "follow" = some (some (.ref f10))) (l10 : K.lookup f10 = some ⟨oc10, od10, .func (PySem.W.fnOf "follow" "follow" (defArgs (topS 20)) (defBody (topS 20)) (defScope (topS 20)) .none kV10 dc10 pm10 an10 cd10 ct10), sl10⟩) (c10 : PySem.W.codeIn K cd10 "follow" = true) (k10 : PySem.W.keepIn K (.ref f10) = true)
    {od11 an11 : Option Addr} {sl11 : Array (Option Value)} {oc11 kV11 dc11 pm11 cd11 ct11 : Value}
    (a11 : PySem.W.nsIn K mainGlobals "marked" = some (some (.ref f11))) (l11 : K.lookup f11 = some ⟨oc11, od11, .func (PySem.W.fnOf "marked" "marked" (defArgs (topS 22)) (defBody (topS 22)) (defScope (topS 22)) .none kV11 dc11 pm11 an11 cd11 ct11), sl11⟩) (c11 : PySem.W.codeIn K cd11 "marked" = true) (k11 : PySem.W.keepIn K (.ref f11) = true)
    {od12 an12 : Option Addr} {sl12 : Array (Option Value)} {oc12 kV12 dc12 pm12 cd12 ct12 : Value}
    (a12 : PySem.W.nsIn K mainGlobals "mark_at" = some (some (.ref f12))) (l12 : K.lookup f12 = some ⟨oc12, od12, .func (PySem.W.fnOf "mark_at" "mark_at" (defArgs (topS 23)) (defBody (topS 23)) (defScope (topS 23)) .none kV12 dc12 pm12 an12 cd12 ct12), sl12⟩) (c12 : PySem.W.codeIn K cd12 "mark_at" = true) (k12 : PySem.W.keepIn K (.ref f12) = true)
    {od13 an13 : Option Addr} {sl13 : Array (Option Value)} {oc13 kV13 dc13 pm13 cd13 ct13 : Value}
    (a13 : PySem.W.nsIn K mainGlobals "marks" = some (some (.ref f13))) (l13 : K.lookup f13 = some ⟨oc13, od13, .func (PySem.W.fnOf "marks" "marks" (defArgs (topS 24)) (defBody (topS 24)) (defScope (topS 24)) .none kV13 dc13 pm13 an13 cd13 ct13), sl13⟩) (c13 : PySem.W.codeIn K cd13 "marks" = true) (k13 : PySem.W.keepIn K (.ref f13) = true)
    {od14 an14 : Option Addr} {sl14 : Array (Option Value)} {oc14 kV14 dc14 pm14 cd14 ct14 : Value}
    (a14 : PySem.W.nsIn K mainGlobals "with_mark" = some (some (.ref f14))) (l14 : K.lookup f14 = some ⟨oc14, od14, .func (PySem.W.fnOf "with_mark" "with_mark" (defArgs (topS 25)) (defBody (topS 25)) (defScope (topS 25)) .none kV14 dc14 pm14 an14 cd14 ct14), sl14⟩) (c14 : PySem.W.codeIn K cd14 "with_mark" = true) (k14 : PySem.W.keepIn K (.ref f14) = true)
    {od15 an15 : Option Addr} {sl15 : Array (Option Value)} {oc15 kV15 dc15 pm15 cd15 ct15 : Value}
    (a15 : PySem.W.nsIn K mainGlobals "first_of" = some (some (.ref f15))) (l15 : K.lookup f15 = some ⟨oc15, od15, .func (PySem.W.fnOf "first_of" "first_of" (defArgs (topS 28)) (defBody (topS 28)) (defScope (topS 28)) .none kV15 dc15 pm15 an15 cd15 ct15), sl15⟩) (c15 : PySem.W.codeIn K cd15 "first_of" = true) (k15 : PySem.W.keepIn K (.ref f15) = true)
    {od16 an16 : Option Addr} {sl16 : Array (Option Value)} {oc16 kV16 dc16 pm16 cd16 ct16 : Value}
    (a16 : PySem.W.nsIn K mainGlobals "without" = some (some (.ref f16))) (l16 : K.lookup f16 = some ⟨oc16, od16, .func (PySem.W.fnOf "without" "without" (defArgs (topS 29)) (defBody (topS 29)) (defScope (topS 29)) .none kV16 dc16 pm16 an16 cd16 ct16), sl16⟩) (c16 : PySem.W.codeIn K cd16 "without" = true) (k16 : PySem.W.keepIn K (.ref f16) = true)
    {od17 an17 : Option Addr} {sl17 : Array (Option Value)} {oc17 kV17 dc17 pm17 cd17 ct17 : Value}
    (a17 : PySem.W.nsIn K mainGlobals "standard" = some (some (.ref f17))) (l17 : K.lookup f17 = some ⟨oc17, od17, .func (PySem.W.fnOf "standard" "standard" (defArgs (topS 30)) (defBody (topS 30)) (defScope (topS 30)) .none kV17 dc17 pm17 an17 cd17 ct17), sl17⟩) (c17 : PySem.W.codeIn K cd17 "standard" = true) (k17 : PySem.W.keepIn K (.ref f17) = true)
    {od18 an18 : Option Addr} {sl18 : Array (Option Value)} {oc18 kV18 dc18 pm18 cd18 ct18 : Value}
    (a18 : PySem.W.nsIn K mainGlobals "first_redex" = some (some (.ref f18))) (l18 : K.lookup f18 = some ⟨oc18, od18, .func (PySem.W.fnOf "first_redex" "first_redex" (defArgs (topS 31)) (defBody (topS 31)) (defScope (topS 31)) .none kV18 dc18 pm18 an18 cd18 ct18), sl18⟩) (c18 : PySem.W.codeIn K cd18 "first_redex" = true) (k18 : PySem.W.keepIn K (.ref f18) = true)
    {od19 an19 : Option Addr} {sl19 : Array (Option Value)} {oc19 kV19 dc19 pm19 cd19 ct19 : Value}
    (a19 : PySem.W.nsIn K mainGlobals "is_normal" = some (some (.ref f19))) (l19 : K.lookup f19 = some ⟨oc19, od19, .func (PySem.W.fnOf "is_normal" "is_normal" (defArgs (topS 32)) (defBody (topS 32)) (defScope (topS 32)) .none kV19 dc19 pm19 an19 cd19 ct19), sl19⟩) (c19 : PySem.W.codeIn K cd19 "is_normal" = true) (k19 : PySem.W.keepIn K (.ref f19) = true)
    {od20 an20 : Option Addr} {sl20 : Array (Option Value)} {oc20 kV20 dc20 pm20 cd20 ct20 : Value}
    (a20 : PySem.W.nsIn K mainGlobals "normal" = some (some (.ref f20))) (l20 : K.lookup f20 = some ⟨oc20, od20, .func (PySem.W.fnOf "normal" "normal" (defArgs (topS 33)) (defBody (topS 33)) (defScope (topS 33)) .none kV20 dc20 pm20 an20 cd20 ct20), sl20⟩) (c20 : PySem.W.codeIn K cd20 "normal" = true) (k20 : PySem.W.keepIn K (.ref f20) = true)
    {od21 an21 : Option Addr} {sl21 : Array (Option Value)} {oc21 kV21 dc21 pm21 cd21 ct21 : Value}
    (a21 : PySem.W.nsIn K mainGlobals "_law_stream" = some (some (.ref f21))) (l21 : K.lookup f21 = some ⟨oc21, od21, .func (PySem.W.fnOf "_law_stream" "_law_stream" (defArgs (topS 35)) (defBody (topS 35)) (defScope (topS 35)) .none kV21 dc21 pm21 an21 cd21 ct21), sl21⟩) (c21 : PySem.W.codeIn K cd21 "_law_stream" = true) (k21 : PySem.W.keepIn K (.ref f21) = true)
    {od22 an22 : Option Addr} {sl22 : Array (Option Value)} {oc22 kV22 dc22 pm22 cd22 ct22 : Value}
    (a22 : PySem.W.nsIn K mainGlobals "_law_draw" = some (some (.ref f22))) (l22 : K.lookup f22 = some ⟨oc22, od22, .func (PySem.W.fnOf "_law_draw" "_law_draw" (defArgs (topS 36)) (defBody (topS 36)) (defScope (topS 36)) .none kV22 dc22 pm22 an22 cd22 ct22), sl22⟩) (c22 : PySem.W.codeIn K cd22 "_law_draw" = true) (k22 : PySem.W.keepIn K (.ref f22) = true)
    {od23 an23 : Option Addr} {sl23 : Array (Option Value)} {oc23 kV23 dc23 pm23 cd23 ct23 : Value}
    (a23 : PySem.W.nsIn K mainGlobals "_law_is_lam" = some (some (.ref f23))) (l23 : K.lookup f23 = some ⟨oc23, od23, .func (PySem.W.fnOf "_law_is_lam" "_law_is_lam" (defArgs (topS 37)) (defBody (topS 37)) (defScope (topS 37)) .none kV23 dc23 pm23 an23 cd23 ct23), sl23⟩) (c23 : PySem.W.codeIn K cd23 "_law_is_lam" = true) (k23 : PySem.W.keepIn K (.ref f23) = true)
    {od24 an24 : Option Addr} {sl24 : Array (Option Value)} {oc24 kV24 dc24 pm24 cd24 ct24 : Value}
    (a24 : PySem.W.nsIn K mainGlobals "_law_end" = some (some (.ref f24))) (l24 : K.lookup f24 = some ⟨oc24, od24, .func (PySem.W.fnOf "_law_end" "_law_end" (defArgs (topS 38)) (defBody (topS 38)) (defScope (topS 38)) .none kV24 dc24 pm24 an24 cd24 ct24), sl24⟩) (c24 : PySem.W.codeIn K cd24 "_law_end" = true) (k24 : PySem.W.keepIn K (.ref f24) = true)
    {od25 an25 : Option Addr} {sl25 : Array (Option Value)} {oc25 kV25 dc25 pm25 cd25 ct25 : Value}
    (a25 : PySem.W.nsIn K mainGlobals "_law_depths" = some (some (.ref f25))) (l25 : K.lookup f25 = some ⟨oc25, od25, .func (PySem.W.fnOf "_law_depths" "_law_depths" (defArgs (topS 39)) (defBody (topS 39)) (defScope (topS 39)) .none kV25 dc25 pm25 an25 cd25 ct25), sl25⟩) (c25 : PySem.W.codeIn K cd25 "_law_depths" = true) (k25 : PySem.W.keepIn K (.ref f25) = true)
    {od26 an26 : Option Addr} {sl26 : Array (Option Value)} {oc26 kV26 dc26 pm26 cd26 ct26 : Value}
    (a26 : PySem.W.nsIn K mainGlobals "_law_places" = some (some (.ref f26))) (l26 : K.lookup f26 = some ⟨oc26, od26, .func (PySem.W.fnOf "_law_places" "_law_places" (defArgs (topS 42)) (defBody (topS 42)) (defScope (topS 42)) .none kV26 dc26 pm26 an26 cd26 ct26), sl26⟩) (c26 : PySem.W.codeIn K cd26 "_law_places" = true) (k26 : PySem.W.keepIn K (.ref f26) = true)
    {od27 an27 : Option Addr} {sl27 : Array (Option Value)} {oc27 kV27 dc27 pm27 cd27 ct27 : Value}
    (a27 : PySem.W.nsIn K mainGlobals "_law_lift" = some (some (.ref f27))) (l27 : K.lookup f27 = some ⟨oc27, od27, .func (PySem.W.fnOf "_law_lift" "_law_lift" (defArgs (topS 40)) (defBody (topS 40)) (defScope (topS 40)) .none kV27 dc27 pm27 an27 cd27 ct27), sl27⟩) (c27 : PySem.W.codeIn K cd27 "_law_lift" = true) (k27 : PySem.W.keepIn K (.ref f27) = true)
    {od28 an28 : Option Addr} {sl28 : Array (Option Value)} {oc28 kV28 dc28 pm28 cd28 ct28 : Value}
    (a28 : PySem.W.nsIn K mainGlobals "_law_put" = some (some (.ref f28))) (l28 : K.lookup f28 = some ⟨oc28, od28, .func (PySem.W.fnOf "_law_put" "_law_put" (defArgs (topS 41)) (defBody (topS 41)) (defScope (topS 41)) .none kV28 dc28 pm28 an28 cd28 ct28), sl28⟩) (c28 : PySem.W.codeIn K cd28 "_law_put" = true) (k28 : PySem.W.keepIn K (.ref f28) = true)
    {od29 an29 : Option Addr} {sl29 : Array (Option Value)} {oc29 kV29 dc29 pm29 cd29 ct29 : Value}
    (a29 : PySem.W.nsIn K mainGlobals "_law_redexes" = some (some (.ref f29))) (l29 : K.lookup f29 = some ⟨oc29, od29, .func (PySem.W.fnOf "_law_redexes" "_law_redexes" (defArgs (topS 43)) (defBody (topS 43)) (defScope (topS 43)) .none kV29 dc29 pm29 an29 cd29 ct29), sl29⟩) (c29 : PySem.W.codeIn K cd29 "_law_redexes" = true) (k29 : PySem.W.keepIn K (.ref f29) = true)
    {od30 an30 : Option Addr} {sl30 : Array (Option Value)} {oc30 kV30 dc30 pm30 cd30 ct30 : Value}
    (a30 : PySem.W.nsIn K mainGlobals "_law_step" = some (some (.ref f30))) (l30 : K.lookup f30 = some ⟨oc30, od30, .func (PySem.W.fnOf "_law_step" "_law_step" (defArgs (topS 44)) (defBody (topS 44)) (defScope (topS 44)) .none kV30 dc30 pm30 an30 cd30 ct30), sl30⟩) (c30 : PySem.W.codeIn K cd30 "_law_step" = true) (k30 : PySem.W.keepIn K (.ref f30) = true)
    {od31 an31 : Option Addr} {sl31 : Array (Option Value)} {oc31 kV31 dc31 pm31 cd31 ct31 : Value}
    (a31 : PySem.W.nsIn K mainGlobals "_law_term" = some (some (.ref f31))) (l31 : K.lookup f31 = some ⟨oc31, od31, .func (PySem.W.fnOf "_law_term" "_law_term" (defArgs (topS 45)) (defBody (topS 45)) (defScope (topS 45)) .none kV31 dc31 pm31 an31 cd31 ct31), sl31⟩) (c31 : PySem.W.codeIn K cd31 "_law_term" = true) (k31 : PySem.W.keepIn K (.ref f31) = true)
    {od32 an32 : Option Addr} {sl32 : Array (Option Value)} {oc32 kV32 dc32 pm32 cd32 ct32 : Value}
    (a32 : PySem.W.nsIn K mainGlobals "_law_closed_term" = some (some (.ref f32))) (l32 : K.lookup f32 = some ⟨oc32, od32, .func (PySem.W.fnOf "_law_closed_term" "_law_closed_term" (defArgs (topS 46)) (defBody (topS 46)) (defScope (topS 46)) .none kV32 dc32 pm32 an32 cd32 ct32), sl32⟩) (c32 : PySem.W.codeIn K cd32 "_law_closed_term" = true) (k32 : PySem.W.keepIn K (.ref f32) = true)
    {od33 an33 : Option Addr} {sl33 : Array (Option Value)} {oc33 kV33 dc33 pm33 cd33 ct33 : Value}
    (a33 : PySem.W.nsIn K mainGlobals "_law_rich" = some (some (.ref f33))) (l33 : K.lookup f33 = some ⟨oc33, od33, .func (PySem.W.fnOf "_law_rich" "_law_rich" (defArgs (topS 47)) (defBody (topS 47)) (defScope (topS 47)) .none kV33 dc33 pm33 an33 cd33 ct33), sl33⟩) (c33 : PySem.W.codeIn K cd33 "_law_rich" = true) (k33 : PySem.W.keepIn K (.ref f33) = true)
    {od34 an34 : Option Addr} {sl34 : Array (Option Value)} {oc34 kV34 dc34 pm34 cd34 ct34 : Value}
    (a34 : PySem.W.nsIn K mainGlobals "_law_road" = some (some (.ref f34))) (l34 : K.lookup f34 = some ⟨oc34, od34, .func (PySem.W.fnOf "_law_road" "_law_road" (defArgs (topS 48)) (defBody (topS 48)) (defScope (topS 48)) .none kV34 dc34 pm34 an34 cd34 ct34), sl34⟩) (c34 : PySem.W.codeIn K cd34 "_law_road" = true) (k34 : PySem.W.keepIn K (.ref f34) = true)
    {od35 an35 : Option Addr} {sl35 : Array (Option Value)} {oc35 kV35 dc35 pm35 cd35 ct35 : Value}
    (a35 : PySem.W.nsIn K mainGlobals "_law_passed" = some (some (.ref f35))) (l35 : K.lookup f35 = some ⟨oc35, od35, .func (PySem.W.fnOf "_law_passed" "_law_passed" (defArgs (topS 49)) (defBody (topS 49)) (defScope (topS 49)) .none kV35 dc35 pm35 an35 cd35 ct35), sl35⟩) (c35 : PySem.W.codeIn K cd35 "_law_passed" = true) (k35 : PySem.W.keepIn K (.ref f35) = true)
    {od36 an36 : Option Addr} {sl36 : Array (Option Value)} {oc36 kV36 dc36 pm36 cd36 ct36 : Value}
    (a36 : PySem.W.nsIn K mainGlobals "_law_normal" = some (some (.ref f36))) (l36 : K.lookup f36 = some ⟨oc36, od36, .func (PySem.W.fnOf "_law_normal" "_law_normal" (defArgs (topS 50)) (defBody (topS 50)) (defScope (topS 50)) .none kV36 dc36 pm36 an36 cd36 ct36), sl36⟩) (c36 : PySem.W.codeIn K cd36 "_law_normal" = true) (k36 : PySem.W.keepIn K (.ref f36) = true)
    {od37 an37 : Option Addr} {sl37 : Array (Option Value)} {oc37 kV37 dc37 pm37 cd37 ct37 : Value}
    (a37 : PySem.W.nsIn K mainGlobals "_law_told" = some (some (.ref f37))) (l37 : K.lookup f37 = some ⟨oc37, od37, .func (PySem.W.fnOf "_law_told" "_law_told" (defArgs (topS 51)) (defBody (topS 51)) (defScope (topS 51)) .none kV37 dc37 pm37 an37 cd37 ct37), sl37⟩) (c37 : PySem.W.codeIn K cd37 "_law_told" = true) (k37 : PySem.W.keepIn K (.ref f37) = true)
    {od38 an38 : Option Addr} {sl38 : Array (Option Value)} {oc38 kV38 dc38 pm38 cd38 ct38 : Value}
    (a38 : PySem.W.nsIn K mainGlobals "law" = some (some (.ref f38))) (l38 : K.lookup f38 = some ⟨oc38, od38, .func (PySem.W.fnOf "law" "law" (defArgs (topS 52)) (defBody (topS 52)) (defScope (topS 52)) .none kV38 dc38 pm38 an38 cd38 ct38), sl38⟩) (c38 : PySem.W.codeIn K cd38 "law" = true) (k38 : PySem.W.keepIn K (.ref f38) = true)
    (gT : PySem.W.nsIn K mainGlobals "TooLarge" = some (some (.ref CT))) (xT : PySem.W.excIn K CT [.type "ValueError", .type "Exception", .type "BaseException", .type "object"] "ValueError.__new__" = true) (qT : PySem.W.keepIn K (.ref CT) = true) (bT : PySem.W.subIn K (.ref CT) (.type "BaseException") = some true) (tT : PySem.W.typeIn K (.ref CT) = some (.type "type")) (iT : PySem.W.isClsIn K CT = true)
    (gR : PySem.W.nsIn K mainGlobals "NoRedex" = some (some (.ref CR))) (xR : PySem.W.excIn K CR [.type "ValueError", .type "Exception", .type "BaseException", .type "object"] "ValueError.__new__" = true) (qR : PySem.W.keepIn K (.ref CR) = true) (bR : PySem.W.subIn K (.ref CR) (.type "BaseException") = some true) (tR : PySem.W.typeIn K (.ref CR) = some (.type "type")) (iR : PySem.W.isClsIn K CR = true)
    (gO : PySem.W.nsIn K mainGlobals "OutOfSteps" = some (some (.ref CO))) (xO : PySem.W.excIn K CO [.type "ValueError", .type "Exception", .type "BaseException", .type "object"] "ValueError.__new__" = true) (qO : PySem.W.keepIn K (.ref CO) = true) (bO : PySem.W.subIn K (.ref CO) (.type "BaseException") = some true) (tO : PySem.W.typeIn K (.ref CO) = some (.type "type")) (iO : PySem.W.isClsIn K CO = true)
    (sTT : PySem.W.subIn K (.ref CT) (.ref CT) = some true) (sOO : PySem.W.subIn K (.ref CO) (.ref CO) = some true) (sTO : PySem.W.subIn K (.ref CT) (.ref CO) = some false)
    (z0 : PySem.W.nsIn K mainGlobals "len" = some none)
    (z1 : PySem.W.nsIn K mainGlobals "max" = some none)
    (z2 : PySem.W.nsIn K mainGlobals "isinstance" = some none)
    (z3 : PySem.W.nsIn K mainGlobals "int" = some none)
    (z4 : PySem.W.nsIn K mainGlobals "tuple" = some none)
    (z5 : PySem.W.nsIn K mainGlobals "zip" = some none)
    (z6 : PySem.W.nsIn K mainGlobals "enumerate" = some none)
    (z7 : PySem.W.nsIn K mainGlobals "range" = some none)
    (z8 : PySem.W.nsIn K mainGlobals "any" = some none)
    (z9 : PySem.W.nsIn K mainGlobals "list" = some none)
    (z10 : PySem.W.nsIn K mainGlobals "abs" = some none)
    {tk0 : Tok} (m0 : PySem.W.nsIn K mainGlobals "MOST_NODES" = some (some (.int 1000 tk0)))
    {tk1 : Tok} (m1 : PySem.W.nsIn K mainGlobals "MOST_VARIABLE" = some (some (.int 1000000 tk1)))
    {tk2 : Tok} (m2 : PySem.W.nsIn K mainGlobals "MOST_ROAD" = some (some (.int 200 tk2))) :
    ∃ fd : FuncData, (∀ (s : Shared) (v : Value), BindsTo s fd ⟨[v], []⟩ [("_law_script", v)]) ∧ ∀ base : Heap, K.In base → base.Ns mainGlobals mg → FnOk l.prog w K mg base CX0 22 fa fd ["_law_script"] (spLaw K) := by
  have e := hfa.symm.trans (PySem.W.mg_of X G a38)
  cases e
  have Z : Glb K mg := ⟨PySem.W.mg_none_of X G z0, PySem.W.mg_none_of X G z1, PySem.W.mg_none_of X G z2, PySem.W.mg_none_of X G z3, PySem.W.mg_none_of X G z4, PySem.W.mg_none_of X G z5, PySem.W.mg_none_of X G z6, PySem.W.mg_none_of X G z7, PySem.W.mg_none_of X G z8, PySem.W.mg_none_of X G z9, PySem.W.mg_none_of X G z10, ⟨_, PySem.W.mg_of X G m0⟩, ⟨_, PySem.W.mg_of X G m1⟩, ⟨_, PySem.W.mg_of X G m2⟩⟩
  have ZT : Err K mg "TooLarge" CT := ⟨PySem.W.mg_of X G gT, xT, qT, bT, tT⟩
  have ZR : Err K mg "NoRedex" CR := ⟨PySem.W.mg_of X G gR, xR, qR, bR, tR⟩
  have ZO : Err K mg "OutOfSteps" CO := ⟨PySem.W.mg_of X G gO, xO, qO, bO, tO⟩
  have XS : Exs K CT CO := ⟨exm_of bT iT tT sTT, exm_of bO iO tO sOO, exm_of bO iO tO sTO⟩
  have F0 := fun_mk (st := topS 9) l0 c0 k0
  have b0_ := F0.binds (ps := ["nodes", "start"]) fun _ _ _ _ _ _ us hl => match us, hl with | [_, _], _ => rfl
  have F1 := fun_mk (st := topS 10) l1 c1 k1
  have b1_ := F1.binds (ps := ["nodes"]) fun _ _ _ _ _ _ us hl => match us, hl with | [_], _ => rfl
  have F2 := fun_mk (st := topS 11) l2 c2 k2
  have b2_ := F2.binds (ps := ["nodes", "count"]) fun _ _ _ _ _ _ us hl => match us, hl with | [_, _], _ => rfl
  have F3 := fun_mk (st := topS 8) l3 c3 k3
  have b3_ := F3.binds (ps := ["nodes"]) fun _ _ _ _ _ _ us hl => match us, hl with | [_], _ => rfl
  have F4 := fun_mk (st := topS 12) l4 c4 k4
  have b4_ := F4.binds (ps := ["nodes", "value"]) fun _ _ _ _ _ _ us hl => match us, hl with | [_, _], _ => rfl
  have F5 := fun_mk (st := topS 14) l5 c5 k5
  have b5_ := F5.binds (ps := ["nodes"]) fun _ _ _ _ _ _ us hl => match us, hl with | [_], _ => rfl
  have F6 := fun_mk (st := topS 15) l6 c6 k6
  have b6_ := F6.binds (ps := ["nodes", "place"]) fun _ _ _ _ _ _ us hl => match us, hl with | [_, _], _ => rfl
  have F7 := fun_mk (st := topS 17) l7 c7 k7
  have b7_ := F7.binds (ps := ["nodes", "at"]) fun _ _ _ _ _ _ us hl => match us, hl with | [_, _], _ => rfl
  have F8 := fun_mk (st := topS 18) l8 c8 k8
  have b8_ := F8.binds (ps := ["term"]) fun _ _ _ _ _ _ us hl => match us, hl with | [_], _ => rfl
  have F9 := fun_mk (st := topS 19) l9 c9 k9
  have b9_ := F9.binds (ps := ["nodes", "place"]) fun _ _ _ _ _ _ us hl => match us, hl with | [_, _], _ => rfl
  have F10 := fun_mk (st := topS 20) l10 c10 k10
  have b10_ := F10.binds (ps := ["term", "road"]) fun _ _ _ _ _ _ us hl => match us, hl with | [_, _], _ => rfl
  have F11 := fun_mk (st := topS 22) l11 c11 k11
  have b11_ := F11.binds (ps := ["nodes"]) fun _ _ _ _ _ _ us hl => match us, hl with | [_], _ => rfl
  have F12 := fun_mk (st := topS 23) l12 c12 k12
  have b12_ := F12.binds (ps := ["nodes", "place"]) fun _ _ _ _ _ _ us hl => match us, hl with | [_, _], _ => rfl
  have F13 := fun_mk (st := topS 24) l13 c13 k13
  have b13_ := F13.binds (ps := ["nodes"]) fun _ _ _ _ _ _ us hl => match us, hl with | [_], _ => rfl
  have F14 := fun_mk (st := topS 25) l14 c14 k14
  have b14_ := F14.binds (ps := ["nodes", "mark"]) fun _ _ _ _ _ _ us hl => match us, hl with | [_, _], _ => rfl
  have F15 := fun_mk (st := topS 28) l15 c15 k15
  have b15_ := F15.binds (ps := ["term", "road"]) fun _ _ _ _ _ _ us hl => match us, hl with | [_, _], _ => rfl
  have F16 := fun_mk (st := topS 29) l16 c16 k16
  have b16_ := F16.binds (ps := ["term", "place", "road"]) fun _ _ _ _ _ _ us hl => match us, hl with | [_, _, _], _ => rfl
  have F17 := fun_mk (st := topS 30) l17 c17 k17
  have b17_ := F17.binds (ps := ["term", "road"]) fun _ _ _ _ _ _ us hl => match us, hl with | [_, _], _ => rfl
  have F18 := fun_mk (st := topS 31) l18 c18 k18
  have b18_ := F18.binds (ps := ["term"]) fun _ _ _ _ _ _ us hl => match us, hl with | [_], _ => rfl
  have F19 := fun_mk (st := topS 32) l19 c19 k19
  have b19_ := F19.binds (ps := ["term"]) fun _ _ _ _ _ _ us hl => match us, hl with | [_], _ => rfl
  have F20 := fun_mk (st := topS 33) l20 c20 k20
  have b20_ := F20.binds (ps := ["term", "steps"]) fun _ _ _ _ _ _ us hl => match us, hl with | [_, _], _ => rfl
  have F21 := fun_mk (st := topS 35) l21 c21 k21
  have b21_ := F21.binds (ps := ["_law_script"]) fun _ _ _ _ _ _ us hl => match us, hl with | [_], _ => rfl
  have F22 := fun_mk (st := topS 36) l22 c22 k22
  have b22_ := F22.binds (ps := ["_law_stream_here", "_law_many"]) fun _ _ _ _ _ _ us hl => match us, hl with | [_, _], _ => rfl
  have F23 := fun_mk (st := topS 37) l23 c23 k23
  have b23_ := F23.binds (ps := ["_law_node"]) fun _ _ _ _ _ _ us hl => match us, hl with | [_], _ => rfl
  have F24 := fun_mk (st := topS 38) l24 c24 k24
  have b24_ := F24.binds (ps := ["_law_term_here", "_law_at"]) fun _ _ _ _ _ _ us hl => match us, hl with | [_, _], _ => rfl
  have F25 := fun_mk (st := topS 39) l25 c25 k25
  have b25_ := F25.binds (ps := ["_law_term_here"]) fun _ _ _ _ _ _ us hl => match us, hl with | [_], _ => rfl
  have F26 := fun_mk (st := topS 42) l26 c26 k26
  have b26_ := F26.binds (ps := ["_law_term_here"]) fun _ _ _ _ _ _ us hl => match us, hl with | [_], _ => rfl
  have F27 := fun_mk (st := topS 40) l27 c27 k27
  have b27_ := F27.binds (ps := ["_law_term_here", "_law_count"]) fun _ _ _ _ _ _ us hl => match us, hl with | [_, _], _ => rfl
  have F28 := fun_mk (st := topS 41) l28 c28 k28
  have b28_ := F28.binds (ps := ["_law_term_here", "_law_value"]) fun _ _ _ _ _ _ us hl => match us, hl with | [_, _], _ => rfl
  have F29 := fun_mk (st := topS 43) l29 c29 k29
  have b29_ := F29.binds (ps := ["_law_term_here"]) fun _ _ _ _ _ _ us hl => match us, hl with | [_], _ => rfl
  have F30 := fun_mk (st := topS 44) l30 c30 k30
  have b30_ := F30.binds (ps := ["_law_term_here", "_law_place"]) fun _ _ _ _ _ _ us hl => match us, hl with | [_, _], _ => rfl
  have F31 := fun_mk (st := topS 45) l31 c31 k31
  have b31_ := F31.binds (ps := ["_law_stream_here", "_law_size", "_law_depth"]) fun _ _ _ _ _ _ us hl => match us, hl with | [_, _, _], _ => rfl
  have F32 := fun_mk (st := topS 46) l32 c32 k32
  have b32_ := F32.binds (ps := ["_law_stream_here"]) fun _ _ _ _ _ _ us hl => match us, hl with | [_], _ => rfl
  have F33 := fun_mk (st := topS 47) l33 c33 k33
  have b33_ := F33.binds (ps := ["_law_stream_here", "_law_size"]) fun _ _ _ _ _ _ us hl => match us, hl with | [_, _], _ => rfl
  have F34 := fun_mk (st := topS 48) l34 c34 k34
  have b34_ := F34.binds (ps := ["_law_stream_here", "_law_term_here", "_law_many"]) fun _ _ _ _ _ _ us hl => match us, hl with | [_, _, _], _ => rfl
  have F35 := fun_mk (st := topS 49) l35 c35 k35
  have b35_ := F35.binds (ps := ["_law_term_here", "_law_road_here"]) fun _ _ _ _ _ _ us hl => match us, hl with | [_, _], _ => rfl
  have F36 := fun_mk (st := topS 50) l36 c36 k36
  have b36_ := F36.binds (ps := ["_law_term_here"]) fun _ _ _ _ _ _ us hl => match us, hl with | [_], _ => rfl
  have F37 := fun_mk (st := topS 51) l37 c37 k37
  have b37_ := F37.binds (ps := ["_law_term_here", "_law_road_here"]) fun _ _ _ _ _ _ us hl => match us, hl with | [_, _], _ => rfl
  have F38 := fun_mk (st := topS 52) l38 c38 k38
  refine ⟨PySem.W.fnOf "law" "law" (defArgs (topS 52)) (defBody (topS 52)) (defScope (topS 52)) .none kV38 dc38 pm38 an38 cd38 ct38, fun s v => .of_eq rfl, fun base _ _ => ?_⟩
  have D_end_of : Df l.prog w K mg base CX0 1 "end_of" ["nodes", "start"] (spEnd K) := ⟨f0, _, ok_end F0 Z , b0_, PySem.W.mg_of X G a0, k0⟩
  have D_depths : Df l.prog w K mg base CX0 1 "depths" ["nodes"] (spDep K) := ⟨f1, _, ok_depths F1 Z , b1_, PySem.W.mg_of X G a1, k1⟩
  have D_lifted : Df l.prog w K mg base CX0 2 "lifted" ["nodes", "count"] (spLift K) := ⟨f2, _, ok_lifted F2 Z D_depths, b2_, PySem.W.mg_of X G a2, k2⟩
  have D_checked : Df l.prog w K mg base (L2.CX l.prog w) 1 "checked" ["nodes"] (spCk K CT) := ⟨f3, _, ok_checked F3 Z ZT, b3_, PySem.W.mg_of X G a3, k3⟩
  have D_placed : Df l.prog w K mg base (L2.CX l.prog w) 3 "placed" ["nodes", "value"] (spPut K CT) := ⟨f4, _, ok_placed F4 Z ZT D_depths D_lifted D_checked, b4_, PySem.W.mg_of X G a4, k4⟩
  have D_placed_nodes : Df l.prog w K mg base CX0 1 "placed_nodes" ["nodes"] (spPl K) := ⟨f5, _, ok_placed_nodes F5 Z , b5_, PySem.W.mg_of X G a5, k5⟩
  have D_index_of : Df l.prog w K mg base CX0 2 "index_of" ["nodes", "place"] (spIx K) := ⟨f6, _, ok_index_of F6 Z D_end_of, b6_, PySem.W.mg_of X G a6, k6⟩
  have D_is_redex : Df l.prog w K mg base CX0 1 "is_redex" ["nodes", "at"] (spRx K) := ⟨f7, _, ok_is_redex F7 Z , b7_, PySem.W.mg_of X G a7, k7⟩
  have D_redexes : Df l.prog w K mg base CX0 2 "redexes" ["term"] (spRds K) := ⟨f8, _, ok_redexes F8 Z D_placed_nodes D_is_redex, b8_, PySem.W.mg_of X G a8, k8⟩
  have D_stepped : Df l.prog w K mg base (L2.CX l.prog w) 4 "stepped" ["nodes", "place"] (spSt K CT) := ⟨f9, _, ok_stepped F9 Z ZT ZR D_index_of D_is_redex D_end_of D_placed, b9_, PySem.W.mg_of X G a9, k9⟩
  have D_follow : Df l.prog w K mg base (L2.CX l.prog w) 5 "follow" ["term", "road"] (spFo K) := ⟨f10, _, ok_follow F10 Z D_stepped, b10_, PySem.W.mg_of X G a10, k10⟩
  have D_marked : Df l.prog w K mg base CX0 1 "marked" ["nodes"] (spMk K) := ⟨f11, _, ok_marked F11 Z , b11_, PySem.W.mg_of X G a11, k11⟩
  have D_mark_at : Df l.prog w K mg base CX0 3 "mark_at" ["nodes", "place"] (spMa K) := ⟨f12, _, ok_mark_at F12 Z D_index_of D_is_redex, b12_, PySem.W.mg_of X G a12, k12⟩
  have D_marks : Df l.prog w K mg base CX0 2 "marks" ["nodes"] (spMs K) := ⟨f13, _, ok_marks F13 Z D_placed_nodes D_is_redex, b13_, PySem.W.mg_of X G a13, k13⟩
  have D_with_mark : Df l.prog w K mg base CX0 3 "with_mark" ["nodes", "mark"] (spWm K) := ⟨f14, _, ok_with_mark F14 Z D_marks, b14_, PySem.W.mg_of X G a14, k14⟩
  have D_first_of : Df l.prog w K mg base (L2.CX l.prog w) 5 "first_of" ["term", "road"] (spFi K CT) := ⟨f15, _, ok_first_of F15 Z ZR D_marked D_mark_at D_stepped D_marks, b15_, PySem.W.mg_of X G a15, k15⟩
  have D_without : Df l.prog w K mg base (L2.CX l.prog w) 5 "without" ["term", "place", "road"] (spWo K CT) := ⟨f16, _, ok_without F16 Z ZT D_marked D_mark_at D_stepped D_with_mark, b16_, PySem.W.mg_of X G a16, k16⟩
  have D_standard : Df l.prog w K mg base (L2.CX l.prog w) 6 "standard" ["term", "road"] (spSd K CT) := ⟨f17, _, ok_standard F17 Z ZT D_first_of D_without D_stepped, b17_, PySem.W.mg_of X G a17, k17⟩
  have D_first_redex : Df l.prog w K mg base CX0 3 "first_redex" ["term"] (spFr K) := ⟨f18, _, ok_first_redex F18 Z D_redexes, b18_, PySem.W.mg_of X G a18, k18⟩
  have D_is_normal : Df l.prog w K mg base CX0 2 "is_normal" ["term"] (spIn K) := ⟨f19, _, ok_is_normal F19 Z D_is_redex, b19_, PySem.W.mg_of X G a19, k19⟩
  have D_normal : Df l.prog w K mg base (L2.CX l.prog w) 5 "normal" ["term", "steps"] (spNo K CT CO) := ⟨f20, _, ok_normal F20 Z ZO D_is_normal D_first_redex D_stepped, b20_, PySem.W.mg_of X G a20, k20⟩
  have D_law_stream : Df l.prog w K mg base CX0 1 "_law_stream" ["_law_script"] (spStr K) := ⟨f21, _, ok_law_stream F21 Z , b21_, PySem.W.mg_of X G a21, k21⟩
  have D_law_draw : Df l.prog w K mg base CX0 1 "_law_draw" ["_law_stream_here", "_law_many"] (spDr K) := ⟨f22, _, ok_law_draw F22 Z , b22_, PySem.W.mg_of X G a22, k22⟩
  have D_law_is_lam : Df l.prog w K mg base CX0 1 "_law_is_lam" ["_law_node"] (spIl K) := ⟨f23, _, ok_law_is_lam F23 Z , b23_, PySem.W.mg_of X G a23, k23⟩
  have D_law_end : Df l.prog w K mg base CX0 2 "_law_end" ["_law_term_here", "_law_at"] (spEnd K) := ⟨f24, _, ok_law_end F24 Z D_law_is_lam, b24_, PySem.W.mg_of X G a24, k24⟩
  have D_law_depths : Df l.prog w K mg base CX0 2 "_law_depths" ["_law_term_here"] (spDep K) := ⟨f25, _, ok_law_depths F25 Z D_law_is_lam, b25_, PySem.W.mg_of X G a25, k25⟩
  have D_law_places : Df l.prog w K mg base CX0 2 "_law_places" ["_law_term_here"] (spPl K) := ⟨f26, _, ok_law_places F26 Z D_law_is_lam, b26_, PySem.W.mg_of X G a26, k26⟩
  have D_law_lift : Df l.prog w K mg base CX0 3 "_law_lift" ["_law_term_here", "_law_count"] (spLift K) := ⟨f27, _, ok_law_lift F27 Z D_law_depths, b27_, PySem.W.mg_of X G a27, k27⟩
  have D_law_put : Df l.prog w K mg base CX0 4 "_law_put" ["_law_term_here", "_law_value"] (spLPut K) := ⟨f28, _, ok_law_put F28 Z D_law_depths D_law_lift, b28_, PySem.W.mg_of X G a28, k28⟩
  have D_law_redexes : Df l.prog w K mg base CX0 3 "_law_redexes" ["_law_term_here"] (spRds K) := ⟨f29, _, ok_law_redexes F29 Z D_law_places D_law_is_lam, b29_, PySem.W.mg_of X G a29, k29⟩
  have D_law_step : Df l.prog w K mg base CX0 5 "_law_step" ["_law_term_here", "_law_place"] (spLSt K) := ⟨f30, _, ok_law_step F30 Z D_law_places D_law_end D_law_put, b30_, PySem.W.mg_of X G a30, k30⟩
  have D_law_term : Df l.prog w K mg base CX0 13 "_law_term" ["_law_stream_here", "_law_size", "_law_depth"] (spTm K 12) := ⟨f31, _, term_all F31 Z D_law_draw b31_ (PySem.W.mg_of X G a31) k31 12, b31_, PySem.W.mg_of X G a31, k31⟩
  have D_law_closed_term : Df l.prog w K mg base CX0 2 "_law_closed_term" ["_law_stream_here"] (spCl K) := ⟨f32, _, ok_law_closed_term F32 Z D_law_draw, b32_, PySem.W.mg_of X G a32, k32⟩
  have D_law_rich : Df l.prog w K mg base CX0 21 "_law_rich" ["_law_stream_here", "_law_size"] (spRi K 7) := ⟨f33, _, rich_all F33 Z D_law_draw D_law_closed_term D_law_term b33_ (PySem.W.mg_of X G a33) k33 7, b33_, PySem.W.mg_of X G a33, k33⟩
  have D_law_road : Df l.prog w K mg base CX0 6 "_law_road" ["_law_stream_here", "_law_term_here", "_law_many"] (spRo K) := ⟨f34, _, ok_law_road F34 Z D_law_redexes D_law_draw D_law_step, b34_, PySem.W.mg_of X G a34, k34⟩
  have D_law_passed : Df l.prog w K mg base CX0 6 "_law_passed" ["_law_term_here", "_law_road_here"] (spPa K) := ⟨f35, _, ok_law_passed F35 Z D_law_redexes D_law_step, b35_, PySem.W.mg_of X G a35, k35⟩
  have D_law_normal : Df l.prog w K mg base CX0 6 "_law_normal" ["_law_term_here"] (spLn K) := ⟨f36, _, ok_law_normal F36 Z ZT ZO XS D_normal, b36_, PySem.W.mg_of X G a36, k36⟩
  have D_law_told : Df l.prog w K mg base CX0 7 "_law_told" ["_law_term_here", "_law_road_here"] (spLt K) := ⟨f37, _, ok_law_told F37 Z ZT XS D_standard, b37_, PySem.W.mg_of X G a37, k37⟩
  exact ok_law F38 Z D_law_stream D_law_draw D_law_rich D_law_road D_law_passed D_follow D_law_redexes D_law_normal D_law_told
theorem walk {l : PySem.W.OpenLaw} {q : Program} {loose : List Str} {XP : (Str → Option Value) → Heap → Prop} {YP : World → Heap → Prop} {d : DefRec} {K : Params → PySem.W.Frag} (hn : l.most = some 63) (hdf : d.params.defaults = [])
    (hY : ∀ (w : World) (h : Heap), YP w h → (K w.params).In h)
    (F : ∀ (w : World) (mg : Str → Option Value) (fa : Addr) (h : Heap), (K w.params).In h → h.Ns mainGlobals mg → mg d.name = some (.ref fa) →
      ∃ fd : FuncData, (∀ (s : Shared) (u : Value), BindsTo s fd ⟨[u], []⟩ [("_law_script", u)]) ∧ ∀ base : Heap, (K w.params).In base → base.Ns mainGlobals mg → FnOk l.prog w (K w.params) mg base CX0 22 fa fd ["_law_script"] (spLaw (K w.params))) :
    PySem.W.WalkO q loose XP YP l.row.toRowW d [] (fun f vs => PySem.call f vs) :=
  L2.walk_of (n := 63) (k := 22) (x := "_law_script") (CX := fun _ => CX0) (sp := fun w => spLaw (K w.params)) hn (by decide) hdf ⟨rfl, by decide, by decide⟩ hY F (fun _ _ a ns hl _ hS => ⟨a, ns, rfl, hS, hl, fun _ => rfl⟩) fun _ _ _ _ _ z => z
end Lyd

open PySem PySem.W PyProof.Rows
set_option maxRecDepth 100000 in
set_option maxHeartbeats 0 in
theorem PySem.Challenge.cw_lydite_k33_whole_all_roads_to_normal_ter_holds : PySem.Challenge.rw_lydite_k33_whole_all_roads_to_normal_ter.Holds := by
  w_on; o_law; k_head; (case hw => w_witness2)
  k_fill
  refine Lyd.walk (l := PySem.Challenge.rw_lydite_k33_whole_all_roads_to_normal_ter) rfl rfl (fun w h Y => PySem.W.kIn_of Y) ?F
  case F =>
    intro w mg fa h KX G hmg
    refine' Lyd.all_mk KX G hmg ?a0 ?l0 ?c0 ?k0 ?a1 ?l1 ?c1 ?k1 ?a2 ?l2 ?c2 ?k2 ?a3 ?l3 ?c3 ?k3 ?a4 ?l4 ?c4 ?k4 ?a5 ?l5 ?c5 ?k5 ?a6 ?l6 ?c6 ?k6 ?a7 ?l7 ?c7 ?k7 ?a8 ?l8 ?c8 ?k8 ?a9 ?l9 ?c9 ?k9 ?a10 ?l10 ?c10 ?k10 ?a11 ?l11 ?c11 ?k11 ?a12 ?l12 ?c12 ?k12 ?a13 ?l13 ?c13 ?k13 ?a14 ?l14 ?c14 ?k14 ?a15 ?l15 ?c15 ?k15 ?a16 ?l16 ?c16 ?k16 ?a17 ?l17 ?c17 ?k17 ?a18 ?l18 ?c18 ?k18 ?a19 ?l19 ?c19 ?k19 ?a20 ?l20 ?c20 ?k20 ?a21 ?l21 ?c21 ?k21 ?a22 ?l22 ?c22 ?k22 ?a23 ?l23 ?c23 ?k23 ?a24 ?l24 ?c24 ?k24 ?a25 ?l25 ?c25 ?k25 ?a26 ?l26 ?c26 ?k26 ?a27 ?l27 ?c27 ?k27 ?a28 ?l28 ?c28 ?k28 ?a29 ?l29 ?c29 ?k29 ?a30 ?l30 ?c30 ?k30 ?a31 ?l31 ?c31 ?k31 ?a32 ?l32 ?c32 ?k32 ?a33 ?l33 ?c33 ?k33 ?a34 ?l34 ?c34 ?k34 ?a35 ?l35 ?c35 ?k35 ?a36 ?l36 ?c36 ?k36 ?a37 ?l37 ?c37 ?k37 ?a38 ?l38 ?c38 ?k38 ?gT ?xT ?qT ?bT ?tT ?iT ?gR ?xR ?qR ?bR ?tR ?iR ?gO ?xO ?qO ?bO ?tO ?iO ?sTT ?sOO ?sTO ?z0 ?z1 ?z2 ?z3 ?z4 ?z5 ?z6 ?z7 ?z8 ?z9 ?z10 ?m0 ?m1 ?m2
    (case a0 => k_is)
    (case l0 => k_is)
    (case c0 => k_is)
    (case k0 => k_is)
    (case a1 => k_is)
    (case l1 => k_is)
    (case c1 => k_is)
    (case k1 => k_is)
    (case a2 => k_is)
    (case l2 => k_is)
    (case c2 => k_is)
    (case k2 => k_is)
    (case a3 => k_is)
    (case l3 => k_is)
    (case c3 => k_is)
    (case k3 => k_is)
    (case a4 => k_is)
    (case l4 => k_is)
    (case c4 => k_is)
    (case k4 => k_is)
    (case a5 => k_is)
    (case l5 => k_is)
    (case c5 => k_is)
    (case k5 => k_is)
    (case a6 => k_is)
    (case l6 => k_is)
    (case c6 => k_is)
    (case k6 => k_is)
    (case a7 => k_is)
    (case l7 => k_is)
    (case c7 => k_is)
    (case k7 => k_is)
    (case a8 => k_is)
    (case l8 => k_is)
    (case c8 => k_is)
    (case k8 => k_is)
    (case a9 => k_is)
    (case l9 => k_is)
    (case c9 => k_is)
    (case k9 => k_is)
    (case a10 => k_is)
    (case l10 => k_is)
    (case c10 => k_is)
    (case k10 => k_is)
    (case a11 => k_is)
    (case l11 => k_is)
    (case c11 => k_is)
    (case k11 => k_is)
    (case a12 => k_is)
    (case l12 => k_is)
    (case c12 => k_is)
    (case k12 => k_is)
    (case a13 => k_is)
    (case l13 => k_is)
    (case c13 => k_is)
    (case k13 => k_is)
    (case a14 => k_is)
    (case l14 => k_is)
    (case c14 => k_is)
    (case k14 => k_is)
    (case a15 => k_is)
    (case l15 => k_is)
    (case c15 => k_is)
    (case k15 => k_is)
    (case a16 => k_is)
    (case l16 => k_is)
    (case c16 => k_is)
    (case k16 => k_is)
    (case a17 => k_is)
    (case l17 => k_is)
    (case c17 => k_is)
    (case k17 => k_is)
    (case a18 => k_is)
    (case l18 => k_is)
    (case c18 => k_is)
    (case k18 => k_is)
    (case a19 => k_is)
    (case l19 => k_is)
    (case c19 => k_is)
    (case k19 => k_is)
    (case a20 => k_is)
    (case l20 => k_is)
    (case c20 => k_is)
    (case k20 => k_is)
    (case a21 => k_is)
    (case l21 => k_is)
    (case c21 => k_is)
    (case k21 => k_is)
    (case a22 => k_is)
    (case l22 => k_is)
    (case c22 => k_is)
    (case k22 => k_is)
    (case a23 => k_is)
    (case l23 => k_is)
    (case c23 => k_is)
    (case k23 => k_is)
    (case a24 => k_is)
    (case l24 => k_is)
    (case c24 => k_is)
    (case k24 => k_is)
    (case a25 => k_is)
    (case l25 => k_is)
    (case c25 => k_is)
    (case k25 => k_is)
    (case a26 => k_is)
    (case l26 => k_is)
    (case c26 => k_is)
    (case k26 => k_is)
    (case a27 => k_is)
    (case l27 => k_is)
    (case c27 => k_is)
    (case k27 => k_is)
    (case a28 => k_is)
    (case l28 => k_is)
    (case c28 => k_is)
    (case k28 => k_is)
    (case a29 => k_is)
    (case l29 => k_is)
    (case c29 => k_is)
    (case k29 => k_is)
    (case a30 => k_is)
    (case l30 => k_is)
    (case c30 => k_is)
    (case k30 => k_is)
    (case a31 => k_is)
    (case l31 => k_is)
    (case c31 => k_is)
    (case k31 => k_is)
    (case a32 => k_is)
    (case l32 => k_is)
    (case c32 => k_is)
    (case k32 => k_is)
    (case a33 => k_is)
    (case l33 => k_is)
    (case c33 => k_is)
    (case k33 => k_is)
    (case a34 => k_is)
    (case l34 => k_is)
    (case c34 => k_is)
    (case k34 => k_is)
    (case a35 => k_is)
    (case l35 => k_is)
    (case c35 => k_is)
    (case k35 => k_is)
    (case a36 => k_is)
    (case l36 => k_is)
    (case c36 => k_is)
    (case k36 => k_is)
    (case a37 => k_is)
    (case l37 => k_is)
    (case c37 => k_is)
    (case k37 => k_is)
    (case a38 => k_is)
    (case l38 => k_is)
    (case c38 => k_is)
    (case k38 => k_is)
    (case gT => k_is)
    (case xT => k_exc)
    (case qT => k_is)
    (case bT => k_is)
    (case tT => k_is)
    (case iT => k_is)
    (case gR => k_is)
    (case xR => k_exc)
    (case qR => k_is)
    (case bR => k_is)
    (case tR => k_is)
    (case iR => k_is)
    (case gO => k_is)
    (case xO => k_exc)
    (case qO => k_is)
    (case bO => k_is)
    (case tO => k_is)
    (case iO => k_is)
    (case sTT => first | rfl | k_is)
    (case sOO => first | rfl | k_is)
    (case sTO => first | rfl | k_is)
    (case z0 => k_is)
    (case z1 => k_is)
    (case z2 => k_is)
    (case z3 => k_is)
    (case z4 => k_is)
    (case z5 => k_is)
    (case z6 => k_is)
    (case z7 => k_is)
    (case z8 => k_is)
    (case z9 => k_is)
    (case z10 => k_is)
    (case m0 => k_is)
    (case m1 => k_is)
    (case m2 => k_is)
