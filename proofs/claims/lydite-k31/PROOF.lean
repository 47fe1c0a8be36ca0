import PyProof.Rows.All
import Wide.All
import OpenK.AllK
import Wide.FinOn
import KE.DataMinMax
import KE.GoesEnum
import KE.GoesMore
import HandS.ForMost
import HandS.ForExc
import HandS.Zip
import HandS.Walk
import HandS.IsInst
import HandS.Deep
import HandS.TupAny
import HandS.TupMul
import HandS.EndBits
import HandS.Style
import HandS.Flow
import HandS.SortKw
import HandS.Evl
import HandS.Steps
import HandS.Conv
import PySem.Challenge.RW_lydite_k31_whole_standard_roads_are_stan
set_option Elab.async false
set_option linter.all false
set_option maxRecDepth 100000
set_option maxHeartbeats 4000000
/-! M1: trees, places, steps; the diagram of two redexes. Plain Lean. -/
namespace Ly

inductive Dir where | f | a | b
  deriving DecidableEq
abbrev Pl := List Dir
abbrev Mk := Option Nat

inductive Tm where
  | var (n : Nat)
  | app (g v : Tm)
  | lam (m : Mk) (b : Tm)
  deriving DecidableEq

def sz : Tm → Nat
  | .var _ => 1
  | .app g v => 1 + sz g + sz v
  | .lam _ b => 1 + sz b
theorem sz_pos (t : Tm) : 0 < sz t := by cases t <;> simp only [sz] <;> omega

def lift (k : Nat) : Nat → Tm → Tm
  | d, .var n => .var (if d ≤ n then n + k else n)
  | d, .app g v => .app (lift k d g) (lift k d v)
  | d, .lam m b => .lam m (lift k (d + 1) b)

def put (v : Tm) : Nat → Tm → Tm
  | d, .var n => if n < d then .var n else if n = d then lift d 0 v else .var (n - 1)
  | d, .app g w => .app (put v d g) (put v d w)
  | d, .lam m b => .lam m (put v (d + 1) b)

theorem put_lt {v : Tm} {d n : Nat} (h : n < d) : put v d (.var n) = .var n := by simp [put, h]
theorem put_eq {v : Tm} {d : Nat} : put v d (.var d) = lift d 0 v := by simp [put]
theorem put_gt {v : Tm} {d n : Nat} (h : d < n) : put v d (.var n) = .var (n - 1) := by
  have h1 : ¬ n < d := by omega
  have h2 : n ≠ d := by omega
  simp [put, h1, h2]

theorem lift_lift_add {d e : Nat} : ∀ (w : Tm) (c c0 : Nat), c0 ≤ c → c ≤ c0 + e → lift d c (lift e c0 w) = lift (e + d) c0 w
  | .var n, c, c0, h1, h2 => by
    simp only [lift]
    congr 1
    by_cases q : c0 ≤ n
    · rw [if_pos q, if_pos q, if_pos (by omega)]; omega
    · rw [if_neg q, if_neg q, if_neg (by omega)]
  | .app g v, c, c0, h1, h2 => by simp only [lift]; rw [lift_lift_add g c c0 h1 h2, lift_lift_add v c c0 h1 h2]
  | .lam m b, c, c0, h1, h2 => by simp only [lift]; rw [lift_lift_add b (c + 1) (c0 + 1) (by omega) (by omega)]

theorem lift_lift_comm {k d : Nat} : ∀ (w : Tm) (c e : Nat), e ≤ c → lift k (c + d) (lift d e w) = lift d e (lift k c w)
  | .var n, c, e, h => by
    simp only [lift]
    congr 1
    by_cases q : e ≤ n
    · rw [if_pos q]
      by_cases r : c ≤ n
      · rw [if_pos r, if_pos (by omega), if_pos (by omega)]; omega
      · rw [if_neg r, if_neg (by omega), if_pos q]
    · rw [if_neg q, if_neg (show ¬ c + d ≤ n by omega), if_neg (show ¬ c ≤ n by omega), if_neg q]
  | .app g v, c, e, h => by simp only [lift]; rw [lift_lift_comm g c e h, lift_lift_comm v c e h]
  | .lam m b, c, e, h => by
    simp only [lift]
    have := lift_lift_comm (k := k) (d := d) b (c + 1) (e + 1) (by omega)
    rw [show c + 1 + d = c + d + 1 by omega] at this
    rw [this]

theorem lift_put {d : Nat} {w : Tm} : ∀ (v : Tm) (c e : Nat), c ≤ e → lift d c (put w e v) = put w (e + d) (lift d c v)
  | .var n, c, e, h => by
    rcases Nat.lt_trichotomy n e with q | q | q
    · rw [put_lt q]
      simp only [lift]
      by_cases r : c ≤ n
      · rw [if_pos r, put_lt (by omega)]
      · rw [if_neg r, put_lt (by omega)]
    · subst q
      rw [put_eq]
      simp only [lift]
      rw [if_pos h, put_eq, lift_lift_add w c 0 (by omega) (by omega)]
    · rw [put_gt q]
      simp only [lift]
      rw [if_pos (by omega), if_pos (by omega), put_gt (by omega)]
      congr 1; omega
  | .app g v, c, e, h => by simp only [put, lift]; rw [lift_put g c e h, lift_put v c e h]
  | .lam m b, c, e, h => by
    simp only [put, lift]
    rw [lift_put b (c + 1) (e + 1) (by omega), show e + 1 + d = e + d + 1 by omega]

theorem put_lift {x : Tm} {k : Nat} : ∀ (w : Tm) (c d : Nat), c ≤ d → d ≤ c + k → put x d (lift (k + 1) c w) = lift k c w
  | .var n, c, d, h1, h2 => by
    simp only [lift]
    by_cases q : c ≤ n
    · rw [if_pos q, if_pos q, put_gt (by omega)]; congr 1
    · rw [if_neg q, if_neg q, put_lt (by omega)]
  | .app g v, c, d, h1, h2 => by simp only [put, lift]; rw [put_lift g c d h1 h2, put_lift v c d h1 h2]
  | .lam m b, c, d, h1, h2 => by simp only [put, lift]; rw [put_lift b (c + 1) (d + 1) (by omega) (by omega)]

theorem lift_put0 {k c : Nat} {v : Tm} : ∀ (b : Tm) (d : Nat), lift k (c + d) (put v d b) = put (lift k c v) d (lift k (c + d + 1) b)
  | .var n, d => by
    rcases Nat.lt_trichotomy n d with q | q | q
    · rw [put_lt q]
      simp only [lift]
      rw [if_neg (by omega), if_neg (by omega), put_lt q]
    · subst q
      rw [put_eq]
      simp only [lift]
      rw [if_neg (by omega), put_eq, lift_lift_comm v c 0 (by omega)]
    · rw [put_gt q]
      simp only [lift]
      by_cases r : c + d + 1 ≤ n
      · rw [if_pos r, if_pos (by omega), put_gt (by omega)]; congr 1; omega
      · rw [if_neg r, if_neg (by omega), put_gt q]
  | .app g w, d => by simp only [put, lift]; rw [lift_put0 g d, lift_put0 w d]
  | .lam m b, d => by
    simp only [put, lift]
    rw [show c + d + 1 = c + (d + 1) by omega, lift_put0 b (d + 1)]

theorem put_put {v w : Tm} {e : Nat} : ∀ (b : Tm) (d : Nat), put (put w e v) d (put w (d + e + 1) b) = put w (d + e) (put v d b)
  | .var n, d => by
    rcases Nat.lt_trichotomy n d with q | q | q
    · rw [put_lt (d := d + e + 1) (by omega), put_lt q, put_lt q, put_lt (by omega)]
    · subst q
      rw [put_lt (d := n + e + 1) (by omega), put_eq, put_eq, lift_put v 0 e (by omega), Nat.add_comm]
    · rw [put_gt (v := v) q]
      rcases Nat.lt_trichotomy n (d + e + 1) with r | r | r
      · rw [put_lt r, put_gt q, put_lt (by omega)]
      · subst r
        rw [put_eq, put_lift w 0 d (by omega) (by omega), show d + e + 1 - 1 = d + e by omega, put_eq]
      · rw [put_gt r, put_gt (by omega), put_gt (by omega)]
  | .app g x, d => by simp only [put]; rw [put_put g d, put_put x d]
  | .lam m b, d => by
    simp only [put]
    have := put_put (v := v) (w := w) (e := e) b (d + 1)
    rw [show d + 1 + e = d + e + 1 by omega] at this
    rw [this]

/-! ### steps -/
inductive Stp : Tm → Pl → Mk → Tm → Prop
  | root (m b v) : Stp (.app (.lam m b) v) [] m (put v 0 b)
  | f {g p m g'} (v) : Stp g p m g' → Stp (.app g v) (.f :: p) m (.app g' v)
  | a {v p m v'} (g) : Stp v p m v' → Stp (.app g v) (.a :: p) m (.app g v')
  | b {t p m t'} (k) : Stp t p m t' → Stp (.lam k t) (.b :: p) m (.lam k t')

theorem Stp.det {t : Tm} {p : Pl} {m : Mk} {t1 : Tm} (h : Stp t p m t1) : ∀ {m' t1'}, Stp t p m' t1' → m' = m ∧ t1' = t1 := by
  induction h with
  | root m b v => intro m' t1' h; cases h; exact ⟨rfl, rfl⟩
  | f v _ ih => intro m' t1' h; cases h with | f _ h => obtain ⟨rfl, rfl⟩ := ih h; exact ⟨rfl, rfl⟩
  | a g _ ih => intro m' t1' h; cases h with | a _ h => obtain ⟨rfl, rfl⟩ := ih h; exact ⟨rfl, rfl⟩
  | b k _ ih => intro m' t1' h; cases h with | b _ h => obtain ⟨rfl, rfl⟩ := ih h; exact ⟨rfl, rfl⟩

inductive Steps : Tm → List Pl → List Mk → Tm → Prop
  | nil (t) : Steps t [] [] t
  | cons {t p m t1 ps ms t'} : Stp t p m t1 → Steps t1 ps ms t' → Steps t (p :: ps) (m :: ms) t'

theorem Steps.det {t : Tm} {r : List Pl} {ms : List Mk} {t1 : Tm} (h : Steps t r ms t1) : ∀ {ms' t1'}, Steps t r ms' t1' → ms' = ms ∧ t1' = t1 := by
  induction h with
  | nil t => intro ms' t1' h; cases h; exact ⟨rfl, rfl⟩
  | cons s _ ih =>
    intro ms' t1' h
    cases h with
    | cons s' h' =>
      obtain ⟨rfl, rfl⟩ := s.det s'
      obtain ⟨rfl, rfl⟩ := ih h'
      exact ⟨rfl, rfl⟩
theorem Steps.append {t t1 t2 : Tm} {r s : List Pl} {ms ns : List Mk} (h : Steps t r ms t1) (h' : Steps t1 s ns t2) : Steps t (r ++ s) (ms ++ ns) t2 := by
  induction h with
  | nil t => exact h'
  | cons s _ ih => exact .cons s (ih h')
theorem Steps.split {t t2 : Tm} : ∀ {r s : List Pl} {ks : List Mk}, Steps t (r ++ s) ks t2 → ∃ ms ns t1, ks = ms ++ ns ∧ Steps t r ms t1 ∧ Steps t1 s ns t2 := by
  intro r
  induction r generalizing t with
  | nil => intro s ks h; exact ⟨[], ks, t, rfl, .nil t, h⟩
  | cons p r ih =>
    intro s ks h
    cases h with
    | cons st h =>
      obtain ⟨ms, ns, t1, rfl, h1, h2⟩ := ih h
      exact ⟨_ :: ms, ns, t1, rfl, .cons st h1, h2⟩
theorem Steps.one {t t1 : Tm} {p : Pl} {m : Mk} (h : Stp t p m t1) : Steps t [p] [m] t1 := .cons h (.nil _)
theorem Steps.mapf {g g' v : Tm} {r : List Pl} {ms : List Mk} (h : Steps g r ms g') : Steps (.app g v) (r.map (.f :: ·)) ms (.app g' v) := by
  induction h with
  | nil t => exact .nil _
  | cons s _ ih => exact .cons (.f v s) ih
theorem Steps.mapa {v v' g : Tm} {r : List Pl} {ms : List Mk} (h : Steps v r ms v') : Steps (.app g v) (r.map (.a :: ·)) ms (.app g v') := by
  induction h with
  | nil t => exact .nil _
  | cons s _ ih => exact .cons (.a g s) ih
theorem Steps.mapb {v v' : Tm} {k : Mk} {r : List Pl} {ms : List Mk} (h : Steps v r ms v') : Steps (.lam k v) (r.map (.b :: ·)) ms (.lam k v') := by
  induction h with
  | nil t => exact .nil _
  | cons s _ ih => exact .cons (.b k s) ih

theorem Stp.lift {v v' : Tm} {p : Pl} {m : Mk} (k : Nat) (h : Stp v p m v') : ∀ c, Stp (lift k c v) p m (Ly.lift k c v') := by
  induction h with
  | root m b v => intro c; have := lift_put0 (k := k) (c := c) (v := v) b 0; simp only [Nat.add_zero] at this; rw [this]; exact .root m _ _
  | f v _ ih => intro c; exact .f _ (ih c)
  | a g _ ih => intro c; exact .a _ (ih c)
  | b k _ ih => intro c; exact .b _ (ih (c + 1))
theorem Stp.put {b b' : Tm} {p : Pl} {m : Mk} (w : Tm) (h : Stp b p m b') : ∀ d, Stp (put w d b) p m (Ly.put w d b') := by
  induction h with
  | root m b v => intro d; have := put_put (v := v) (w := w) (e := d) b 0; simp only [Nat.zero_add] at this; rw [← this]; exact .root m _ _
  | f v _ ih => intro d; exact .f _ (ih d)
  | a g _ ih => intro d; exact .a _ (ih d)
  | b k _ ih => intro d; exact .b _ (ih (d + 1))

/-- the places of the variable d -/
def occ : Nat → Tm → List Pl
  | d, .var n => if n = d then [[]] else []
  | d, .app g v => (occ d g).map (.f :: ·) ++ (occ d v).map (.a :: ·)
  | d, .lam _ b => (occ (d + 1) b).map (.b :: ·)

theorem put_arg {v v' : Tm} {r : Pl} {n : Mk} (h : Stp v r n v') : ∀ (b : Tm) (d : Nat), Steps (put v d b) ((occ d b).map (· ++ r)).reverse (List.replicate (occ d b).length n) (put v' d b)
  | .var k, d => by
    rcases Nat.lt_trichotomy k d with q | q | q
    · rw [put_lt q, put_lt q]
      have : k ≠ d := by omega
      simp only [occ, if_neg this]; exact .nil _
    · subst q
      rw [put_eq, put_eq]
      simp only [occ, if_pos]
      exact .one (h.lift k 0)
    · rw [put_gt q, put_gt q]
      have : k ≠ d := by omega
      simp only [occ, if_neg this]; exact .nil _
  | .app g w, d => by
    have h1 := (put_arg h g d).mapf (v := Ly.put v' d w)
    have h2 := (put_arg h w d).mapa (g := Ly.put v d g)
    simp only [Ly.put, occ, List.map_append, List.map_map, List.reverse_append, List.length_append, List.length_map]
    rw [show (occ d g).length + (occ d w).length = (occ d w).length + (occ d g).length by omega, ← List.replicate_append_replicate]
    rw [List.map_reverse, List.map_map] at h1 h2
    exact h2.append h1
  | .lam m b, d => by
    have h1 := (put_arg h b (d + 1)).mapb (k := m)
    simp only [Ly.put, occ, List.map_map, List.length_map]
    rw [List.map_reverse, List.map_map] at h1
    exact h1

/-! ### the order of places -/
inductive Lt : Pl → Pl → Prop
  | nil (d p) : Lt [] (d :: p)
  | fa (p q) : Lt (.f :: p) (.a :: q)
  | cons (d) {p q} : Lt p q → Lt (d :: p) (d :: q)

theorem Lt.irrefl : ∀ {p : Pl}, ¬ Lt p p
  | [], h => by cases h
  | d :: p, h => by cases h with | cons _ h => exact Lt.irrefl h
theorem Lt.trans {p q r : Pl} (h : Lt p q) : Lt q r → Lt p r := by
  induction h generalizing r with
  | nil d p => intro h; cases h <;> exact .nil _ _
  | fa p q => intro h; cases h with | cons _ h => exact .fa _ _
  | cons d h ih =>
    intro h'
    cases h' with
    | fa => exact .fa _ _
    | cons _ h' => exact .cons d (ih h')
theorem Stp.tri {t : Tm} {p : Pl} {m : Mk} {t1 : Tm} (h : Stp t p m t1) : ∀ {q n t2}, Stp t q n t2 → Lt p q ∨ p = q ∨ Lt q p := by
  induction h with
  | root m b v => intro q n t2 h; cases q with | nil => exact .inr (.inl rfl) | cons d q => exact .inl (.nil _ _)
  | f v _ ih =>
    intro q n t2 h
    cases h with
    | root => exact .inr (.inr (.nil _ _))
    | f _ h => rcases ih h with z | rfl | z; exact .inl (.cons _ z); exact .inr (.inl rfl); exact .inr (.inr (.cons _ z))
    | a _ h => exact .inl (.fa _ _)
  | a g _ ih =>
    intro q n t2 h
    cases h with
    | root => exact .inr (.inr (.nil _ _))
    | f _ h => exact .inr (.inr (.fa _ _))
    | a _ h => rcases ih h with z | rfl | z; exact .inl (.cons _ z); exact .inr (.inl rfl); exact .inr (.inr (.cons _ z))
  | b k _ ih =>
    intro q n t2 h
    cases h with
    | b _ h => rcases ih h with z | rfl | z; exact .inl (.cons _ z); exact .inr (.inl rfl); exact .inr (.inr (.cons _ z))

/-- the residuals of r after the step at p, p before r -/
def resid : Tm → Pl → Pl → List Pl
  | .app g _, .f :: p, .f :: r => (resid g p r).map (.f :: ·)
  | .app _ v, .a :: p, .a :: r => (resid v p r).map (.a :: ·)
  | .lam _ b, .b :: p, .b :: r => (resid b p r).map (.b :: ·)
  | .app (.lam _ _) _, [], .f :: .b :: r => [r]
  | .app (.lam _ b) _, [], .a :: r => (occ 0 b).map (· ++ r)
  | _, _, r => [r]

theorem diagram {t : Tm} {p : Pl} {m : Mk} {t2 : Tm} (h : Stp t p m t2) : ∀ {r n t1}, Stp t r n t1 → Lt p r →
    ∃ t3, Stp t1 p m t3 ∧ Steps t2 (resid t p r).reverse (List.replicate (resid t p r).length n) t3 := by
  induction h with
  | root m b v =>
    intro r n t1 h lt
    cases h with
    | root => cases lt
    | f _ h =>
      cases h with
      | b _ h => exact ⟨_, .root _ _ _, .one (h.put v 0)⟩
    | a _ h =>
      refine ⟨_, .root _ _ _, ?_⟩
      simp only [resid, List.length_map]
      exact put_arg h b 0
  | @f g p m g' v h ih =>
    intro r n t1 h' lt
    cases h' with
    | root => cases lt
    | f _ h' =>
      cases lt with
      | cons _ lt =>
        obtain ⟨t3, h1, h2⟩ := ih h' lt
        refine ⟨_, .f _ h1, ?_⟩
        simp only [resid, List.length_map]
        rw [← List.map_reverse]
        exact h2.mapf
    | a _ h' => exact ⟨_, .f _ h, .one (.a _ h')⟩
  | @a v p m v' g h ih =>
    intro r n t1 h' lt
    cases h' with
    | root => cases lt
    | f _ h' => cases lt
    | a _ h' =>
      cases lt with
      | cons _ lt =>
        obtain ⟨t3, h1, h2⟩ := ih h' lt
        refine ⟨_, .a _ h1, ?_⟩
        simp only [resid, List.length_map]
        rw [← List.map_reverse]
        exact h2.mapa
  | b k h ih =>
    intro r n t1 h' lt
    cases h' with
    | b _ h' =>
      cases lt with
      | cons _ lt =>
        obtain ⟨t3, h1, h2⟩ := ih h' lt
        refine ⟨_, .b _ h1, ?_⟩
        simp only [resid, List.length_map]
        rw [← List.map_reverse]
        exact h2.mapb

theorem Stp.lam_of {g : Tm} {r : Pl} {n k : Mk} {b : Tm} (h : Stp g r n (.lam k b)) (hr : r ≠ []) : ∃ b', g = .lam k b' := by
  generalize e : Tm.lam k b = t at h
  cases h with
  | root => exact absurd rfl hr
  | f => cases e
  | a => cases e
  | b => cases e; exact ⟨_, rfl⟩
/-- what stands before p is as it was -/
theorem before_old {t : Tm} {p : Pl} {m : Mk} {t2 : Tm} (h : Stp t p m t2) : ∀ {r n t1 q k t1'}, Stp t r n t1 → Lt p r → Lt q p → Stp t1 q k t1' → ∃ t', Stp t q k t' := by
  induction h with
  | root m b v => intro r n t1 q k t1' h lt lq; cases lq
  | @f g p m g' v h ih =>
    intro r n t1 q k t1' h' lt lq hq
    cases h' with
    | root => cases lt
    | f _ h' =>
      cases lt with
      | cons _ lt =>
        cases lq with
        | nil =>
          cases hq with
          | root =>
            -- the function of the new term is an abstraction: it was one
            obtain ⟨b', rfl⟩ := h'.lam_of (fun e => by subst e; cases lt)
            exact ⟨_, .root _ _ _⟩
        | cons _ lq =>
          cases hq with
          | f _ hq => obtain ⟨t', z⟩ := ih h' lt lq hq; exact ⟨_, .f _ z⟩
    | a _ h' =>
      cases lq with
      | nil => cases hq with | root => exact ⟨_, .root _ _ _⟩
      | cons _ lq => cases hq with | f _ hq => exact ⟨_, .f _ hq⟩
  | @a v p m v' g h ih =>
    intro r n t1 q k t1' h' lt lq hq
    cases h' with
    | root => cases lt
    | f _ h' => cases lt
    | a _ h' =>
      cases lt with
      | cons _ lt =>
        cases lq with
        | nil => cases hq with | root => exact ⟨_, .root _ _ _⟩
        | fa => cases hq with | f _ hq => exact ⟨_, .f _ hq⟩
        | cons _ lq => cases hq with | a _ hq => obtain ⟨t', z⟩ := ih h' lt lq hq; exact ⟨_, .a _ z⟩
  | b k h ih =>
    intro r n t1 q k t1' h' lt lq hq
    cases h' with
    | b _ h' =>
      cases lt with
      | cons _ lt =>
        cases lq with
        | nil => cases hq
        | cons _ lq => cases hq with | b _ hq => obtain ⟨t', z⟩ := ih h' lt lq hq; exact ⟨_, .b _ z⟩
end Ly

/-! M2: marks. -/
namespace Ly

def cnt (m : Mk) : Tm → Nat
  | .var _ => 0
  | .app g v => cnt m g + cnt m v
  | .lam k b => (if k = m then 1 else 0) + cnt m b
/-- no abstraction with the mark m stands but as the function of an application (fn: at such a place) -/
def Good (m : Mk) : Bool → Tm → Prop
  | _, .var _ => True
  | _, .app g v => Good m true g ∧ Good m false v
  | fn, .lam k b => (fn = true ∨ k ≠ m) ∧ Good m false b
def isLm (m : Mk) : Tm → Bool
  | .lam k _ => decide (k = m)
  | _ => false
theorem Good.up {m : Mk} {fn : Bool} : ∀ {t : Tm}, Good m false t → Good m fn t
  | .var n, h => trivial
  | .app g v, h => h
  | .lam k b, h => ⟨.inr (h.1.resolve_left (by decide)), h.2⟩
theorem Good.notL {m : Mk} : ∀ {t : Tm}, Good m false t → isLm m t = false
  | .var n, h => rfl
  | .app g v, h => rfl
  | .lam k b, h => by have := h.1.resolve_left (by decide); simp [isLm, this]
theorem good_of_zero {m : Mk} : ∀ {t : Tm} (fn : Bool), cnt m t = 0 → Good m fn t
  | .var n, _, _ => trivial
  | .app g v, _, h => by simp only [cnt] at h; exact ⟨good_of_zero _ (by omega), good_of_zero _ (by omega)⟩
  | .lam k b, _, h => by
    simp only [cnt] at h
    by_cases e : k = m
    · rw [if_pos e] at h; omega
    · exact ⟨.inr e, good_of_zero _ (by omega)⟩
theorem Stp.cnt_pos {t : Tm} {p : Pl} {m : Mk} {t1 : Tm} (h : Stp t p m t1) : 1 ≤ cnt m t := by
  induction h with
  | root m b v => simp only [cnt, if_pos]; omega
  | f v _ ih => simp only [cnt]; omega
  | a g _ ih => simp only [cnt]; omega
  | b k _ ih => simp only [cnt]; omega
theorem Stp.good {t : Tm} {p : Pl} {m : Mk} {t1 : Tm} (h : Stp t p m t1) : cnt m t ≤ 1 → Good m false t := by
  induction h with
  | root m b v => intro h; simp only [cnt, if_pos] at h; exact ⟨⟨.inl rfl, good_of_zero _ (by omega)⟩, good_of_zero _ (by omega)⟩
  | f v h ih => intro q; simp only [cnt] at q; have := h.cnt_pos; exact ⟨(ih (by omega)).up, good_of_zero _ (by omega)⟩
  | a g h ih => intro q; simp only [cnt] at q; have := h.cnt_pos; exact ⟨good_of_zero _ (by omega), ih (by omega)⟩
  | @b t p m t' k h ih =>
    intro q
    simp only [cnt] at q
    have := h.cnt_pos
    by_cases e : k = m
    · rw [if_pos e] at q; omega
    · exact ⟨.inr e, ih (by omega)⟩
theorem Good.lift {m : Mk} (k : Nat) : ∀ {t : Tm} {fn : Bool} (c : Nat), Good m fn t → Good m fn (Ly.lift k c t)
  | .var n, _, _, h => trivial
  | .app g v, _, c, h => ⟨Good.lift k c h.1, Good.lift k c h.2⟩
  | .lam _ b, _, c, h => ⟨h.1, Good.lift k (c + 1) h.2⟩
theorem Good.put {m : Mk} {v : Tm} (hv : Good m false v) : ∀ {t : Tm} {fn : Bool} (d : Nat), Good m fn t → Good m fn (Ly.put v d t)
  | .var n, _, d, h => by
    rcases Nat.lt_trichotomy n d with q | q | q
    · rw [put_lt q]; trivial
    · subst q; rw [put_eq]; exact (hv.lift _ _).up
    · rw [put_gt q]; trivial
  | .app g v, _, c, h => ⟨Good.put hv c h.1, Good.put hv c h.2⟩
  | .lam _ b, _, c, h => ⟨h.1, Good.put hv (c + 1) h.2⟩
theorem Good.stp {t : Tm} {p : Pl} {k m : Mk} {t1 : Tm} (h : Stp t p k t1) : ∀ {fn}, Good m fn t → Good m fn t1 := by
  induction h with
  | root k b v => intro fn q; exact (Good.put q.2 0 q.1.2).up
  | f v h ih => intro fn q; exact ⟨ih q.1, q.2⟩
  | a g h ih => intro fn q; exact ⟨q.1, ih q.2⟩
  | b k h ih => intro fn q; exact ⟨q.1, ih q.2⟩

theorem cnt_lift {m : Mk} (k : Nat) : ∀ (t : Tm) (c : Nat), cnt m (lift k c t) = cnt m t
  | .var n, _ => rfl
  | .app g v, c => by simp only [lift, cnt]; rw [cnt_lift k g c, cnt_lift k v c]
  | .lam _ b, c => by simp only [lift, cnt]; rw [cnt_lift k b (c + 1)]
theorem cnt_put {m : Mk} {v : Tm} (hv : cnt m v = 0) : ∀ (t : Tm) (d : Nat), cnt m (put v d t) = cnt m t
  | .var n, d => by
    rcases Nat.lt_trichotomy n d with q | q | q
    · rw [put_lt q]
    · subst q; rw [put_eq, cnt_lift, hv]; rfl
    · rw [put_gt q]; rfl
  | .app g w, d => by simp only [put, cnt]; rw [cnt_put hv g d, cnt_put hv w d]
  | .lam _ b, d => by simp only [put, cnt]; rw [cnt_put hv b (d + 1)]
theorem Stp.cnt0 {t : Tm} {p : Pl} {k m : Mk} {t1 : Tm} (h : Stp t p k t1) : cnt m t = 0 → cnt m t1 = 0 := by
  induction h with
  | root k b v => intro q; simp only [cnt] at q; rw [cnt_put (by omega)]; omega
  | f v h ih => intro q; simp only [cnt] at q ⊢; have := ih (by omega); omega
  | a g h ih => intro q; simp only [cnt] at q ⊢; have := ih (by omega); omega
  | b k h ih => intro q; simp only [cnt] at q ⊢; have := ih (by omega); omega
/-- a step behind p leaves p's abstraction as the only one with its mark -/
theorem Stp.cnt_keep {t : Tm} {p : Pl} {m : Mk} {t2 : Tm} (h : Stp t p m t2) : ∀ {r n t1}, Stp t r n t1 → Lt p r → cnt m t = 1 → cnt m t1 = 1 := by
  induction h with
  | root m b v =>
    intro r n t1 h lt q
    simp only [cnt, if_pos] at q
    cases h with
    | root => cases lt
    | f _ h =>
      cases h with
      | b _ h => simp only [cnt, if_pos]; have := h.cnt0 (m := m) (by omega); omega
    | a _ h => simp only [cnt, if_pos]; have := h.cnt0 (m := m) (by omega); omega
  | @f g p m g' v h ih =>
    intro r n t1 h' lt q
    simp only [cnt] at q
    have hp := h.cnt_pos
    cases h' with
    | root => cases lt
    | f _ h' => cases lt with | cons _ lt => have := ih h' lt (by omega); simp only [cnt]; omega
    | a _ h' => have := h'.cnt0 (m := m) (by omega); simp only [cnt]; omega
  | a g h ih =>
    intro r n t1 h' lt q
    simp only [cnt] at q
    have hp := h.cnt_pos
    cases h' with
    | root => cases lt
    | f _ h' => cases lt
    | a _ h' => cases lt with | cons _ lt => have := ih h' lt (by omega); simp only [cnt]; omega
  | b k h ih =>
    intro r n t1 h' lt q
    simp only [cnt] at q
    have hp := h.cnt_pos
    cases h' with
    | b _ h' => cases lt with | cons _ lt => have := ih h' lt (by omega); simp only [cnt]; omega

/-- the redexes with the mark m, in order -/
def withm (m : Mk) : Tm → List Pl
  | .var _ => []
  | .app g v => (if isLm m g = true then [[]] else []) ++ ((withm m g).map (.f :: ·) ++ (withm m v).map (.a :: ·))
  | .lam _ b => (withm m b).map (.b :: ·)
def headm : Tm → Option Mk
  | .lam k _ => some k
  | _ => none
/-- all redexes with their marks, in order -/
def reds : Tm → List (Pl × Mk)
  | .var _ => []
  | .app g v => ((headm g).toList.map fun k => ([], k)) ++ ((reds g).map (fun x => (.f :: x.1, x.2)) ++ (reds v).map (fun x => (.a :: x.1, x.2)))
  | .lam _ b => (reds b).map (fun x => (.b :: x.1, x.2))

theorem withm_eq (m : Mk) : ∀ t : Tm, withm m t = ((reds t).filter (fun x => decide (x.2 = m))).map (·.1)
  | .var _ => rfl
  | .app g v => by
    simp only [withm, reds, List.filter_append, List.map_append, List.filter_map, List.map_map]
    rw [withm_eq m g, withm_eq m v]
    simp only [List.map_map]
    congr 1
    cases g with
    | var n => rfl
    | app g w => rfl
    | lam k b => by_cases e : k = m <;> simp [isLm, headm, e]
  | .lam _ b => by
    simp only [withm, reds, List.filter_map, List.map_map]
    rw [withm_eq m b]
    simp only [List.map_map]
    rfl
theorem mem_reds : ∀ {t : Tm} {p : Pl} {m : Mk}, (p, m) ∈ reds t ↔ ∃ t', Stp t p m t'
  | .var n, p, m => by simp only [reds, List.not_mem_nil, false_iff]; rintro ⟨_, h⟩; cases h
  | .app g v, p, m => by
    simp only [reds, List.mem_append, List.mem_map, Option.mem_toList, Prod.mk.injEq, Prod.exists]
    constructor
    · rintro (⟨k, hk, rfl, rfl⟩ | ⟨q, k, hq, rfl, rfl⟩ | ⟨q, k, hq, rfl, rfl⟩)
      · cases g with
        | lam k' b => cases hk; exact ⟨_, .root _ _ _⟩
        | var n => cases hk
        | app _ _ => cases hk
      · obtain ⟨t', h⟩ := mem_reds.mp hq; exact ⟨_, .f _ h⟩
      · obtain ⟨t', h⟩ := mem_reds.mp hq; exact ⟨_, .a _ h⟩
    · rintro ⟨t', h⟩
      cases h with
      | root m b v => exact .inl ⟨_, rfl, rfl, rfl⟩
      | f _ h => exact .inr (.inl ⟨_, _, mem_reds.mpr ⟨_, h⟩, rfl, rfl⟩)
      | a _ h => exact .inr (.inr ⟨_, _, mem_reds.mpr ⟨_, h⟩, rfl, rfl⟩)
  | .lam k b, p, m => by
    simp only [reds, List.mem_map, Prod.mk.injEq, Prod.exists]
    constructor
    · rintro ⟨q, k, hq, rfl, rfl⟩
      obtain ⟨t', h⟩ := mem_reds.mp hq; exact ⟨_, .b _ h⟩
    · rintro ⟨t', h⟩
      cases h with
      | b _ h => exact ⟨_, _, mem_reds.mpr ⟨_, h⟩, rfl, rfl⟩
theorem reds_sorted : ∀ t : Tm, (reds t).Pairwise (fun x y => Lt x.1 y.1)
  | .var _ => List.Pairwise.nil
  | .app g v => by
    have hf : ((reds g).map (fun x => ((.f :: x.1, x.2) : Pl × Mk))).Pairwise (fun x y => Lt x.1 y.1) := List.pairwise_map.mpr ((reds_sorted g).imp fun h => .cons _ h)
    have ha : ((reds v).map (fun x => ((.a :: x.1, x.2) : Pl × Mk))).Pairwise (fun x y => Lt x.1 y.1) := List.pairwise_map.mpr ((reds_sorted v).imp fun h => .cons _ h)
    have hr : ∀ x ∈ ((reds g).map (fun x => ((.f :: x.1, x.2) : Pl × Mk)) ++ (reds v).map (fun x => ((.a :: x.1, x.2) : Pl × Mk))), ∃ d q, x.1 = d :: q := by
      intro x hx
      rcases List.mem_append.mp hx with hx | hx
      · obtain ⟨y, _, rfl⟩ := List.mem_map.mp hx; exact ⟨_, _, rfl⟩
      · obtain ⟨y, _, rfl⟩ := List.mem_map.mp hx; exact ⟨_, _, rfl⟩
    refine List.pairwise_append.mpr ⟨?_, List.pairwise_append.mpr ⟨hf, ha, ?_⟩, ?_⟩
    · cases headm g <;> simp
    · intro x hx y hy
      obtain ⟨_, _, rfl⟩ := List.mem_map.mp hx
      obtain ⟨_, _, rfl⟩ := List.mem_map.mp hy
      exact .fa _ _
    · intro x hx y hy
      obtain ⟨k, _, rfl⟩ := List.mem_map.mp hx
      obtain ⟨d, q, e⟩ := hr y hy
      rw [e]; exact .nil _ _
  | .lam _ b => List.pairwise_map.mpr ((reds_sorted b).imp fun h => .cons _ h)

theorem isLm_cnt {m : Mk} {t : Tm} (h : cnt m t = 0) : isLm m t = false := (good_of_zero false h).notL
theorem withm_zero {m : Mk} : ∀ {t : Tm}, cnt m t = 0 → withm m t = []
  | .var _, _ => rfl
  | .app g v, h => by
    simp only [cnt] at h
    have h1 : cnt m g = 0 := by omega
    have h2 : cnt m v = 0 := by omega
    simp only [withm, isLm_cnt h1, withm_zero h1, withm_zero h2]; simp
  | .lam _ b, h => by
    simp only [cnt] at h
    have h1 : cnt m b = 0 := by omega
    simp only [withm, withm_zero h1]; simp
theorem withm_one {t : Tm} {p : Pl} {m : Mk} {t1 : Tm} (h : Stp t p m t1) : cnt m t ≤ 1 → withm m t = [p] := by
  induction h with
  | root m b v =>
    intro q
    simp only [cnt, if_pos] at q
    have h1 : cnt m b = 0 := by omega
    have h2 : cnt m v = 0 := by omega
    simp only [withm, withm_zero h1, withm_zero h2]; simp [isLm]
  | @f g p m g' v h ih =>
    intro q
    simp only [cnt] at q
    have hp := h.cnt_pos
    have h2 : cnt m v = 0 := by omega
    simp only [withm, withm_zero h2, ih (by omega), (h.good (by omega)).notL]; simp
  | @a v p m v' g h ih =>
    intro q
    simp only [cnt] at q
    have hp := h.cnt_pos
    have h2 : cnt m g = 0 := by omega
    simp only [withm, withm_zero h2, ih (by omega), isLm_cnt h2]; simp
  | @b t p m t' k h ih =>
    intro q
    simp only [cnt] at q
    have hp := h.cnt_pos
    simp only [withm, ih (by omega)]; simp
theorem Stp.uniq {t : Tm} {p q : Pl} {m : Mk} {t1 t2 : Tm} (h : Stp t p m t1) (h' : Stp t q m t2) (c : cnt m t ≤ 1) : p = q := by
  have := (withm_one h c).symm.trans (withm_one h' c)
  simpa using this
theorem isLm_lift {m : Mk} {k c : Nat} (t : Tm) : isLm m (lift k c t) = isLm m t := by cases t <;> rfl
theorem withm_lift {m : Mk} (k : Nat) : ∀ (t : Tm) (c : Nat), withm m (lift k c t) = withm m t
  | .var n, _ => rfl
  | .app g v, c => by simp only [lift, withm]; rw [withm_lift k g c, withm_lift k v c, isLm_lift]
  | .lam _ b, c => by simp only [lift, withm]; rw [withm_lift k b (c + 1)]
theorem isLm_put {m : Mk} {v : Tm} (hv : isLm m v = false) {d : Nat} : ∀ (t : Tm), isLm m (put v d t) = isLm m t
  | .var n => by
    rcases Nat.lt_trichotomy n d with q | q | q
    · rw [put_lt q]
    · subst q; rw [put_eq, isLm_lift, hv]; rfl
    · rw [put_gt q]; rfl
  | .app g v => rfl
  | .lam _ b => rfl
theorem withm_putA {m : Mk} {v : Tm} (hv : cnt m v = 0) : ∀ (t : Tm) (d : Nat), withm m (put v d t) = withm m t
  | .var n, d => by
    rcases Nat.lt_trichotomy n d with q | q | q
    · rw [put_lt q]
    · subst q; rw [put_eq, withm_lift, withm_zero hv]; rfl
    · rw [put_gt q]; rfl
  | .app g w, d => by simp only [put, withm]; rw [withm_putA hv g d, withm_putA hv w d, isLm_put (isLm_cnt hv)]
  | .lam _ b, d => by simp only [put, withm]; rw [withm_putA hv b (d + 1)]
theorem withm_putB {m : Mk} {v : Tm} {r : Pl} (hv : withm m v = [r]) (gv : isLm m v = false) : ∀ (t : Tm) (d : Nat), cnt m t = 0 → withm m (put v d t) = (occ d t).map (· ++ r)
  | .var n, d, _ => by
    rcases Nat.lt_trichotomy n d with q | q | q
    · rw [put_lt q]; have : n ≠ d := by omega
      simp [withm, occ, this]
    · subst q; rw [put_eq, withm_lift, hv]; simp [occ]
    · rw [put_gt q]; have : n ≠ d := by omega
      simp [withm, occ, this]
  | .app g w, d, h => by
    simp only [cnt] at h
    have h1 : cnt m g = 0 := by omega
    have h2 : cnt m w = 0 := by omega
    simp only [put, withm, occ]
    rw [withm_putB hv gv g d h1, withm_putB hv gv w d h2, isLm_put gv, isLm_cnt h1]
    simp [Function.comp_def]
  | .lam _ b, d, h => by
    simp only [cnt] at h
    have h1 : cnt m b = 0 := by omega
    simp only [put, withm, occ]
    rw [withm_putB hv gv b (d + 1) h1]
    simp [Function.comp_def]
/-- the residuals are the redexes with r's mark -/
theorem withm_resid {t : Tm} {p : Pl} {m : Mk} {t2 : Tm} (h : Stp t p m t2) : ∀ {r n t1}, Stp t r n t1 → Lt p r → cnt n t ≤ 1 → withm n t2 = resid t p r := by
  induction h with
  | root m b v =>
    intro r n t1 h lt q
    cases h with
    | root => cases lt
    | f _ h =>
      cases h with
      | b _ h =>
        simp only [cnt] at q
        have hp := h.cnt_pos
        rw [withm_putA (by omega), withm_one h (by omega)]
        rfl
    | a _ h =>
      simp only [cnt] at q
      have hp := h.cnt_pos
      rw [withm_putB (withm_one h (by omega)) (h.good (by omega)).notL _ _ (by omega)]
      rfl
  | @f g p m g' v h ih =>
    intro r n t1 h' lt q
    simp only [cnt] at q
    cases h' with
    | root => cases lt
    | f _ h' =>
      have hp := h'.cnt_pos
      have h2 : cnt n v = 0 := by omega
      cases lt with
      | cons _ lt =>
        simp only [withm, withm_zero h2, ih h' lt (by omega), (Good.stp h (h'.good (by omega))).notL, resid]; simp
    | a _ h' =>
      have hp := h'.cnt_pos
      have h2 : cnt n g' = 0 := h.cnt0 (by omega)
      simp only [withm, withm_zero h2, withm_one h' (by omega), isLm_cnt h2, resid]; simp
  | @a v p m v' g h ih =>
    intro r n t1 h' lt q
    simp only [cnt] at q
    cases h' with
    | root => cases lt
    | f _ h' => cases lt
    | a _ h' =>
      have hp := h'.cnt_pos
      have h2 : cnt n g = 0 := by omega
      cases lt with
      | cons _ lt => simp only [withm, withm_zero h2, ih h' lt (by omega), isLm_cnt h2, resid]; simp
  | @b t p m t' k h ih =>
    intro r n t1 h' lt q
    simp only [cnt] at q
    cases h' with
    | b _ h' =>
      have hp := h'.cnt_pos
      cases lt with
      | cons _ lt => simp only [withm, ih h' lt (by omega), resid]
end Ly

/-! M3: fresh marks, relabelling, bounded steps, the mirrors of first_of, without, standard, is_standard. -/
namespace Ly

/-! ### fresh marks -/
def mark : Nat → Tm → Tm
  | _, .var n => .var n
  | i, .app g v => .app (mark (i + 1) g) (mark (i + 1 + sz g) v)
  | i, .lam _ b => .lam (some i) (mark (i + 1) b)
theorem sz_mark : ∀ (t : Tm) (i : Nat), sz (mark i t) = sz t
  | .var n, _ => rfl
  | .app g v, i => by simp only [mark, sz]; rw [sz_mark g, sz_mark v]
  | .lam _ b, i => by simp only [mark, sz]; rw [sz_mark b]
theorem cnt_mark_none : ∀ (t : Tm) (i : Nat), cnt none (mark i t) = 0
  | .var n, _ => rfl
  | .app g v, i => by simp only [mark, cnt]; rw [cnt_mark_none g, cnt_mark_none v]
  | .lam _ b, i => by simp only [mark, cnt]; rw [cnt_mark_none b]; simp
theorem cnt_mark : ∀ (t : Tm) (i j : Nat), cnt (some j) (mark i t) ≤ 1 ∧ (j < i ∨ i + sz t ≤ j → cnt (some j) (mark i t) = 0)
  | .var n, _, _ => ⟨Nat.zero_le _, fun _ => rfl⟩
  | .app g v, i, j => by
    simp only [mark, cnt, sz]
    have h1 := cnt_mark g (i + 1) j
    have h2 := cnt_mark v (i + 1 + sz g) j
    refine ⟨?_, fun h => ?_⟩
    · by_cases q : j < i + 1 + sz g
      · have := h2.2 (.inl q); omega
      · have := h1.2 (.inr (by omega)); omega
    · have := h1.2 (by omega); have := h2.2 (by omega); omega
  | .lam _ b, i, j => by
    simp only [mark, cnt, sz]
    have h1 := cnt_mark b (i + 1) j
    refine ⟨?_, fun h => ?_⟩
    · by_cases q : some i = some j
      · cases q; rw [if_pos rfl]; have := h1.2 (.inl (by omega)); omega
      · rw [if_neg q]; omega
    · have : i ≠ j := by omega
      rw [if_neg (by simpa using this)]; have := h1.2 (by omega); omega
theorem fresh (t : Tm) (i : Nat) (m : Mk) : cnt m (mark i t) ≤ 1 := by
  cases m with
  | none => rw [cnt_mark_none]; omega
  | some j => exact (cnt_mark t i j).1

/-! ### relabelling -/
def rel (g : Mk → Mk) : Tm → Tm
  | .var n => .var n
  | .app h v => .app (rel g h) (rel g v)
  | .lam m b => .lam (g m) (rel g b)
theorem sz_rel (g : Mk → Mk) : ∀ (t : Tm), sz (rel g t) = sz t
  | .var n => rfl
  | .app h v => by simp only [rel, sz]; rw [sz_rel g h, sz_rel g v]
  | .lam _ b => by simp only [rel, sz]; rw [sz_rel g b]
theorem mark_rel (g : Mk → Mk) : ∀ (t : Tm) (i : Nat), mark i (rel g t) = mark i t
  | .var n, _ => rfl
  | .app h v, i => by simp only [rel, mark]; rw [mark_rel g h, mark_rel g v, sz_rel]
  | .lam _ b, i => by simp only [rel, mark]; rw [mark_rel g b]
theorem mark_mark (t : Tm) (i j : Nat) : mark i (mark j t) = mark i t := by
  induction t generalizing i j with
  | var n => rfl
  | app g v h1 h2 => simp only [mark]; rw [h1, h2, sz_mark]
  | lam m b ih => simp only [mark]; rw [ih]
theorem lift_rel (g : Mk → Mk) (k : Nat) : ∀ (t : Tm) (c : Nat), lift k c (rel g t) = rel g (lift k c t)
  | .var n, _ => rfl
  | .app h v, c => by simp only [rel, lift]; rw [lift_rel g k h, lift_rel g k v]
  | .lam _ b, c => by simp only [rel, lift]; rw [lift_rel g k b]
theorem put_rel (g : Mk → Mk) (v : Tm) : ∀ (t : Tm) (d : Nat), put (rel g v) d (rel g t) = rel g (put v d t)
  | .var n, d => by
    simp only [rel]
    rcases Nat.lt_trichotomy n d with q | q | q
    · rw [put_lt q, put_lt q]; rfl
    · subst q; rw [put_eq, put_eq, lift_rel]
    · rw [put_gt q, put_gt q]; rfl
  | .app h w, d => by simp only [rel, put]; rw [put_rel g v h, put_rel g v w]
  | .lam _ b, d => by simp only [rel, put]; rw [put_rel g v b]
theorem Stp.rel (g : Mk → Mk) {t : Tm} {p : Pl} {m : Mk} {t' : Tm} (h : Stp t p m t') : Stp (Ly.rel g t) p (g m) (Ly.rel g t') := by
  induction h with
  | root m b v => rw [← put_rel]; exact .root _ _ _
  | f v _ ih => exact .f _ ih
  | a h _ ih => exact .a _ ih
  | b k _ ih => exact .b _ ih
theorem Stp.unrel (g : Mk → Mk) : ∀ {t : Tm} {p : Pl} {m' : Mk} {t1' : Tm}, Stp (Ly.rel g t) p m' t1' → ∃ m t1, Stp t p m t1 ∧ m' = g m ∧ t1' = Ly.rel g t1
  | .var n, _, _, _, h => by cases h
  | .app h v, _, _, _, s => by
    cases h with
    | var n =>
      cases s with
      | f _ s => obtain ⟨m, t1, s2, rfl, rfl⟩ := Stp.unrel g (t := .var n) s; exact ⟨_, _, .f _ s2, rfl, rfl⟩
      | a _ s => obtain ⟨m, t1, s2, rfl, rfl⟩ := Stp.unrel g s; exact ⟨_, _, .a _ s2, rfl, rfl⟩
    | app h1 h2 =>
      cases s with
      | f _ s => obtain ⟨m, t1, s2, rfl, rfl⟩ := Stp.unrel g (t := .app h1 h2) s; exact ⟨_, _, .f _ s2, rfl, rfl⟩
      | a _ s => obtain ⟨m, t1, s2, rfl, rfl⟩ := Stp.unrel g s; exact ⟨_, _, .a _ s2, rfl, rfl⟩
    | lam k b =>
      cases s with
      | root => exact ⟨_, _, .root _ _ _, rfl, put_rel g v b 0⟩
      | f _ s => obtain ⟨m, t1, s2, rfl, rfl⟩ := Stp.unrel g (t := .lam k b) s; exact ⟨_, _, .f _ s2, rfl, rfl⟩
      | a _ s => obtain ⟨m, t1, s2, rfl, rfl⟩ := Stp.unrel g s; exact ⟨_, _, .a _ s2, rfl, rfl⟩
  | .lam k bd, _, _, _, s => by
    cases s with
    | b _ s => obtain ⟨m, t1, s2, rfl, rfl⟩ := Stp.unrel g s; exact ⟨_, _, .b _ s2, rfl, rfl⟩
theorem Steps.rel (g : Mk → Mk) {t : Tm} {r : List Pl} {ms : List Mk} {t' : Tm} (h : Steps t r ms t') : Steps (Ly.rel g t) r (ms.map g) (Ly.rel g t') := by
  induction h with
  | nil t => exact .nil _
  | cons s _ ih => exact .cons (s.rel g) ih
theorem Steps.unrel (g : Mk → Mk) : ∀ {r : List Pl} {t : Tm} {ms' : List Mk} {t1' : Tm}, Steps (Ly.rel g t) r ms' t1' → ∃ ms t1, Steps t r ms t1 ∧ ms' = ms.map g ∧ t1' = Ly.rel g t1
  | [], t, _, _, h => by cases h; exact ⟨[], t, .nil _, rfl, rfl⟩
  | p :: r, t, _, _, h => by
    cases h with
    | cons s h =>
      obtain ⟨m, t1, s2, rfl, rfl⟩ := s.unrel g
      obtain ⟨ms, t2, h2, rfl, rfl⟩ := Steps.unrel g h
      exact ⟨_, _, .cons s2 h2, rfl, rfl⟩
theorem resid_rel (g : Mk → Mk) : ∀ (t : Tm) (p r : Pl), resid (rel g t) p r = resid t p r := by
  have occ_rel : ∀ (t : Tm) (d : Nat), occ d (rel g t) = occ d t := by
    intro t
    induction t with
    | var n => intro d; rfl
    | app h v h1 h2 => intro d; simp only [rel, occ]; rw [h1, h2]
    | lam m b ih => intro d; simp only [rel, occ]; rw [ih]
  intro t
  induction t with
  | var n => intro p r; cases p <;> cases r <;> rfl
  | app h v h1 h2 =>
    intro p r
    match p, r with
    | .f :: p, .f :: r => simp only [rel, resid]; rw [h1]
    | .a :: p, .a :: r => simp only [rel, resid]; rw [h2]
    | .f :: p, .a :: r => rfl
    | .a :: p, .f :: r => rfl
    | .b :: p, r => cases r <;> rfl
    | .f :: p, .b :: r => rfl
    | .a :: p, .b :: r => rfl
    | .f :: p, [] => rfl
    | .a :: p, [] => rfl
    | [], [] => cases h <;> rfl
    | [], [.f] => cases h <;> rfl
    | [], .f :: .f :: r => cases h <;> rfl
    | [], .f :: .a :: r => cases h <;> rfl
    | [], .f :: .b :: r => cases h <;> rfl
    | [], .b :: r => cases h <;> rfl
    | [], .a :: r =>
      cases h with
      | var n => rfl
      | app _ _ => rfl
      | lam k b => simp only [rel, resid]; rw [occ_rel]
  | lam m b ih =>
    intro p r
    match p, r with
    | .b :: p, .b :: r => simp only [rel, resid]; rw [ih]
    | .f :: p, r => cases r <;> rfl
    | .a :: p, r => cases r <;> rfl
    | [], r => cases r <;> rfl
    | .b :: p, .f :: r => rfl
    | .b :: p, .a :: r => rfl
    | .b :: p, [] => rfl

/-! ### nodes, a head ahead of its parts -/
inductive Nd where
  | var (n : Nat) | app | lam (m : Mk)
  deriving DecidableEq
def flat : Tm → List Nd
  | .var n => [.var n]
  | .app g v => .app :: (flat g ++ flat v)
  | .lam m b => .lam m :: flat b
theorem flat_len : ∀ t : Tm, (flat t).length = sz t
  | .var _ => rfl
  | .app g v => by simp only [flat, sz, List.length_cons, List.length_append]; rw [flat_len g, flat_len v]; omega
  | .lam _ b => by simp only [flat, sz, List.length_cons]; rw [flat_len b]; omega
/-- the mark of the abstraction at an index -/
def lmk (t : Tm) : Mk → Mk
  | some j => match (flat t)[j]? with | some (.lam m) => m | _ => none
  | none => none
theorem rel_mark_of (g : Mk → Mk) : ∀ (t : Tm) (i : Nat), (∀ j m, (flat t)[j]? = some (.lam m) → g (some (i + j)) = m) → rel g (mark i t) = t
  | .var n, _, _ => rfl
  | .app h v, i, q => by
    simp only [mark, rel]
    rw [rel_mark_of g h (i + 1) fun j m e => ?_, rel_mark_of g v (i + 1 + sz h) fun j m e => ?_]
    · have := q (j + 1 + sz h) m (by
        simp only [flat]
        rw [show j + 1 + sz h = (j + sz h) + 1 by omega, List.getElem?_cons_succ, List.getElem?_append_right (by rw [flat_len]; omega), flat_len, Nat.add_sub_cancel]; exact e)
      rw [← this]; congr 2; omega
    · have hj : j < (flat h).length := (List.getElem?_eq_some_iff.mp e).1
      have := q (j + 1) m (by simp only [flat]; rw [List.getElem?_cons_succ, List.getElem?_append_left hj]; exact e)
      rw [← this]; congr 2; omega
  | .lam k b, i, q => by
    simp only [mark, rel]
    rw [rel_mark_of g b (i + 1) fun j m e => ?_]
    · have := q 0 k (by simp [flat])
      rw [Nat.add_zero] at this; rw [this]
    · have := q (j + 1) m (by simp only [flat]; rw [List.getElem?_cons_succ]; exact e)
      rw [← this]; congr 2; omega
theorem rel_mark (t : Tm) : rel (lmk t) (mark 0 t) = t := rel_mark_of _ t 0 fun j m e => by simp only [Nat.zero_add, lmk, e]

/-! ### steps with bounds -/
def mxv : Tm → Nat
  | .var n => n
  | .app g v => max (mxv g) (mxv v)
  | .lam _ b => mxv b
theorem mxv_rel (g : Mk → Mk) : ∀ t : Tm, mxv (rel g t) = mxv t
  | .var _ => rfl
  | .app h v => by simp only [rel, mxv]; rw [mxv_rel g h, mxv_rel g v]
  | .lam _ b => by simp only [rel, mxv]; rw [mxv_rel g b]
/-- the mark, what stands at the place behind the step, the whole -/
inductive StpC : Tm → Pl → Mk → Tm → Tm → Prop
  | root (m b v) : StpC (.app (.lam m b) v) [] m (put v 0 b) (put v 0 b)
  | f {g p m c g'} (v) : StpC g p m c g' → StpC (.app g v) (.f :: p) m c (.app g' v)
  | a {v p m c v'} (g) : StpC v p m c v' → StpC (.app g v) (.a :: p) m c (.app g v')
  | b {t p m c t'} (k) : StpC t p m c t' → StpC (.lam k t) (.b :: p) m c (.lam k t')
theorem StpC.stp {t : Tm} {p : Pl} {m : Mk} {c t1 : Tm} (h : StpC t p m c t1) : Stp t p m t1 := by
  induction h with
  | root m b v => exact .root _ _ _
  | f v _ ih => exact .f _ ih
  | a h _ ih => exact .a _ ih
  | b k _ ih => exact .b _ ih
theorem StpC.sz_le {t : Tm} {p : Pl} {m : Mk} {c t1 : Tm} (h : StpC t p m c t1) : sz c ≤ sz t1 := by
  induction h with
  | root m b v => exact Nat.le_refl _
  | f v _ ih => simp only [sz]; omega
  | a h _ ih => simp only [sz]; omega
  | b k _ ih => simp only [sz]; omega
def stepF : Tm → Pl → Option (Mk × Tm × Tm)
  | .app (.lam m b) v, [] => some (m, put v 0 b, put v 0 b)
  | .app g v, .f :: p => (stepF g p).map fun x => (x.1, x.2.1, .app x.2.2 v)
  | .app g v, .a :: p => (stepF v p).map fun x => (x.1, x.2.1, .app g x.2.2)
  | .lam k b, .b :: p => (stepF b p).map fun x => (x.1, x.2.1, .lam k x.2.2)
  | _, _ => none
theorem stepF_of {t : Tm} {p : Pl} {m : Mk} {c t1 : Tm} (h : StpC t p m c t1) : stepF t p = some (m, c, t1) := by
  induction h with
  | root m b v => rfl
  | f v _ ih => simp only [stepF, ih]; rfl
  | a h _ ih => simp only [stepF, ih]; rfl
  | b k _ ih => simp only [stepF, ih]; rfl
theorem Stp.stpC {t : Tm} {p : Pl} {m : Mk} {t1 : Tm} (h : Stp t p m t1) : ∃ c, StpC t p m c t1 := by
  induction h with
  | root m b v => exact ⟨_, .root _ _ _⟩
  | f v _ ih => obtain ⟨c, h⟩ := ih; exact ⟨c, .f _ h⟩
  | a h _ ih => obtain ⟨c, h⟩ := ih; exact ⟨c, .a _ h⟩
  | b k _ ih => obtain ⟨c, h⟩ := ih; exact ⟨c, .b _ h⟩
theorem of_stepF : ∀ {t : Tm} {p : Pl} {x}, stepF t p = some x → StpC t p x.1 x.2.1 x.2.2
  | .var n, p, x, h => by cases p <;> cases h
  | .app g v, p, x, h => by
    match p with
    | [] => cases g with
      | lam m b => cases h; exact .root _ _ _
      | var n => cases h
      | app _ _ => cases h
    | .f :: p =>
      simp only [stepF] at h
      cases e : stepF g p with
      | none => rw [e] at h; cases h
      | some y => rw [e] at h; cases h; exact .f _ (of_stepF e)
    | .a :: p =>
      simp only [stepF] at h
      cases e : stepF v p with
      | none => rw [e] at h; cases h
      | some y => rw [e] at h; cases h; exact .a _ (of_stepF e)
    | .b :: p => simp [stepF] at h
  | .lam k b, p, x, h => by
    match p with
    | [] => cases h
    | .f :: p => cases h
    | .a :: p => cases h
    | .b :: p =>
      simp only [stepF] at h
      cases e : stepF b p with
      | none => rw [e] at h; cases h
      | some y => rw [e] at h; cases h; exact .b _ (of_stepF e)
/-- the step, or none where it is too large -/
def stepC (t : Tm) (p : Pl) : Option (Mk × Tm) :=
  match stepF t p with
  | some x => if mxv x.2.1 > 1000000 ∨ sz x.2.2 > 1000 then none else some (x.1, x.2.2)
  | none => none
theorem stepC_some {t : Tm} {p : Pl} {m : Mk} {t1 : Tm} (h : stepC t p = some (m, t1)) : Stp t p m t1 ∧ sz t1 ≤ 1000 := by
  unfold stepC at h
  cases e : stepF t p with
  | none => rw [e] at h; cases h
  | some x =>
    rw [e] at h
    simp only at h
    split at h
    · cases h
    · rename_i q
      cases h
      exact ⟨(of_stepF e).stp, by omega⟩
theorem stepC_of {t : Tm} {p : Pl} {m : Mk} {c t1 : Tm} (h : StpC t p m c t1) : stepC t p = if mxv c > 1000000 ∨ sz t1 > 1000 then none else some (m, t1) := by
  unfold stepC; rw [stepF_of h]
theorem StpC.rel (g : Mk → Mk) {t : Tm} {p : Pl} {m : Mk} {c t' : Tm} (h : StpC t p m c t') : StpC (Ly.rel g t) p (g m) (Ly.rel g c) (Ly.rel g t') := by
  induction h with
  | root m b v => rw [← put_rel]; exact .root _ _ _
  | f v _ ih => exact .f _ ih
  | a h _ ih => exact .a _ ih
  | b k _ ih => exact .b _ ih
theorem stepC_rel (g : Mk → Mk) (t : Tm) (p : Pl) : stepC (rel g t) p = (stepC t p).map fun x => (g x.1, rel g x.2) := by
  cases e : stepF t p with
  | some x =>
    have h := of_stepF e
    rw [stepC_of (h.rel g), stepC_of h, mxv_rel, sz_rel]
    split <;> rfl
  | none =>
    cases e' : stepF (rel g t) p with
    | some x =>
      obtain ⟨m, t1, s, _, _⟩ := (of_stepF e').stp.unrel g
      obtain ⟨c, s⟩ := s.stpC
      rw [stepF_of s] at e; cases e
    | none => unfold stepC; rw [e, e']; rfl
def runC : Tm → List Pl → Option (List Mk × Tm)
  | t, [] => some ([], t)
  | t, p :: ps => (stepC t p).bind fun x => (runC x.2 ps).map fun y => (x.1 :: y.1, y.2)
theorem runC_steps : ∀ {r : List Pl} {t : Tm} {x}, runC t r = some x → Steps t r x.1 x.2
  | [], t, x, h => by cases h; exact .nil _
  | p :: r, t, x, h => by
    simp only [runC] at h
    obtain ⟨y, h1, h2⟩ := Option.bind_eq_some_iff.mp h
    obtain ⟨z, h3, rfl⟩ := Option.map_eq_some_iff.mp h2
    exact .cons (stepC_some (m := y.1) (t1 := y.2) h1).1 (runC_steps h3)
theorem runC_rel (g : Mk → Mk) : ∀ (r : List Pl) (t : Tm), runC (rel g t) r = (runC t r).map fun x => (x.1.map g, rel g x.2)
  | [], t => rfl
  | p :: r, t => by
    simp only [runC]
    rw [stepC_rel]
    cases stepC t p with
    | none => rfl
    | some x =>
      simp only [Option.map_some, Option.bind_some]
      rw [runC_rel g r x.2]
      cases runC x.2 r <;> rfl

/-! ### the mirrors -/
def firstM (t : Tm) (road : List Pl) : Option Pl :=
  (runC (mark 0 t) road).bind fun x => ((reds (mark 0 t)).find? fun y => x.1.contains y.2).map (·.1)
def withoutM : Tm → Pl → List Pl → List Pl → Option (List Pl)
  | _, _, [], fd => some fd
  | t, p, r :: rs, fd =>
    if r = p then some (fd ++ rs) else
      (stepC t p).bind fun _ =>
        if (fd ++ (resid t p r).reverse).length > 200 then none else
          (stepC t r).bind fun x => withoutM x.2 p rs (fd ++ (resid t p r).reverse)
def stdM : Nat → Tm → List Pl → List Pl → Option (List Pl)
  | _, _, [], fd => some fd
  | 0, _, _ :: _, _ => none
  | n + 1, t, r :: rs, fd =>
    (firstM t (r :: rs)).bind fun p =>
      (withoutM t p (r :: rs) []).bind fun road =>
        if road.length > 200 ∨ fd.length + 1 > 200 then none else
          (stepC t p).bind fun x => stdM n x.2 road (fd ++ [p])
theorem firstM_rel (g : Mk → Mk) (t : Tm) (road : List Pl) : firstM (rel g t) road = firstM t road := by unfold firstM; rw [mark_rel]
theorem withoutM_rel (g : Mk → Mk) : ∀ (road : List Pl) (t : Tm) (p : Pl) (fd : List Pl), withoutM (rel g t) p road fd = withoutM t p road fd
  | [], _, _, _ => rfl
  | r :: rs, t, p, fd => by
    simp only [withoutM]
    rw [stepC_rel, stepC_rel, resid_rel]
    split
    · rfl
    · cases stepC t p with
      | none => rfl
      | some x =>
        simp only [Option.map_some, Option.bind_some]
        split
        · rfl
        · cases stepC t r with
          | none => rfl
          | some y =>
            simp only [Option.map_some, Option.bind_some]
            exact withoutM_rel g rs y.2 p _
theorem stdM_rel (g : Mk → Mk) : ∀ (n : Nat) (t : Tm) (road fd : List Pl), stdM n (rel g t) road fd = stdM n t road fd
  | 0, _, [], _ => rfl
  | 0, _, _ :: _, _ => rfl
  | n + 1, _, [], _ => rfl
  | n + 1, t, r :: rs, fd => by
    simp only [stdM]
    rw [firstM_rel]
    congr 1
    funext p
    rw [withoutM_rel]
    congr 1
    funext road
    split
    · rfl
    · rw [stepC_rel]
      cases stepC t p with
      | none => rfl
      | some x => exact stdM_rel g n x.2 road (fd ++ [p])

/-! ### what first_of finds -/
structure FirstOf (T : Tm) (ms : List Mk) (p : Pl) (m : Mk) (T2 : Tm) : Prop where
  stp : Stp T p m T2
  mem : m ∈ ms
  least : ∀ q k t', Lt q p → Stp T q k t' → k ∉ ms
theorem find_first {ms : List Mk} : ∀ {l : List (Pl × Mk)} {x : Pl × Mk}, l.Pairwise (fun x y => Lt x.1 y.1) → l.find? (fun y => ms.contains y.2) = some x → x ∈ l ∧ x.2 ∈ ms ∧ ∀ y ∈ l, Lt y.1 x.1 → y.2 ∉ ms
  | [], x, _, h => by cases h
  | z :: l, x, hp, h => by
    obtain ⟨h1, h2⟩ := List.pairwise_cons.mp hp
    rw [List.find?_cons] at h
    cases e : ms.contains z.2 with
    | true =>
      rw [e] at h
      cases h
      refine ⟨List.mem_cons_self, by simpa using e, fun y hy lt hm => ?_⟩
      rcases List.mem_cons.mp hy with rfl | hy
      · exact Lt.irrefl lt
      · exact Lt.irrefl (lt.trans (h1 y hy))
    | false =>
      rw [e] at h
      obtain ⟨q1, q2, q3⟩ := find_first h2 h
      refine ⟨List.mem_cons_of_mem _ q1, q2, fun y hy lt => ?_⟩
      rcases List.mem_cons.mp hy with rfl | hy
      · intro hm; rw [List.contains_iff_mem.mpr hm] at e; cases e
      · exact q3 y hy lt
theorem firstM_some {t : Tm} {road : List Pl} {p : Pl} (h : firstM t road = some p) : ∃ ms T' m T2, runC (mark 0 t) road = some (ms, T') ∧ FirstOf (mark 0 t) ms p m T2 := by
  unfold firstM at h
  obtain ⟨x, h1, h2⟩ := Option.bind_eq_some_iff.mp h
  obtain ⟨z, h3, rfl⟩ := Option.map_eq_some_iff.mp h2
  obtain ⟨q1, q2, q3⟩ := find_first (reds_sorted _) h3
  obtain ⟨T2, hs⟩ := mem_reds.mp (show (z.1, z.2) ∈ _ from q1)
  exact ⟨x.1, x.2, z.2, T2, h1, hs, q2, fun q k t' lt s => q3 (q, k) (mem_reds.mpr ⟨_, s⟩) lt⟩
/-- there is one, where the road has a step -/
theorem firstM_ex {t : Tm} {r : Pl} {rs : List Pl} {x} (h : runC (mark 0 t) (r :: rs) = some x) : ∃ p, firstM t (r :: rs) = some p := by
  have hs := runC_steps h
  obtain ⟨ms, T'⟩ := x
  cases hs with
  | cons s hs =>
    rename_i m t1 ms'
    unfold firstM
    rw [h]
    cases e : ((reds (mark 0 t)).find? fun y => (m :: ms').contains y.2) with
    | some z => exact ⟨z.1, by rw [Option.bind_some, e]; rfl⟩
    | none =>
      have := List.find?_eq_none.mp e (r, m) (mem_reds.mpr ⟨_, s⟩)
      simp at this

/-! ### the road without p -/
/-- what the walk of `without` needs at each step -/
inductive WOk : Tm → Pl → List Pl → Prop
  | nil (t p) : WOk t p []
  | hit (t p rs) : WOk t p (p :: rs)
  | go {t p r m t2 n t1 rs} : r ≠ p → Lt p r → Stp t p m t2 → Stp t r n t1 → WOk t1 p rs → WOk t p (r :: rs)
theorem WOk.rel (g : Mk → Mk) {t : Tm} {p : Pl} {rs : List Pl} (h : WOk t p rs) : WOk (Ly.rel g t) p rs := by
  induction h with
  | nil t p => exact .nil _ _
  | hit t p rs => exact .hit _ _ _
  | go h1 h2 s1 s2 _ ih => exact .go h1 h2 (s1.rel g) (s2.rel g) ih
theorem FirstOf.next {T : Tm} {p r : Pl} {m n : Mk} {T1 T2 T' : Tm} {rs : List Pl} {ms : List Mk} (F : FirstOf T (n :: ms) p m T2) (c : cnt m T = 1) (s : Stp T r n T1) (hr : r ≠ p) :
    Lt p r ∧ cnt m T1 = 1 ∧ m ∈ ms ∧ ∀ q k t', Lt q p → Stp T1 q k t' → k ∉ ms := by
  have lt : Lt p r := by
    rcases F.stp.tri s with z | z | z
    · exact z
    · exact absurd z.symm hr
    · exact absurd List.mem_cons_self (F.least r n T1 z s)
  have hmn : m ≠ n := fun e => by subst e; exact hr (s.uniq F.stp (by omega))
  refine ⟨lt, F.stp.cnt_keep s lt c, ?_, fun q k t' lq sq hk => ?_⟩
  · rcases List.mem_cons.mp F.mem with e | e
    · exact absurd e hmn
    · exact e
  · obtain ⟨t', z⟩ := before_old F.stp s lt lq sq
    exact F.least q k t' lq z (List.mem_cons_of_mem _ hk)
theorem wok_of : ∀ {road : List Pl} {T : Tm} {ms : List Mk} {p : Pl} {m : Mk} {T2 T' : Tm}, Steps T road ms T' → FirstOf T ms p m T2 → cnt m T = 1 → WOk T p road
  | [], _, _, _, _, _, _, h, F, c => .nil _ _
  | r :: rs, T, _, p, m, T2, T', h, F, c => by
    cases h with
    | cons s h =>
      by_cases e : r = p
      · subst e; exact .hit _ _ _
      · obtain ⟨lt, c', hm, hl⟩ := F.next (T' := T') (rs := rs) c s e
        obtain ⟨T3, h1, _⟩ := diagram F.stp s lt
        exact .go e lt F.stp s (wok_of h ⟨h1, hm, hl⟩ c')
theorem without_ok : ∀ {road : List Pl} {T : Tm} {ms : List Mk} {p : Pl} {m : Mk} {T2 T' : Tm} {fd out : List Pl}, Steps T road ms T' → FirstOf T ms p m T2 → cnt m T = 1 → withoutM T p road fd = some out →
    ∃ s ks, out = fd ++ s ∧ Steps T2 s ks T' ∧ ∀ k ∈ ks, k ∈ ms
  | [], _, _, _, _, _, _, _, _, h, F, c, w => by cases h; cases F.mem
  | r :: rs, T, _, p, m, T2, T', fd, out, h, F, c, w => by
    cases h with
    | cons s h =>
      rename_i n T1 ms
      simp only [withoutM] at w
      by_cases e : r = p
      · subst e
        rw [if_pos rfl] at w
        cases w
        obtain ⟨rfl, rfl⟩ := F.stp.det s
        exact ⟨rs, ms, rfl, h, fun k hk => List.mem_cons_of_mem _ hk⟩
      · rw [if_neg e] at w
        obtain ⟨x, _, w⟩ := Option.bind_eq_some_iff.mp w
        split at w
        · cases w
        · obtain ⟨y, hy, w⟩ := Option.bind_eq_some_iff.mp w
          obtain ⟨_, rfl⟩ := s.det (stepC_some (m := y.1) (t1 := y.2) hy).1
          obtain ⟨lt, c', hm, hl⟩ := F.next (T' := T') (rs := rs) c s e
          obtain ⟨T3, h1, h2⟩ := diagram F.stp s lt
          obtain ⟨s', ks, e1, h3, h4⟩ := without_ok h ⟨h1, hm, hl⟩ c' w
          refine ⟨(resid T p r).reverse ++ s', _, by rw [e1, List.append_assoc], h2.append h3, fun k hk => ?_⟩
          rcases List.mem_append.mp hk with z | z
          · rw [(List.mem_replicate.mp z).2]; exact List.mem_cons_self
          · exact List.mem_cons_of_mem _ (h4 k z)

/-! ### standard roads -/
inductive Std : Tm → List Pl → Prop
  | nil (t) : Std t []
  | cons {t p m T1 rs ks T'} : Stp (mark 0 t) p m T1 → Steps T1 rs ks T' → (∀ q k t', Lt q p → Stp (mark 0 t) q k t' → k ∉ ks) → Std T1 rs → Std t (p :: rs)
theorem Std.of_mark {t t' : Tm} {r : List Pl} (h : Std t r) (e : mark 0 t = mark 0 t') : Std t' r := by
  cases h with
  | nil => exact .nil _
  | cons s h1 h2 h3 => rw [e] at s h2; exact .cons s h1 h2 h3
theorem Std.rel (g : Mk → Mk) {t : Tm} {r : List Pl} (h : Std t r) : Std (Ly.rel g t) r := h.of_mark (mark_rel g t 0).symm
theorem Std.unrel (g : Mk → Mk) {t : Tm} {r : List Pl} (h : Std (Ly.rel g t) r) : Std t r := h.of_mark (mark_rel g t 0)

structure StdOut (t : Tm) (road s : List Pl) (ms : List Mk) (t' : Tm) : Prop where
  run : ∃ ks, runC t s = some (ks, t') ∧ ∀ k ∈ ks, k ∈ ms
  std : Std t s
  same : Std t road → s = road
theorem std_ok : ∀ {n : Nat} {t : Tm} {road fd out : List Pl} {ms : List Mk} {t' : Tm}, Steps t road ms t' → stdM n t road fd = some out → ∃ s, out = fd ++ s ∧ StdOut t road s ms t'
  | n, t, [], fd, out, ms, t', h, w => by
    cases h
    have : some fd = some out := by cases n <;> exact w
    cases this
    exact ⟨[], (List.append_nil _).symm, ⟨[], rfl, fun k hk => hk⟩, .nil _, fun _ => rfl⟩
  | 0, _, _ :: _, _, _, _, _, h, w => by cases w
  | n + 1, t, r :: rs, fd, out, ms, t', h, w => by
    simp only [stdM] at w
    obtain ⟨p, hp, w⟩ := Option.bind_eq_some_iff.mp w
    obtain ⟨road, hr, w⟩ := Option.bind_eq_some_iff.mp w
    split at w
    · cases w
    obtain ⟨x, hx, w⟩ := Option.bind_eq_some_iff.mp w
    obtain ⟨ms0, T', m, T2, h0, F⟩ := firstM_some hp
    have hs0 := runC_steps h0
    have eg := rel_mark t
    have c : cnt m (mark 0 t) = 1 := by have := fresh t 0 m; have := F.stp.cnt_pos; omega
    have hr' : withoutM (mark 0 t) p (r :: rs) [] = some road := by
      rw [← withoutM_rel (lmk t), eg]; exact hr
    obtain ⟨s0, ks0, e0, st0, mem0⟩ := without_ok hs0 F c hr'
    rw [List.nil_append] at e0
    subst e0
    -- the step at p in t
    have sp : Stp t p (lmk t m) (rel (lmk t) T2) := by have := F.stp.rel (lmk t); rw [eg] at this; exact this
    obtain ⟨e1, e2⟩ := sp.det (stepC_some (m := x.1) (t1 := x.2) hx).1
    have w2 : stdM n T2 road (fd ++ [p]) = some out := by rw [← stdM_rel (lmk t), ← e2]; exact w
    obtain ⟨s, e3, O⟩ := std_ok st0 w2
    obtain ⟨ks, hk, mk⟩ := O.run
    -- where the road leads
    obtain ⟨e4, e5⟩ := Steps.det (by have := hs0.rel (lmk t); rw [eg] at this; exact this) h
    simp only at e4 e5
    refine ⟨p :: s, by rw [e3, List.append_assoc]; rfl, ⟨lmk t m :: ks.map (lmk t), ?_, fun k hk' => ?_⟩, ?_, fun hstd => ?_⟩
    · simp only [runC]
      rw [hx, Option.bind_some, e2, runC_rel, hk, e1, e5]
      rfl
    · rw [e4]
      rcases List.mem_cons.mp hk' with rfl | hk'
      · exact List.mem_map_of_mem F.mem
      · obtain ⟨k0, hk0, rfl⟩ := List.mem_map.mp hk'
        exact List.mem_map_of_mem (mem0 _ (mk _ hk0))
    · exact .cons F.stp (runC_steps hk) (fun q k t'' lt sq hkm => F.least q k t'' lt sq (mem0 _ (mk _ hkm))) O.std
    · cases hstd with
      | cons s1 hs1 hl1 hstd1 =>
        rename_i n1 T1 ks1 T1'
        obtain ⟨e6, e7⟩ := Steps.det (Steps.cons s1 hs1) hs0
        simp only at e6 e7
        have epr : p = r := by
          rcases F.stp.tri s1 with z | z | z
          · exfalso
            have hm := F.mem
            rw [e6] at hm
            rcases List.mem_cons.mp hm with e | e
            · subst e
              have := F.stp.uniq s1 (by omega)
              subst this
              exact Lt.irrefl z
            · exact hl1 p m T2 z F.stp e
          · exact z
          · exact absurd (by rw [e6]; exact List.mem_cons_self) (F.least r n1 T1 z s1)
        subst epr
        obtain ⟨_, rfl⟩ := F.stp.det s1
        have er : road = rs := by simp only [withoutM, if_pos] at hr; simpa using hr.symm
        subst er
        rw [O.same hstd1]
end Ly

/-! M4: terms as lists of nodes: depths, places, indices. -/
namespace Ly

def deps : Nat → Tm → List Nat
  | d, .var _ => [d]
  | d, .app g v => d :: (deps d g ++ deps d v)
  | d, .lam _ b => d :: deps (d + 1) b
theorem deps_len : ∀ (t : Tm) (d : Nat), (deps d t).length = sz t
  | .var _, _ => rfl
  | .app g v, d => by simp only [deps, sz, List.length_cons, List.length_append]; rw [deps_len g, deps_len v]; omega
  | .lam _ b, d => by simp only [deps, sz, List.length_cons]; rw [deps_len b]; omega
def liftN (k : Nat) : Nd → Nat → Nd
  | .var n, d => if d ≤ n then .var (n + k) else .var n
  | nd, _ => nd
theorem flat_lift (k : Nat) : ∀ (t : Tm) (c : Nat), flat (lift k c t) = List.zipWith (liftN k) (flat t) (deps c t)
  | .var n, c => by simp only [lift, flat, deps, List.zipWith_cons_cons, List.zipWith_nil_left, liftN]; split <;> rfl
  | .app g v, c => by
    simp only [lift, flat, deps, List.zipWith_cons_cons, liftN]
    rw [List.zipWith_append (by rw [flat_len, deps_len]), flat_lift k g, flat_lift k v]
  | .lam m b, c => by simp only [lift, flat, deps, List.zipWith_cons_cons, liftN]; rw [flat_lift k b]
def putN (v : Tm) : Nd → Nat → List Nd
  | .var n, d => if n < d then [.var n] else if n = d then flat (lift d 0 v) else [.var (n - 1)]
  | nd, _ => [nd]
theorem flat_put (v : Tm) : ∀ (t : Tm) (d : Nat), flat (put v d t) = (List.zipWith (putN v) (flat t) (deps d t)).flatten
  | .var n, d => by
    simp only [put, flat, deps, List.zipWith_cons_cons, List.zipWith_nil_left, putN, List.flatten_cons, List.flatten_nil, List.append_nil]
    split
    · rfl
    · split <;> rfl
  | .app g w, d => by
    simp only [put, flat, deps, List.zipWith_cons_cons, putN]
    rw [List.zipWith_append (by rw [flat_len, deps_len]), flat_put v g, flat_put v w]
    simp
  | .lam m b, d => by simp only [put, flat, deps, List.zipWith_cons_cons, putN]; rw [flat_put v b]; simp
theorem sz_lift (k : Nat) (t : Tm) (c : Nat) : sz (lift k c t) = sz t := by
  induction t generalizing c with
  | var n => rfl
  | app g v h1 h2 => simp only [lift, sz]; rw [h1, h2]
  | lam m b ih => simp only [lift, sz]; rw [ih]
theorem sz_put_le (v : Tm) : ∀ (t : Tm) (d : Nat), sz (put v d t) ≤ sz t * sz v + sz t
  | .var n, d => by
    have := sz_pos v
    simp only [sz, Nat.one_mul]
    rcases Nat.lt_trichotomy n d with q | q | q
    · rw [put_lt q]; simp only [sz]; omega
    · subst q; rw [put_eq, sz_lift]; omega
    · rw [put_gt q]; simp only [sz]; omega
  | .app g w, d => by
    simp only [put, sz]
    have h1 := sz_put_le v g d
    have h2 := sz_put_le v w d
    rw [Nat.add_mul, Nat.add_mul]
    omega
  | .lam m b, d => by
    simp only [put, sz]
    have h1 := sz_put_le v b (d + 1)
    rw [Nat.add_mul]
    omega

/-! ### places -/
def pls : Tm → List Pl
  | .var _ => [[]]
  | .app g v => [] :: ((pls g).map (.f :: ·) ++ (pls v).map (.a :: ·))
  | .lam _ b => [] :: (pls b).map (.b :: ·)
theorem pls_len : ∀ (t : Tm), (pls t).length = sz t
  | .var _ => rfl
  | .app g v => by simp only [pls, sz, List.length_cons, List.length_append, List.length_map]; rw [pls_len g, pls_len v]; omega
  | .lam _ b => by simp only [pls, sz, List.length_cons, List.length_map]; rw [pls_len b]; omega
def sub : Tm → Pl → Option Tm
  | t, [] => some t
  | .app g _, .f :: p => sub g p
  | .app _ v, .a :: p => sub v p
  | .lam _ b, .b :: p => sub b p
  | _, _ => none
def idx : Tm → Pl → Nat
  | .app g _, .f :: p => 1 + idx g p
  | .app g v, .a :: p => 1 + sz g + idx v p
  | .lam _ b, .b :: p => 1 + idx b p
  | _, _ => 0
def redm : Tm → Option Mk
  | .app (.lam m _) _ => some m
  | _ => none
theorem sub_nil (t : Tm) : sub t [] = some t := by cases t <;> rfl
theorem idx_nil (t : Tm) : idx t [] = 0 := by cases t <;> rfl
/-- what stands at a place: behind its index -/
theorem sub_flat : ∀ {t : Tm} {p : Pl} {s : Tm}, sub t p = some s → ∃ pre post, flat t = pre ++ (flat s ++ post) ∧ pre.length = idx t p
  | t, [], s, h => by rw [sub_nil] at h; cases h; exact ⟨[], [], by simp, by rw [idx_nil]; rfl⟩
  | .app g v, .f :: p, s, h => by
    obtain ⟨pre, post, e, l⟩ := sub_flat (t := g) h
    exact ⟨.app :: pre, post ++ flat v, by simp [flat, e], by simp [idx, l]; omega⟩
  | .app g v, .a :: p, s, h => by
    obtain ⟨pre, post, e, l⟩ := sub_flat (t := v) h
    exact ⟨.app :: (flat g ++ pre), post, by simp [flat, e], by simp [idx, l, flat_len]; omega⟩
  | .lam m b, .b :: p, s, h => by
    obtain ⟨pre, post, e, l⟩ := sub_flat (t := b) h
    exact ⟨.lam m :: pre, post, by simp [flat, e], by simp [idx, l]; omega⟩
  | .var _, .f :: _, _, h => by cases h
  | .var _, .a :: _, _, h => by cases h
  | .var _, .b :: _, _, h => by cases h
  | .app _ _, .b :: _, _, h => by cases h
  | .lam _ _, .f :: _, _, h => by cases h
  | .lam _ _, .a :: _, _, h => by cases h
theorem pls_idx : ∀ {t : Tm} {p : Pl} {s : Tm}, sub t p = some s → (pls t)[idx t p]? = some p
  | t, [], s, h => by rw [idx_nil]; cases t <;> rfl
  | .app g v, .f :: p, s, h => by
    have ih := pls_idx (t := g) h
    have hl := (List.getElem?_eq_some_iff.mp ih).1
    simp only [pls, idx]
    rw [Nat.add_comm, List.getElem?_cons_succ, List.getElem?_append_left (by simpa using hl), List.getElem?_map, ih]; rfl
  | .app g v, .a :: p, s, h => by
    have ih := pls_idx (t := v) h
    simp only [pls, idx]
    rw [show 1 + sz g + idx v p = (sz g + idx v p) + 1 by omega, List.getElem?_cons_succ, List.getElem?_append_right (by simp [pls_len]), List.getElem?_map]
    simp only [List.length_map, pls_len]
    rw [show sz g + idx v p - sz g = idx v p by omega, ih]; rfl
  | .lam m b, .b :: p, s, h => by
    have ih := pls_idx (t := b) h
    simp only [pls, idx]
    rw [Nat.add_comm, List.getElem?_cons_succ, List.getElem?_map, ih]; rfl
  | .var _, .f :: _, _, h => by cases h
  | .var _, .a :: _, _, h => by cases h
  | .var _, .b :: _, _, h => by cases h
  | .app _ _, .b :: _, _, h => by cases h
  | .lam _ _, .f :: _, _, h => by cases h
  | .lam _ _, .a :: _, _, h => by cases h
theorem pls_sub : ∀ {t : Tm} {p : Pl}, p ∈ pls t → ∃ s, sub t p = some s
  | .var n, p, h => by simp only [pls, List.mem_singleton] at h; subst h; exact ⟨_, sub_nil _⟩
  | .app g v, p, h => by
    simp only [pls, List.mem_cons, List.mem_append, List.mem_map] at h
    rcases h with rfl | ⟨q, hq, rfl⟩ | ⟨q, hq, rfl⟩
    · exact ⟨_, sub_nil _⟩
    · exact pls_sub (t := g) hq
    · exact pls_sub (t := v) hq
  | .lam m b, p, h => by
    simp only [pls, List.mem_cons, List.mem_map] at h
    rcases h with rfl | ⟨q, hq, rfl⟩
    · exact ⟨_, sub_nil _⟩
    · exact pls_sub (t := b) hq
theorem pls_nodup : ∀ (t : Tm), (pls t).Nodup
  | .var n => by simp [pls]
  | .app g v => by
    simp only [pls]
    refine List.nodup_cons.mpr ⟨by simp, List.nodup_append.mpr ⟨?_, ?_, ?_⟩⟩
    · exact List.Pairwise.map _ (fun a b h e => h (List.cons.inj e).2) (pls_nodup g)
    · exact List.Pairwise.map _ (fun a b h e => h (List.cons.inj e).2) (pls_nodup v)
    · intro a ha b hb
      obtain ⟨q, _, rfl⟩ := List.mem_map.mp ha
      obtain ⟨r, _, rfl⟩ := List.mem_map.mp hb
      intro e; cases e
  | .lam m b => by
    simp only [pls]
    exact List.nodup_cons.mpr ⟨by simp, List.Pairwise.map _ (fun a b h e => h (List.cons.inj e).2) (pls_nodup b)⟩
/-- the redexes, by the index: the places whose part is one -/
theorem reds_pls : ∀ (t : Tm), reds t = (pls t).filterMap fun p => ((sub t p).bind redm).map fun m => (p, m)
  | .var n => rfl
  | .app g v => by
    simp only [pls, reds, List.filterMap_cons, List.filterMap_append, List.filterMap_map]
    rw [reds_pls g, reds_pls v, List.map_filterMap, List.map_filterMap]
    have e1 : ((fun p => Option.map (fun m => (p, m)) ((sub (g.app v) p).bind redm)) ∘ fun x => Dir.f :: x) = fun x => Option.map (fun x => (Dir.f :: x.fst, x.snd)) (Option.map (fun m => (x, m)) ((sub g x).bind redm)) := by
      funext x; simp only [Function.comp_apply, sub, Option.map_map]; rfl
    have e2 : ((fun p => Option.map (fun m => (p, m)) ((sub (g.app v) p).bind redm)) ∘ fun x => Dir.a :: x) = fun x => Option.map (fun x => (Dir.a :: x.fst, x.snd)) (Option.map (fun m => (x, m)) ((sub v x).bind redm)) := by
      funext x; simp only [Function.comp_apply, sub, Option.map_map]; rfl
    rw [e1, e2]
    cases g with
    | var n => simp [headm, sub, redm]
    | app _ _ => simp [headm, sub, redm]
    | lam k b => simp [headm, sub, redm]
  | .lam k b => by
    simp only [pls, reds, List.filterMap_cons, List.filterMap_map, sub_nil, Option.bind_some]
    rw [reds_pls b, List.map_filterMap]
    have e1 : ((fun p => Option.map (fun m => (p, m)) ((sub (Tm.lam k b) p).bind redm)) ∘ fun x => Dir.b :: x) = fun x => Option.map (fun x => (Dir.b :: x.fst, x.snd)) (Option.map (fun m => (x, m)) ((sub b x).bind redm)) := by
      funext x; simp only [Function.comp_apply, sub, Option.map_map]; rfl
    rw [e1]
    simp [redm]
theorem sub_stp : ∀ {t : Tm} {p : Pl} {s : Tm} {m : Mk}, sub t p = some s → redm s = some m → ∃ t', Stp t p m t'
  | t, [], s, m, h, r => by
    rw [sub_nil] at h; cases h
    cases t with
    | var n => cases r
    | lam k b => cases r
    | app g v => cases g with
      | var n => cases r
      | app _ _ => cases r
      | lam k b => cases r; exact ⟨_, .root _ _ _⟩
  | .app g v, .f :: p, s, m, h, r => by obtain ⟨t', h⟩ := sub_stp (t := g) h r; exact ⟨_, .f _ h⟩
  | .app g v, .a :: p, s, m, h, r => by obtain ⟨t', h⟩ := sub_stp (t := v) h r; exact ⟨_, .a _ h⟩
  | .lam m b, .b :: p, s, _, h, r => by obtain ⟨t', h⟩ := sub_stp (t := b) h r; exact ⟨_, .b _ h⟩
  | .var _, .f :: _, _, _, h, _ => by cases h
  | .var _, .a :: _, _, _, h, _ => by cases h
  | .var _, .b :: _, _, _, h, _ => by cases h
  | .app _ _, .b :: _, _, _, h, _ => by cases h
  | .lam _ _, .f :: _, _, _, h, _ => by cases h
  | .lam _ _, .a :: _, _, _, h, _ => by cases h
/-- a step, by the list of nodes -/
theorem StpC.flat {t : Tm} {p : Pl} {m : Mk} {c t1 : Tm} (h : StpC t p m c t1) : ∃ b v pre post, sub t p = some (.app (.lam m b) v) ∧ c = put v 0 b ∧ Ly.flat t = pre ++ (Ly.flat (.app (.lam m b) v) ++ post) ∧ pre.length = idx t p ∧ Ly.flat t1 = pre ++ (Ly.flat c ++ post) := by
  induction h with
  | root m b v => exact ⟨b, v, [], [], sub_nil _, rfl, by simp, by rw [idx_nil]; rfl, by simp⟩
  | @f g p m c g' v _ ih =>
    obtain ⟨b, w, pre, post, e1, e2, e3, e4, e5⟩ := ih
    exact ⟨b, w, .app :: pre, post ++ Ly.flat v, e1, e2, by simp [Ly.flat] at e3 ⊢; rw [e3]; simp, by simp [idx, e4]; omega, by simp [Ly.flat, e5]⟩
  | @a v p m c v' g _ ih =>
    obtain ⟨b, w, pre, post, e1, e2, e3, e4, e5⟩ := ih
    exact ⟨b, w, .app :: (Ly.flat g ++ pre), post, e1, e2, by simp [Ly.flat] at e3 ⊢; rw [e3], by simp [idx, e4, flat_len]; omega, by simp [Ly.flat, e5]⟩
  | @b t p m c t' k _ ih =>
    obtain ⟨b, w, pre, post, e1, e2, e3, e4, e5⟩ := ih
    exact ⟨b, w, .lam k :: pre, post, e1, e2, by simp [Ly.flat] at e3 ⊢; rw [e3], by simp [idx, e4]; omega, by simp [Ly.flat, e5]⟩
/-- the fresh marks, by the list of nodes -/
def markN (i : Nat) : Nd → Nd
  | .lam _ => .lam (some i)
  | nd => nd
theorem flat_mark : ∀ (t : Tm) (i : Nat), flat (mark i t) = (flat t).mapIdx fun j nd => markN (i + j) nd
  | .var n, i => by simp [mark, flat, markN]
  | .app g v, i => by
    simp only [mark, flat, List.mapIdx_cons, List.mapIdx_append]
    show Nd.app :: _ = Nd.app :: _
    rw [flat_mark g, flat_mark v, flat_len]
    congr 2
    · congr 1; funext j nd; rw [show i + 1 + j = i + (j + 1) by omega]
    · congr 1; funext j nd; rw [show i + 1 + sz g + j = i + (j + sz g + 1) by omega]
  | .lam m b, i => by
    simp only [mark, flat, List.mapIdx_cons, Nat.add_zero]
    show Nd.lam (some i) :: _ = Nd.lam (some i) :: _
    rw [flat_mark b]
    congr 2; funext j nd; rw [show i + 1 + j = i + (j + 1) by omega]
theorem flat_inj : ∀ {t s : Tm} {a b : List Nd}, flat t ++ a = flat s ++ b → t = s ∧ a = b
  | .var n, s, a, b, h => by
    cases s with
    | var m => simp [flat] at h; obtain ⟨rfl, rfl⟩ := h; exact ⟨rfl, rfl⟩
    | app _ _ => simp [flat] at h
    | lam _ _ => simp [flat] at h
  | .app g v, s, a, b, h => by
    cases s with
    | var m => simp [flat] at h
    | lam _ _ => simp [flat] at h
    | app g' v' =>
      simp only [flat, List.cons_append, List.append_assoc, List.cons.injEq, true_and] at h
      obtain ⟨e1, h1⟩ := flat_inj h
      obtain ⟨e2, h2⟩ := flat_inj h1
      exact ⟨by rw [e1, e2], h2⟩
  | .lam m t, s, a, b, h => by
    cases s with
    | var m => simp [flat] at h
    | app _ _ => simp [flat] at h
    | lam k t' =>
      simp only [flat, List.cons_append, List.cons.injEq, Nd.lam.injEq] at h
      obtain ⟨e0, h⟩ := h
      obtain ⟨e1, h1⟩ := flat_inj h
      exact ⟨by rw [e0, e1], h1⟩
theorem flat_inj' {t s : Tm} (h : flat t = flat s) : t = s := (flat_inj (a := []) (b := []) (by simpa using h)).1
end Ly

/-! M5: what the callers of the roads' functions need; the mirror of is_standard. -/
namespace Ly

/-! ### the order of places, as a test -/
def beforeB : Pl → Pl → Bool
  | [], [] => false
  | [], _ :: _ => true
  | _ :: _, [] => false
  | d :: p, e :: q => if d = e then beforeB p q else decide (d = .f)
theorem Lt.beforeB {p q : Pl} (h : Lt p q) : Ly.beforeB p q = true := by
  induction h with
  | nil d p => rfl
  | fa p q => simp [Ly.beforeB]
  | cons d h ih => simp [Ly.beforeB, ih]
theorem Lt.not_beforeB {p q : Pl} (h : Lt q p) : Ly.beforeB p q = false := by
  induction h with
  | nil d p => rfl
  | fa p q => simp [Ly.beforeB]
  | cons d h ih => simp [Ly.beforeB, ih]
theorem beforeB_self (p : Pl) : beforeB p p = false := by
  induction p with
  | nil => rfl
  | cons d p ih => simp [beforeB, ih]
theorem beforeB_iff {t : Tm} {p q : Pl} {m n : Mk} {t1 t2 : Tm} (h : Stp t p m t1) (h' : Stp t q n t2) : beforeB p q = true ↔ Lt p q := by
  refine ⟨fun e => ?_, Lt.beforeB⟩
  rcases h.tri h' with z | rfl | z
  · exact z
  · rw [beforeB_self] at e; cases e
  · rw [z.not_beforeB] at e; cases e

/-! ### from a term to its marked one -/
theorem Stp.toMark {t : Tm} {p : Pl} {m : Mk} {t1 : Tm} (h : Stp t p m t1) : ∃ i T1, Stp (mark 0 t) p (some i) T1 ∧ m = lmk t (some i) ∧ t1 = Ly.rel (lmk t) T1 := by
  have h' : Stp (Ly.rel (lmk t) (mark 0 t)) p m t1 := by rw [rel_mark]; exact h
  obtain ⟨m', T1, s, e1, e2⟩ := h'.unrel
  cases m' with
  | none => have := s.cnt_pos; rw [cnt_mark_none] at this; omega
  | some i => exact ⟨i, T1, s, e1, e2⟩
theorem Stp.ofMark {t : Tm} {p : Pl} {m : Mk} {T1 : Tm} (h : Stp (mark 0 t) p m T1) : Stp t p (lmk t m) (Ly.rel (lmk t) T1) := by
  have := h.rel (lmk t); rw [rel_mark] at this; exact this
theorem Steps.toMark {t : Tm} {r : List Pl} {ms : List Mk} {t1 : Tm} (h : Steps t r ms t1) : ∃ ms' T1, Steps (mark 0 t) r ms' T1 ∧ ms = ms'.map (lmk t) ∧ t1 = Ly.rel (lmk t) T1 := by
  have h' : Steps (Ly.rel (lmk t) (mark 0 t)) r ms t1 := by rw [rel_mark]; exact h
  obtain ⟨m', T1, s, e1, e2⟩ := h'.unrel
  exact ⟨m', T1, s, e1, e2⟩
theorem Steps.cnt0 {t : Tm} {r : List Pl} {ms : List Mk} {t1 : Tm} (h : Steps t r ms t1) {m : Mk} : cnt m t = 0 → m ∉ ms := by
  induction h with
  | nil t => intro _ h; cases h
  | cons s _ ih =>
    intro h0 hm
    rcases List.mem_cons.mp hm with rfl | hm
    · have := s.cnt_pos; omega
    · exact ih (s.cnt0 h0) hm
theorem stepC_mark (t : Tm) (p : Pl) : stepC t p = (stepC (mark 0 t) p).map fun x => (lmk t x.1, rel (lmk t) x.2) := by
  have := stepC_rel (lmk t) (mark 0 t) p
  rw [rel_mark] at this; exact this
theorem sz_of_mark (t : Tm) (T1 : Tm) : sz (rel (lmk t) T1) = sz T1 := sz_rel _ _
theorem runC_mark (t : Tm) (r : List Pl) : runC t r = (runC (mark 0 t) r).map fun x => (x.1.map (lmk t), rel (lmk t) x.2) := by
  have := runC_rel (lmk t) r (mark 0 t)
  rw [rel_mark] at this; exact this

/-! ### one turn of standard -/
theorem std_turn {t : Tm} {r : Pl} {rs : List Pl} {ms : List Mk} {t' : Tm} {p : Pl} (h : Steps t (r :: rs) ms t') (hp : firstM t (r :: rs) = some p) :
    WOk t p (r :: rs) ∧ (∃ m T2, Stp t p m T2) ∧ ∀ out, withoutM t p (r :: rs) [] = some out → ∀ m T2, Stp t p m T2 → ∃ ks t'', Steps T2 out ks t'' := by
  obtain ⟨ms0, T', m, T2, h0, F⟩ := firstM_some hp
  have hs0 := runC_steps h0
  have eg := rel_mark t
  have c : cnt m (mark 0 t) = 1 := by have := fresh t 0 m; have := F.stp.cnt_pos; omega
  refine ⟨?_, ⟨_, _, F.stp.ofMark⟩, fun out ho m' T2' s' => ?_⟩
  · have := (wok_of hs0 F c).rel (lmk t); rw [eg] at this; exact this
  · have hr' : withoutM (mark 0 t) p (r :: rs) [] = some out := by
      rw [← withoutM_rel (lmk t), eg]; exact ho
    obtain ⟨s0, ks0, e0, st0, mem0⟩ := without_ok hs0 F c hr'
    rw [List.nil_append] at e0
    subst e0
    obtain ⟨_, rfl⟩ := F.stp.ofMark.det s'
    exact ⟨_, _, st0.rel (lmk t)⟩
theorem firstM_none {t : Tm} {r : Pl} {rs : List Pl} (h : firstM t (r :: rs) = none) : runC (mark 0 t) (r :: rs) = none := by
  cases e : runC (mark 0 t) (r :: rs) with
  | none => rfl
  | some x => obtain ⟨p, hp⟩ := firstM_ex e; rw [hp] at h; cases h
theorem stdM_run {n : Nat} {t : Tm} {road fd out : List Pl} (h : stdM n t road fd = some out) : ∃ x, runC t road = some x := by
  cases road with
  | nil => exact ⟨_, rfl⟩
  | cons r rs =>
    cases n with
    | zero => cases h
    | succ n =>
      simp only [stdM] at h
      obtain ⟨p, hp, _⟩ := Option.bind_eq_some_iff.mp h
      obtain ⟨ms, T', m, T2, h1, _⟩ := firstM_some hp
      rw [runC_mark, h1]
      exact ⟨_, rfl⟩
theorem stdM_len : ∀ {n : Nat} {t : Tm} {road fd out : List Pl}, stdM n t road fd = some out → fd.length ≤ 200 → out.length ≤ 200
  | n, t, [], fd, out, h, hl => by
    have : some fd = some out := by cases n <;> exact h
    cases this; exact hl
  | 0, _, _ :: _, _, _, h, _ => by cases h
  | n + 1, t, r :: rs, fd, out, h, hl => by
    simp only [stdM] at h
    obtain ⟨p, hp, h⟩ := Option.bind_eq_some_iff.mp h
    obtain ⟨road, hr, h⟩ := Option.bind_eq_some_iff.mp h
    split at h
    · cases h
    · rename_i hc
      obtain ⟨x, hx, h⟩ := Option.bind_eq_some_iff.mp h
      exact stdM_len h (by simp; omega)
/-- a step too large: no standard road -/
theorem stdM_large {n : Nat} {t : Tm} {road fd : List Pl} (h : runC t road = none) : stdM n t road fd = none := by
  cases e : stdM n t road fd with
  | none => rfl
  | some out => obtain ⟨x, hx⟩ := stdM_run e; rw [hx] at h; cases h

/-! ### the mirror of is_standard -/
def now0 (t : Tm) (fr : Nat → Bool) (k : Nat) : Bool :=
  match lmk t (some k) with
  | some j => fr j
  | none => false
def befM (t : Tm) (p : Pl) (k : Nat) : Bool := (reds t).any fun x => beforeB x.1 p && decide (x.2 = some k)
def isStdM : Tm → (Nat → Bool) → List Pl → Bool
  | _, _, [] => true
  | t, fr, p :: rs =>
    match stepC (mark 0 t) p with
    | none => false
    | some x => if (match x.1 with | some i => now0 t fr i | none => false) = true then false else isStdM x.2 (fun k => now0 t fr k || befM (mark 0 t) p k) rs
theorem befM_iff {t : Tm} {p : Pl} {m : Mk} {t1 : Tm} (h : Stp t p m t1) (k : Nat) : befM t p k = true ↔ ∃ q t', Lt q p ∧ Stp t q (some k) t' := by
  unfold befM
  rw [List.any_eq_true]
  constructor
  · rintro ⟨x, hx, e⟩
    simp only [Bool.and_eq_true, decide_eq_true_eq] at e
    obtain ⟨t', s⟩ := mem_reds.mp (show (x.1, x.2) ∈ _ from hx)
    rw [e.2] at s
    exact ⟨x.1, t', (beforeB_iff s h).mp e.1, s⟩
  · rintro ⟨q, t', lt, s⟩
    exact ⟨(q, some k), mem_reds.mpr ⟨_, s⟩, by simp [lt.beforeB]⟩
theorem isStd_iff : ∀ {road : List Pl} {t : Tm} {fr : Nat → Bool} {x : List Mk × Tm}, runC t road = some x → (isStdM t fr road = true ↔ Std t road ∧ ∀ k, some k ∈ x.1 → fr k = false)
  | [], t, fr, x, h => by
    cases h
    exact ⟨fun _ => ⟨.nil _, fun k hk => by cases hk⟩, fun _ => rfl⟩
  | p :: rs, t, fr, x, h => by
    rw [runC_mark] at h
    obtain ⟨y, hy, rfl⟩ := Option.map_eq_some_iff.mp h
    simp only [runC] at hy
    obtain ⟨z, hz, h2⟩ := Option.bind_eq_some_iff.mp hy
    obtain ⟨u, hu, rfl⟩ := Option.map_eq_some_iff.mp h2
    obtain ⟨m, T1⟩ := z
    have hst := (stepC_some hz).1
    have hsteps := runC_steps hu
    obtain ⟨i, rfl⟩ : ∃ i, m = some i := by
      cases m with
      | some i => exact ⟨i, rfl⟩
      | none => have := hst.cnt_pos; rw [cnt_mark_none] at this; omega
    have hks : ∀ k ∈ u.1, ∃ j, k = some j := fun k hk => by
      cases k with
      | some j => exact ⟨j, rfl⟩
      | none => exact absurd hk (hsteps.cnt0 (hst.cnt0 (cnt_mark_none t 0)))
    have ih := isStd_iff (fr := fun k => now0 t fr k || befM (mark 0 t) p k) hu
    have e0 : ∀ k, now0 t fr k = false ↔ ∀ j, lmk t (some k) = some j → fr j = false := fun k => by
      unfold now0
      cases lmk t (some k) with
      | none => simp
      | some j => simp
    simp only [isStdM, hz]
    constructor
    · intro e
      split at e
      · cases e
      · rename_i hn
        obtain ⟨hstd, hk⟩ := ih.mp e
        refine ⟨.cons hst hsteps (fun q k t' lt s hm => ?_) hstd, fun j hj => ?_⟩
        · obtain ⟨k', rfl⟩ := hks k hm
          have := hk k' hm
          simp only [Bool.or_eq_false_iff] at this
          rw [(befM_iff hst k').mpr ⟨q, t', lt, s⟩] at this
          cases this.2
        · rw [List.map_cons] at hj
          rcases List.mem_cons.mp hj with hj | hj
          · exact (e0 i).mp (by simpa using hn) j hj.symm
          · obtain ⟨k, hk', ek⟩ := List.mem_map.mp hj
            obtain ⟨k', rfl⟩ := hks k hk'
            have := hk k' hk'
            simp only [Bool.or_eq_false_iff] at this
            exact (e0 k').mp this.1 j ek
    · rintro ⟨hstd, hfr⟩
      have hi : now0 t fr i = false := (e0 i).mpr fun j ej => hfr j (by rw [List.map_cons, ej]; exact List.mem_cons_self)
      rw [hi, if_neg (by simp)]
      refine ih.mpr ?_
      cases hstd with
      | cons s1 hs1 hl1 hstd1 =>
        obtain ⟨_, rfl⟩ := hst.det s1
        obtain ⟨e6, _⟩ := hsteps.det hs1
        subst e6
        refine ⟨hstd1, fun k hk => ?_⟩
        simp only [Bool.or_eq_false_iff]
        refine ⟨(e0 k).mpr fun j ej => hfr j (by rw [List.map_cons, ← ej]; exact List.mem_cons_of_mem _ (List.mem_map_of_mem hk)), ?_⟩
        cases eb : befM (mark 0 t) p k with
        | false => rfl
        | true =>
          obtain ⟨q, t', lt, s⟩ := (befM_iff hst k).mp eb
          exact absurd hk (hl1 q (some k) t' lt s)
end Ly

/-! W0: rules of our own over the layer: max with default, extend by a tuple, zip and enumerate over lists, tuples and texts alike. -/
namespace Ly
open PySem PySem.Spec PyProof.Rows L2

/-! ### extend by a tuple -/
theorem list_extend_tupleW (l : Addr) (items : Array Value) (n : Nat) (b : Addr) (items2 : Array Value) (n2 : Nat) (dd : Option Addr) (sl : Array (Option Value)) (hs0 : ¬(!items.isEmpty && Builtin.List.listTooLong (items.size + items2.size)) = true) (hs1 : items.size ≤ sizeLine) (hs2 : items.size + items2.size ≤ sizeLine + 1) :
    Meets (Builtin.«list.extend» ⟨[.ref l, .ref b], []⟩) (fun _ R s => s.heap.get? l = some { cls := .type "list", dict := none, data := .seq items n, slots := #[] } ∧ s.heap.get? b = some { cls := .type "tuple", dict := dd, data := .seq items2 n2, slots := sl } ∧ R (.ok (.ret Value.none)) { s with heap := s.heap.update l (Obj.mapSeq fun x => x ++ items2), toks := s.toks }) :=
  .of_wp fun prog w A R s h => by
    obtain ⟨hp, g, d, tk, os⟩ := s; obtain ⟨hl, hb, h⟩ := h; have f1 := AutoSeq1.idx_int; have f2 := AutoSeq1.sub_tuple_tuple; have f3 := AutoSeq1.sub_list_list; have f4 := AutoSeq1.sub_tuple_list; have f5 := AutoSeq1.sub_list_tuple;
    have hz' : (items ++ items2).size ≤ sizeLine + 1 := by rw [Array.size_append]; exact hs2
    wp_walk using (wpAny_updateSeq hl rfl (hz := hs1) (_hz' := hz')), AutoSeq1.wpAny_loadPart' hl, AutoSeq1.wpAny_loadPart' hb; exact ⟨_, rfl, h⟩
def rExtendT (K : PySem.W.Frag) : V → List V → Hp → VK → Prop := fun x vs H Q => ∃ l b xs zs, x = .ref l ∧ vs = [.ref b] ∧ H l = some (.lst xs) ∧ SqT K H b zs ∧ xs.length + zs.length ≤ sizeLine ∧ Q .non (upd H l (.lst (xs ++ zs)))
theorem mt_extendT {X : Cx} : MtM X "list.extend" (rExtendT X.K) := by
  intro pins s σ H x vs v us Q I rx rv h
  obtain ⟨l, b, xs, zs, rfl, rfl, hH, hB, hz, q⟩ := h
  cases rx
  obtain ⟨u, rfl, ru⟩ := rv.one
  cases ru
  obtain ⟨z, its, n, r, hl, e⟩ := I.lstM hH
  obtain ⟨its2, r2, ⟨⟨cls, dd, data, sl⟩, e2, hc, n2, hd⟩, _⟩ := I.tuple hB
  simp only at hc hd
  subst hc hd
  have hl2 := r2.length
  have hsz : its.toArray.size + its2.toArray.size ≤ sizeLine := by rw [List.size_toArray, List.size_toArray]; omega
  have hlong : ¬ (!its.toArray.isEmpty && Builtin.List.listTooLong (its.toArray.size + its2.toArray.size)) = true := by
    rw [notLongL hsz, Bool.and_false]
    exact Bool.false_ne_true
  refine call_meets F.slot_list_extend ⟨_, e, rfl⟩ F.entry_list_extend (F.args_list_extend_2 _ _)
    (list_extend_tupleW l its.toArray n b its2.toArray n2 dd sl hlong (by rw [List.size_toArray]; omega) (by omega)) ⟨e, e2, ?_⟩
  refine ⟨.non, _, I.lset (its' := its ++ its2) hH e (by simp) (r.append r2) ?_, rfl, q⟩
  rw [List.length_append]
  omega

/-! ### max(xs, default=d) of ints -/
theorem reads_ints {h : Heap} : ∀ {ns : List Int} {us : List Value}, Vals (ns.map V.int) us → ∃ as, ReadsAll h us (ns.map PyData.int) as
  | [], _, .nil => ⟨_, ReadsAll.nil⟩
  | n :: ns, _, .cons r t => by
    obtain ⟨k, rfl⟩ := r
    obtain ⟨as, q⟩ := reads_ints (ns := ns) t
    exact ⟨_, ReadsAll.cons (Reads.int n k) q⟩
theorem alike_ints (ns : List Int) : PySem.W.AlikeAll (ns.map PyData.int) := by
  refine ⟨fun x hx y hy => ?_, fun x hx => ?_⟩
  · obtain ⟨i, _, rfl⟩ := List.mem_map.mp hx
    obtain ⟨j, _, rfl⟩ := List.mem_map.mp hy
    rfl
  · obtain ⟨i, _, rfl⟩ := List.mem_map.mp hx
    intro z; cases z
theorem depth_ints (ns : List Int) : PyData.depthAll (ns.map PyData.int) ≤ 1 := by
  induction ns with
  | nil => simp [PyData.depthAll]
  | cons n ns ih => simp only [List.map_cons, PyData.depthAll, PyData.depth]; omega
def maxOf (d : Int) : List Int → Int
  | [] => d
  | n :: ns => ns.foldl max n
def rMaxDef (K : PySem.W.Frag) : List V → List V → Hp → VK → Prop := fun vs zs H Q => ∃ (a : Addr) (ns : List Int) (d : Int), vs = [V.ref a] ∧ zs = [.int d] ∧ SqL K H a (ns.map V.int) ∧ Q (.int (maxOf d ns)) H
theorem cr_maxDef {X : Cx} (hc : X.calm = true) (hu : X.A.units + 2 < cLine) : CallRK X (.builtin "max") [Str.ofString "default"] (rMaxDef X.K) := by
  intro pins s σ H xs zs us ws Q I r1 r2 h
  obtain ⟨a, ns, d, rfl, rfl, hs, q⟩ := h
  obtain ⟨u, rfl, ru⟩ := r1.one
  obtain ⟨w, rfl, rw'⟩ := r2.one
  cases ru
  obtain ⟨t, rfl⟩ := rw'
  obtain ⟨its, rv, p, hz⟩ := I.list hs
  obtain ⟨as, hr⟩ := reads_ints (h := s.heap) rv
  have hu' : X.A.units + 1 + PyData.depthAll (ns.map PyData.int) < cLine := by have := depth_ints ns; omega
  show wpAny _ _ (call (.builtin "max") [.ref a] [(Str.ofString "default", .int d t)]) _ _ _
  refine PySem.W.max_list_default (I.ok.hd hc) p.isList (by simpa using hr) (alike_ints ns) hu' (fun e h' tk k => ?_) (fun y ys i v h' tk bs e hv hrd k => ?_)
  · have e' : ns = [] := by simpa using e
    subst e'
    exact ⟨.int d, H, I.kept k, ⟨_, rfl⟩, q⟩
  · cases ns with
    | nil => cases e
    | cons n ns =>
      rw [List.map_cons] at e
      obtain ⟨rfl, rfl⟩ := List.cons.inj e
      rw [PySem.W.maxD_ints] at hrd
      cases hrd with
      | int i t' => exact ⟨.int (maxOf d (n :: ns)), H, I.kept k, ⟨_, rfl⟩, q⟩

/-! ### what zip and enumerate draw from -/
inductive SK where
  | tup (a : Addr) | lst (a : Addr) | txt (z : Str)
def SK.vals (z : Str) : List V := z.cps.toList.map fun c => V.str ⟨#[c]⟩
def SK.has (K : PySem.W.Frag) (H : Hp) : SK → List V → Prop
  | .tup a, xs => SqT K H a xs
  | .lst a, xs => SqL K H a xs
  | .txt z, xs => xs = SK.vals z
def SK.st (it : Addr) (i : Nat) (h : Heap) : SK → Prop
  | .tup a => h.IsTupleIter it a i
  | .lst a => h.IsListIter it a i
  | .txt z => ∃ t, h.IsStrIter it (strIterType z) z t i
def SK.cells : SK → List Addr
  | .tup a => [a]
  | .lst a => [a]
  | .txt _ => []
def SK.val : SK → V
  | .tup a => .ref a
  | .lst a => .ref a
  | .txt z => .str z
theorem SK.has_inj {X : Cx} {pins : List (Addr × Obj)} {σ : L2.St} {H : Hp} {s : Shared} (I : Inv X pins σ H s) {k : SK} {xs ys : List V} (h : k.has X.K H xs) (h' : k.has X.K H ys) : xs = ys := by
  cases k with
  | tup a => exact I.tuple_inj h h'
  | lst a => exact I.list_inj h h'
  | txt z => exact (show xs = _ from h).trans (show ys = _ from h').symm
theorem SK.st_obj {it : Addr} {i : Nat} {h : Heap} {k : SK} (q : k.st it i h) : ∃ o, h.get? it = some o ∧ ∀ v, o.data ≠ .cell v := by
  cases k with
  | tup a => obtain ⟨o, e, _, d⟩ := q; exact ⟨o, e, fun v q => by rw [d] at q; cases q⟩
  | lst a => obtain ⟨o, e, _, d⟩ := q; exact ⟨o, e, fun v q => by rw [d] at q; cases q⟩
  | txt z => obtain ⟨t, o, e, _, d⟩ := q; exact ⟨o, e, fun v q => by rw [d] at q; cases q⟩
theorem SK.st_at {it : Addr} {i : Nat} {h h' : Heap} {k : SK} (q : k.st it i h) (e : ∀ o, h.get? it = some o → h'.get? it = some o) : k.st it i h' := by
  cases k with
  | tup a => exact Heap.IsTupleIter.at q e
  | lst a => exact Heap.IsListIter.at q e
  | txt z => obtain ⟨t, o, e', c, d⟩ := q; exact ⟨t, o, e o e', c, d⟩
structure SK.Dr (X : Cx) (A : Around) (s : Shared) (k : SK) (xs : List V) (it : Addr) (i : Nat) (P : Nat → Value → Prop) (St : Nat → Heap → Prop) : Prop where
  d : Draws X.prog X.w A it (it :: k.cells) xs.length P St
  st : St i s.heap
  rel : ∀ j v, P j v → ∃ x, xs[j]? = some x ∧ RelV x v
  out : ∀ j h, St j h → k.st it j h
theorem SK.draw {X : Cx} {pins : List (Addr × Obj)} {σ : L2.St} {H : Hp} {s : Shared} (I : Inv X pins σ H s) {A : Around} (hh : A.handled = none) {k : SK} {xs : List V} {it : Addr} {i : Nat} (h : k.has X.K H xs) (q : k.st it i s.heap)
    (hne : ∀ b ∈ k.cells, b ≠ it) : ∃ P St, SK.Dr X A s k xs it i P St := by
  cases k with
  | tup a =>
    obtain ⟨its, rv, p, _⟩ := I.tuple h
    have hl := rv.length
    refine ⟨fun i v => its.toArray[i]? = some v, fun i h => h.IsTupleIter it a i ∧ h.IsTuple a its.toArray, ?_, ⟨q, (show s.heap.IsTuple a its.toArray from p)⟩, fun j v e => ?_, fun j h z => z.1⟩
    · have := Draws.tuple (prog := X.prog) (w := X.w) hh it a (hne a (by simp [SK.cells])) its.toArray
      rw [show its.toArray.size = xs.length by simp [hl]] at this
      exact this
    · have hj : its[j]? = some v := by simpa using e
      have hjl : j < xs.length := by rw [hl]; exact (List.getElem?_eq_some_iff.mp hj).1
      obtain ⟨u, hu, ru⟩ := rv.get (List.getElem?_eq_getElem hjl)
      rw [hj] at hu; cases hu
      exact ⟨_, List.getElem?_eq_getElem hjl, ru⟩
  | lst a =>
    obtain ⟨its, rv, p, _⟩ := I.list h
    have hl := rv.length
    refine ⟨fun i v => its.toArray[i]? = some v, fun i h => h.IsListIter it a i ∧ h.IsList a its.toArray, ?_, ⟨q, p.isList⟩, fun j v e => ?_, fun j h z => z.1⟩
    · have := Draws.list (prog := X.prog) (w := X.w) hh it a (hne a (by simp [SK.cells])) its.toArray
      rw [show its.toArray.size = xs.length by simp [hl]] at this
      exact this
    · have hj : its[j]? = some v := by simpa using e
      have hjl : j < xs.length := by rw [hl]; exact (List.getElem?_eq_some_iff.mp hj).1
      obtain ⟨u, hu, ru⟩ := rv.get (List.getElem?_eq_getElem hjl)
      rw [hj] at hu; cases hu
      exact ⟨_, List.getElem?_eq_getElem hjl, ru⟩
  | txt z =>
    obtain ⟨t, q⟩ := q
    have e : xs = SK.vals z := h
    subst e
    refine ⟨fun i v => ∃ c u, z.cps[i]? = some c ∧ v = .str ⟨#[c]⟩ u, fun i h => h.IsStrIter it (strIterType z) z t i, ?_, q, fun j v e => ?_, fun j h z => ⟨t, z⟩⟩
    · have := Draws.text (prog := X.prog) (w := X.w) hh it z t
      rw [show z.cps.size = (SK.vals z).length by simp [SK.vals]] at this
      exact this
    · obtain ⟨c, u, hc, rfl⟩ := e
      refine ⟨.str ⟨#[c]⟩, ?_, ⟨u, rfl⟩⟩
      simp only [SK.vals, List.getElem?_map, Array.getElem?_toList, hc, Option.map_some]
theorem SK.begins {X : Cx} {pins : List (Addr × Obj)} {σ : L2.St} {H : Hp} {s : Shared} (I : Inv X pins σ H s) {k : SK} {xs : List V} {u : Value} (h : k.has X.K H xs) (r : RelV k.val u) :
    ∃ o Hh, Begins u o Hh ∧ Hh s.heap ∧ (∀ (h' : Heap) (it : Addr), h'.get? it = some o → k.st it 0 h') ∧ ∀ b ∈ k.cells, b < s.heap.objs.size := by
  cases k with
  | tup a =>
    cases r
    obtain ⟨its, rv, p, _⟩ := I.tuple h
    exact ⟨_, _, begins_tuple a its.toArray, (show s.heap.IsTuple a its.toArray from p), fun h' it e => ⟨_, e, rfl, rfl⟩, fun b hb => by rw [List.mem_singleton.mp hb]; exact p.lt⟩
  | lst a =>
    cases r
    obtain ⟨its, rv, p, _⟩ := I.list h
    exact ⟨_, _, begins_list a its.toArray, p.isList, fun h' it e => ⟨_, e, rfl, rfl⟩, fun b hb => by rw [List.mem_singleton.mp hb]; exact p.lt⟩
  | txt z =>
    obtain ⟨t, rfl⟩ := r
    exact ⟨_, _, begins_text z t, trivial, fun h' it e => ⟨t, _, e, rfl, rfl⟩, fun b hb => by cases hb⟩

/-! ### zip -/
def ItzK (K : PySem.W.Frag) (k1 k2 : SK) : It :=
  ⟨fun i H => ∃ (xs ys : List V), k1.has K H xs ∧ k2.has K H ys ∧ i < xs.length ∧ i < ys.length,
    fun i H v H' => ∃ T x y, v = .ref T ∧ H T = none ∧ H' = upd H T (.tup [x, y]) ∧ (∀ xs, k1.has K H xs → xs[i]? = some x) ∧ ∀ ys, k2.has K H ys → ys[i]? = some y,
    fun i H => ∃ xs ys : List V, k1.has K H xs ∧ k2.has K H ys ∧ i ≤ xs.length ∧ i ≤ ys.length ∧ (i = xs.length ∨ i = ys.length)⟩
theorem turn_zipK {P : Program} {w : World} {K : PySem.W.Frag} {elts : List Expr} {kk : Nat} {tpos : Pos} {k1 k2 : SK} {N : Nat} (h1 : ∀ b ∈ k1.cells, b < N) (h2 : ∀ b ∈ k2.cells, b < N) :
    Turn P w K (.Tuple elts kk tpos) (ItzK K k1 k2) [N + 4, N + 2, N + 3, N, N + 1] (N + 4) (fun i h => IsZip h (N + 4) (N + 2) (N + 3) .none ∧ IsTupOf2 h (N + 2) (.ref N) (.ref (N + 1)) ∧ (∃ x y, IsTupOf2 h (N + 3) x y) ∧ k1.st N i h ∧ k2.st (N + 1) i h) := by
  have S := zip_sep2 (N := N) h1 h2
  have mem5 : ∀ {c : Nat}, c ∈ ([N + 4, N + 2, N + 3, N, N + 1] : List Nat) → c = N + 4 ∨ c = N + 2 ∨ c = N + 3 ∨ c = N ∨ c = N + 1 := fun h => by simpa using h
  refine ⟨by simp, fun i h st c hc => ?_, fun i h h' st k => ?_, ?_, ?_, fun A i s Q E st h => wpAny_pyIter_zip st.1 h⟩
  · obtain ⟨hz, hTI, ⟨x, y, hTO⟩, s1, s2⟩ := st
    rcases mem5 hc with q | q | q | q | q
    · rw [q]; exact ⟨_, hz, fun v q => nomatch q⟩
    · rw [q]; exact ⟨_, hTI, fun v q => nomatch q⟩
    · rw [q]; exact ⟨_, hTO, fun v q => nomatch q⟩
    · rw [q]; exact SK.st_obj s1
    · rw [q]; exact SK.st_obj s2
  · obtain ⟨hz, hTI, ⟨x, y, hTO⟩, s1, s2⟩ := st
    exact ⟨k _ (by simp) _ hz, k _ (by simp) _ hTI, ⟨x, y, k _ (by simp) _ hTO⟩, SK.st_at s1 fun o q => k _ (by simp) o q, SK.st_at s2 fun o q => k _ (by simp) o q⟩
  · intro X hP hw hK hc i pins s σ H E I hf st hg
    subst hP hw hK
    obtain ⟨hz, hTI, ⟨x0, y0, hTO⟩, s1, s2⟩ := st
    obtain ⟨xs, ys, hqx, hqy, hx, hy⟩ := hg
    have hh : X.A.in1.handled = none := I.ok.hd hc
    obtain ⟨P1, St1, D1⟩ := SK.draw I hh hqx s1 (fun b hb e => absurd (h1 b hb) (by rw [e]; exact Nat.lt_irrefl _))
    obtain ⟨P2, St2, D2⟩ := SK.draw I hh hqy s2 (fun b hb e => absurd (h2 b hb) (by rw [e]; exact fun z => absurd (Nat.lt_of_succ_lt z) (Nat.lt_irrefl _)))
    have hzl : N + 4 < s.heap.objs.size := Heap.lt_size hz
    refine wpAny_pyNext_zipD2_item S D1.d D2.d hz hTI hTO D1.st D2.st hx hy fun u u2 h' tk p1 p2 z' TO' st1' st2' hT hsz hk => ?_
    obtain ⟨x, ex, ru⟩ := D1.rel i u p1
    obtain ⟨y, ey, ru2⟩ := D2.rel i u2 p2
    refine ⟨_, rfl, wpAny_letOwnedTupleGo_zip (s := { s with heap := h', toks := tk }) z' fun h'' z'' sb => ?_⟩
    have hT2 : h''.get? s.heap.objs.size = some { cls := .type "tuple", data := .seq #[u, u2] } := (sb.2 _ (Nat.ne_of_gt hzl)).trans hT
    have new : ObjOk X.prog X.w (upd H s.heap.objs.size (.tup [x, y])) h'' s.heap.objs.size (.tup [x, y]) :=
      ⟨by show 2 ≤ sizeLine; decide, [u, u2], .cons ru (.cons ru2 .nil), ⟨_, hT2, rfl, _, rfl⟩⟩
    have I1 : Inv X pins σ (upd H s.heap.objs.size (.tup [x, y])) { s with heap := h'', toks := tk } :=
      I.turnedNew (t' := tk) (ch := [N + 4, N + 2, N + 3, N, N + 1]) (fun c o hb q => (sb.2 c (fun q' => hb (by simp [q']))).trans (hk c o (fun q' => hb (by simp [q'])) (fun q' => hb (by simp [q'])) (fun q' => hb (by simp [q'])) (fun q' => hb (by simp [q'])) q)) hf (Nat.le_refl _) new
    refine ⟨.ref s.heap.objs.size, _, I1, rfl, ⟨_, x, y, rfl, I.hok.fresh (Nat.le_refl _), rfl, fun l hl => by rw [SK.has_inj I hl hqx]; exact ex, fun l hl => by rw [SK.has_inj I hl hqy]; exact ey⟩, ⟨z'', ?_, ⟨u, u2, ?_⟩, ?_, ?_⟩, fun c hcm => ?_⟩
    · exact (sb.2 _ S.TIz).trans (hk _ _ S.TIz S.TITO S.TIi1 S.TIi2 hTI)
    · exact (sb.2 _ S.TOz).trans TO'
    · exact SK.st_at (D1.out _ _ st1') fun o q => (sb.2 _ (Ne.symm S.zi1)).trans q
    · exact SK.st_at (D2.out _ _ st2') fun o q => (sb.2 _ (Ne.symm S.zi2)).trans q
    · have hlt : c < s.heap.objs.size := by
        rcases mem5 hcm with q | q | q | q | q
        · exact q ▸ hzl
        · exact q ▸ (show N + 2 < s.heap.objs.size from Nat.lt_trans (Nat.add_lt_add_left (by decide) N) hzl)
        · exact q ▸ (show N + 3 < s.heap.objs.size from Nat.lt_trans (Nat.add_lt_add_left (by decide) N) hzl)
        · exact q ▸ (show N < s.heap.objs.size from Nat.lt_of_le_of_lt (Nat.le_add_right N 4) hzl)
        · exact q ▸ (show N + 1 < s.heap.objs.size from Nat.lt_trans (Nat.add_lt_add_left (by decide) N) hzl)
      rw [upd_ne (Nat.ne_of_lt hlt)]
      exact (hf c hcm).1
  · intro X hP hw hK hc i pins s σ H E I hf st hg
    subst hP hw hK
    obtain ⟨hz, hTI, ⟨x0, y0, hTO⟩, s1, s2⟩ := st
    obtain ⟨xs, ys, hqx, hqy, hi1, hi2, hend⟩ := hg
    have hh : X.A.in1.handled = none := I.ok.hd hc
    obtain ⟨P1, St1, D1⟩ := SK.draw I hh hqx s1 (fun b hb e => absurd (h1 b hb) (by rw [e]; exact Nat.lt_irrefl _))
    obtain ⟨P2, St2, D2⟩ := SK.draw I hh hqy s2 (fun b hb e => absurd (h2 b hb) (by rw [e]; exact fun z => absurd (Nat.lt_of_succ_lt z) (Nat.lt_irrefl _)))
    exact wpAny_pyNext_zipD2_end S D1.d D2.d hz hTI hTO D1.st D2.st hi1 hi2 hend fun h' tk hk => ⟨rfl, I.turnedL (t' := tk) (ch := [N + 4, N + 2, N + 3, N, N + 1]) (fun c o hb q =>
      hk c o (fun q' => hb (by simp [q'])) (fun q' => hb (by simp [q'])) (fun q' => hb (by simp [q'])) (fun q' => hb (by simp [q'])) q) hf⟩
def iZipK (K : PySem.W.Frag) (ta : TA) : TI := fun σ H R => ta σ H fun vs H1 => ∃ (k1 k2 : SK) (xs ys : List V), vs = [k1.val, k2.val] ∧ k1.has K H1 xs ∧ k2.has K H1 ys ∧ R (ItzK K k1 k2) H1
theorem pi_zipK {X : Cx} {e e2 : Expr} {ta : TA} {p pos tpos : Pos} {elts : List Expr} {kk : Nat} (hg : Gl X "zip") (hm : X.mg "zip" = none) (ha : PA X [e, e2] ta)
    (hs : starEach [e, e2] X.env = (false, eval e X.env) :: starEach [e2] X.env := by rfl) (hpl : (backTo pos (starEach [e2] X.env)).any (·.1) = false := by rfl) :
    PI X (.Tuple elts kk tpos) (.Call (.Name "zip" p) [e, e2] [] pos) (iZipK X.K ta) := by
  refine ⟨fun pins s σ H R I h => ?_⟩
  refine Call_ (ld_blt I hg hm PyProof.Rows.boot_zip (PyProof.Rows.callWith_type1 (thn (ha.run pos pins s σ H _ I h) fun us s1 ⟨vs, H1, I1, r1, q1⟩ => ?_) hs hpl))
  obtain ⟨k1, k2, xs, ys, ex, hqx, hqy, q⟩ := q1
  subst ex
  obtain ⟨u1, u2, rfl, ru1, ru2⟩ := r1.two
  obtain ⟨o1, Hh1, B1, b1, st1, c1⟩ := SK.begins I1 hqx ru1
  obtain ⟨o2, Hh2, B2, b2, st2, c2⟩ := SK.begins I1 hqy ru2
  have fresh5 : ∀ c, c ∈ [s1.heap.objs.size + 4, s1.heap.objs.size + 2, s1.heap.objs.size + 3, s1.heap.objs.size, s1.heap.objs.size + 1] → FpOk X pins H1 c := fun c hcm => by
    have e' : c = s1.heap.objs.size + 4 ∨ c = s1.heap.objs.size + 2 ∨ c = s1.heap.objs.size + 3 ∨ c = s1.heap.objs.size ∨ c = s1.heap.objs.size + 1 := by simpa using hcm
    have hle : s1.heap.objs.size ≤ c := by
      rcases e' with z | z | z | z | z
      · rw [z]; exact Nat.le_add_right _ _
      · rw [z]; exact Nat.le_add_right _ _
      · rw [z]; exact Nat.le_add_right _ _
      · rw [z]; exact Nat.le_refl _
      · rw [z]; exact Nat.le_add_right _ _
    exact I1.fpOk hle (I1.hok.fresh hle)
  refine zip_begins2 B1 B2 b1 b2 fun h' hz hTI hTO g1 g2 hsz hk => wpAny_pyIter_zip hz ?_
  have I2 : Inv X pins σ H1 { s1 with heap := h' } := I1.kept (t' := s1.toks) hk
  exact ⟨s1.heap.objs.size + 4, [s1.heap.objs.size + 4, s1.heap.objs.size + 2, s1.heap.objs.size + 3, s1.heap.objs.size, s1.heap.objs.size + 1], _, _, H1, rfl, I2, turn_zipK c1 c2, ⟨hz, hTI, ⟨_, _, hTO⟩, st1 _ _ g1, st2 _ _ g2⟩, fresh5, q⟩
theorem walk_zipK {K : PySem.W.Frag} {k1 k2 : SK} {xs ys : List V} {n : Nat} (hn : n = min xs.length ys.length) : Walk (ItzK K k1 k2) n (fun H => k1.has K H xs ∧ k2.has K H ys) (YPair (fun i => xs[i]?) (fun i => ys[i]?)) := by
  subst hn
  refine ⟨fun i _ hi q => ⟨xs, ys, q.1, q.2, by omega, by omega⟩, fun _ q => ⟨xs, ys, q.1, q.2, by omega, by omega, by omega⟩, fun i H v H' _ q y => ?_⟩
  obtain ⟨T, x, z, h1, h2, h3, h4, h5⟩ := y
  exact ⟨T, x, z, h1, h2, h3, h4 xs q.1, h5 ys q.2⟩

/-! ### enumerate -/
def IteK (K : PySem.W.Frag) (k : SK) : It :=
  ⟨fun i H => ∃ (xs : List V), k.has K H xs ∧ i < xs.length, fun i H v H' => ∃ T x, v = .ref T ∧ H T = none ∧ H' = upd H T (.tup [.int (i : Nat), x]) ∧ ∀ xs, k.has K H xs → xs[i]? = some x, fun i H => ∃ xs : List V, k.has K H xs ∧ i = xs.length⟩
theorem turn_enumK {P : Program} {w : World} {K : PySem.W.Frag} {elts : List Expr} {kk : Nat} {tpos : Pos} {k : SK} {N : Nat} (h1 : ∀ b ∈ k.cells, b < N) :
    Turn P w K (.Tuple elts kk tpos) (IteK K k) [N + 1, N] (N + 1) (fun i h => (∃ old, IsEnum h (N + 1) N ((i : Nat) : Int) old) ∧ k.st N i h) := by
  have mem2 : ∀ {c : Nat}, c ∈ ([N + 1, N] : List Nat) → c = N + 1 ∨ c = N := fun h => by simpa using h
  have nef : (N + 1 : Nat) ∉ (N :: k.cells) := fun hm => by
    rcases List.mem_cons.mp hm with e | e
    · exact absurd e (Nat.succ_ne_self N)
    · exact absurd (h1 _ e) (fun z => absurd (Nat.lt_of_succ_lt z) (Nat.lt_irrefl _))
  refine ⟨by simp, fun i h st b hb => ?_, fun i h h' st k' => ?_, ?_, ?_, fun A i s Q E st h => let ⟨⟨_, he⟩, _⟩ := st; wpAny_pyIter_enum he h⟩
  · obtain ⟨⟨old, he⟩, hs⟩ := st
    rcases mem2 hb with z | z
    · rw [z]; exact ⟨_, he, fun v q => nomatch q⟩
    · rw [z]; exact SK.st_obj hs
  · obtain ⟨⟨old, he⟩, hs⟩ := st
    exact ⟨⟨old, k' _ (by simp) _ he⟩, SK.st_at hs fun o q => k' _ (by simp) o q⟩
  · intro X hP hw hK hc i pins s σ H E I hf st hg
    subst hP hw hK
    obtain ⟨⟨old, he⟩, hs⟩ := st
    obtain ⟨xs, hq, hx⟩ := hg
    have hh : X.A.in1.handled = none := I.ok.hd hc
    obtain ⟨P1, St1, D1⟩ := SK.draw I hh hq hs (fun b hb e => absurd (h1 b hb) (by rw [e]; exact Nat.lt_irrefl _))
    have hel : N + 1 < s.heap.objs.size := Heap.lt_size he
    refine wpAny_pyNext_enum_itemD D1.d he D1.st hx (Nat.succ_ne_self N) nef fun u h' tk p1 ho st' hT hsz hk => ?_
    obtain ⟨x, ex, ru⟩ := D1.rel i u p1
    refine ⟨_, rfl, wpAny_letOwnedTupleGo_enum (s := { s with heap := h', toks := tk + 1 }) ho fun h'' he' sb => ?_⟩
    have hT2 : h''.get? s.heap.objs.size = some { cls := .type "tuple", data := .seq #[.int i tk, u] } := (sb.2 _ (Nat.ne_of_gt hel)).trans hT
    have new : ObjOk X.prog X.w (upd H s.heap.objs.size (.tup [.int (i : Nat), x])) h'' s.heap.objs.size (.tup [.int (i : Nat), x]) :=
      ⟨by show 2 ≤ sizeLine; decide, [.int i tk, u], .cons ⟨_, rfl⟩ (.cons ru .nil), ⟨_, hT2, rfl, _, rfl⟩⟩
    have I1 : Inv X pins σ (upd H s.heap.objs.size (.tup [.int (i : Nat), x])) { s with heap := h'', toks := tk + 1 } :=
      I.turnedNew (ch := [N + 1, N]) (fun b ob hb q => (sb.2 b (fun z => hb (by simp [z]))).trans (hk b ob (fun z => hb (by simp [z])) (fun z => hb (by simp [z])) q)) hf (Nat.le_refl _) new
    refine ⟨.ref s.heap.objs.size, _, I1, rfl, ⟨_, x, rfl, I.hok.fresh (Nat.le_refl _), rfl, fun ys hy => by rw [SK.has_inj I hy hq]; exact ex⟩, ⟨⟨u, ?_⟩, SK.st_at (D1.out _ _ st') fun o q => (sb.2 N (Ne.symm (Nat.succ_ne_self N))).trans q⟩, fun b hb => ?_⟩
    · have e1 : ((i + 1 : Nat) : Int) = (i : Int) + 1 := by omega
      rw [e1]; exact he'
    · have hb' : b < s.heap.objs.size := by
        rcases mem2 hb with z | z
        · exact z ▸ hel
        · exact z ▸ (show N < s.heap.objs.size from Nat.lt_of_succ_lt hel)
      rw [upd_ne (Nat.ne_of_lt hb')]
      exact (hf b hb).1
  · intro X hP hw hK hc i pins s σ H E I hf st hg
    subst hP hw hK
    obtain ⟨⟨old, he⟩, hs⟩ := st
    obtain ⟨xs, hq, hx⟩ := hg
    have hh : X.A.in1.handled = none := I.ok.hd hc
    obtain ⟨P1, St1, D1⟩ := SK.draw I hh hq hs (fun b hb e => absurd (h1 b hb) (by rw [e]; exact Nat.lt_irrefl _))
    obtain ⟨f0, f1, f2, f3, f4, f5⟩ := hf N (by simp)
    exact wpAny_pyNext_enum_endD D1.d he (by rw [← hx]; exact D1.st) fun h' eb => ⟨rfl, I.turned (t' := s.toks) (fun b o hb q => eb b o hb q) f0 f1 f3 f4 f5⟩
theorem meets_enum1 {v : Value} {o : Obj} {Hh : Heap → Prop} (B : Begins v o Hh) :
    Meets (Builtin.«enumerate.__new__» ⟨[.type "enumerate", v], []⟩) (fun _ R s => Hh s.heap ∧
      R (.ok (.ret (.ref (s.heap.push o).objs.size))) { s with heap := (s.heap.push o).push { cls := .type "enumerate", data := .fields #[.none, .bool false, .ref s.heap.objs.size, rawInt 0, .none, .none] } }) :=
  .of_wp fun prog w A R s h => by
    obtain ⟨hp, g, d, tk, os⟩ := s; obtain ⟨h1, h⟩ := h
    have hsub := sub_enumerate
    have q1 : ∀ {A' : Around} {E : Value → Shared → Prop} {Q : Value → Shared → Prop}, Q (.ref hp.objs.size) ⟨hp.push o, g, d, tk, os⟩ → wpAny (model prog w) A' (pyIter v) Q E ⟨hp, g, d, tk, os⟩ :=
      fun q => B.iter prog w _ _ ⟨hp, g, d, tk, os⟩ _ h1 q
    wp_walk using q1
    refine wpAny_stack_any fun st => wpAny_pure ?_
    split
    · rename_i c _ _ _ _ _
      cases (c == Value.type "enumerate")
      · wp_walk using q1
        exact ⟨_, rfl, h⟩
      · wp_walk using q1
        exact ⟨_, rfl, h⟩
    · wp_walk using q1
      exact ⟨_, rfl, h⟩
theorem enum_begins1 {prog : Program} {w : World} {A : Around} {E : Value → Shared → Prop} {s : Shared} {v : Value} {o : Obj} {Hh : Heap → Prop} {Q : Value → Shared → Prop} (B : Begins v o Hh) (h1 : Hh s.heap)
    (h : ∀ h', IsEnum h' (s.heap.objs.size + 1) s.heap.objs.size 0 .none → h'.get? s.heap.objs.size = some o → h'.objs.size = s.heap.objs.size + 2 →
      (∀ b o, s.heap.get? b = some o → h'.get? b = some o) → Q (.ref (s.heap.objs.size + 1)) { s with heap := h' }) :
    wpAny (model prog w) A (call (.type "enumerate") [v]) Q E s := by
  refine callType_new F.called_enumerate (by decide) (F.typeCall_enumerate_1 _) (F.newCall_enumerate_1 _) (fun obj => F.args_object_init_2 obj _) F.entry_enumerate_new
    (meets_enum1 B) ⟨h1, ?_⟩
  have hz : (s.heap.push o).objs.size = s.heap.objs.size + 1 := Heap.size_push ..
  show _ ∧ _
  rw [hz]
  have he : IsEnum ((s.heap.push o).push { cls := .type "enumerate", data := .fields #[.none, .bool false, .ref s.heap.objs.size, rawInt 0, .none, .none] }) (s.heap.objs.size + 1) s.heap.objs.size 0 .none := by
    have := Heap.get?_push_size (s.heap.push o) (o := { cls := .type "enumerate", data := .fields #[.none, .bool false, .ref s.heap.objs.size, rawInt 0, .none, .none] }) rfl
    rw [hz] at this; exact this
  refine ⟨⟨_, he, rfl⟩, h _ he (Heap.get?_push_of_some _ (Heap.get?_push_size _ B.free)) (by rw [Heap.size_push, hz]) fun b o x => Heap.get?_push_of_some _ (Heap.get?_push_of_some _ x)⟩
def iEnumK (K : PySem.W.Frag) (ta : TA) : TI := fun σ H R => ta σ H fun vs H1 => ∃ (k : SK) (xs : List V), vs = [k.val] ∧ k.has K H1 xs ∧ R (IteK K k) H1
theorem pi_enumK {X : Cx} {e : Expr} {ta : TA} {p pos tpos : Pos} {elts : List Expr} {kk : Nat} (hg : Gl X "enumerate") (hm : X.mg "enumerate" = none) (ha : PA X [e] ta) (hs : starEach [e] X.env = [(false, eval e X.env)] := by rfl) :
    PI X (.Tuple elts kk tpos) (.Call (.Name "enumerate" p) [e] [] pos) (iEnumK X.K ta) := by
  refine ⟨fun pins s σ H R I h => ?_⟩
  refine Call_ (ld_blt I hg hm PyProof.Rows.boot_enumerate (PyProof.Rows.callWith_type1 (thn (ha.run pos pins s σ H _ I h) fun us s1 ⟨vs, H1, I1, r1, q1⟩ => ?_) hs rfl))
  obtain ⟨k, xs, ex, hq, q⟩ := q1
  subst ex
  obtain ⟨u, rfl, ru⟩ := r1.one
  obtain ⟨o, Hh, B, b, st, c1⟩ := SK.begins I1 hq ru
  refine enum_begins1 B b fun h' he g1 hsz hk => wpAny_pyIter_enum he ?_
  have I2 : Inv X pins σ H1 { s1 with heap := h' } := I1.kept (t' := s1.toks) hk
  refine ⟨s1.heap.objs.size + 1, [s1.heap.objs.size + 1, s1.heap.objs.size], _, _, H1, rfl, I2, turn_enumK c1, ⟨⟨.none, he⟩, st _ _ g1⟩, fun b hb => ?_, q⟩
  have e' : b = s1.heap.objs.size + 1 ∨ b = s1.heap.objs.size := by simpa using hb
  have hle : s1.heap.objs.size ≤ b := by
    rcases e' with z | z
    · rw [z]; exact Nat.le_add_right _ _
    · rw [z]; exact Nat.le_refl _
  exact I1.fpOk hle (I1.hok.fresh hle)
theorem walk_enumK {K : PySem.W.Frag} {k : SK} {xs : List V} : Walk (IteK K k) xs.length (fun H => k.has K H xs) (YPair (fun i => some (.int (i : Nat))) (fun i => xs[i]?)) := by
  refine ⟨fun i _ hi q => ⟨xs, q, hi⟩, fun _ q => ⟨xs, q, rfl⟩, fun i H v H' _ q y => ?_⟩
  obtain ⟨T, x, h1, h2, h3, h4⟩ := y
  exact ⟨T, .int (i : Nat), x, h1, h2, h3, rfl, h4 xs q⟩
end Ly

/-! W1: the text by places; how terms lie in the heap; small readings. -/
namespace Ly
open PySem PySem.Spec PyProof.Rows L2

def topS (i : Nat) : Stmt := PySem.Challenge.pw_lydite_k31_whole_standard_roads_are_stan.main.body.getD i (.Pass ⟨0, 0, 0, 0⟩)
abbrev s_checked : Stmt := topS 7
theorem sc_checked : FnScope ["nodes", "node"] ["nodes"] (defScope s_checked) := ⟨rfl, rfl, rfl, by decide +kernel, rfl, by decide +kernel, by decide +kernel⟩
abbrev s_end_of : Stmt := topS 8
theorem sc_end_of : FnScope ["nodes", "start", "missing", "at", "node"] ["nodes", "start"] (defScope s_end_of) := ⟨rfl, rfl, rfl, by decide +kernel, rfl, by decide +kernel, by decide +kernel⟩
abbrev s_depths : Stmt := topS 9
theorem sc_depths : FnScope ["nodes", "found", "waiting", "node", "depth"] ["nodes"] (defScope s_depths) := ⟨rfl, rfl, rfl, by decide +kernel, rfl, by decide +kernel, by decide +kernel⟩
abbrev s_lifted : Stmt := topS 10
theorem sc_lifted : FnScope ["nodes", "count", "found", "node", "depth"] ["nodes", "count"] (defScope s_lifted) := ⟨rfl, rfl, rfl, by decide +kernel, rfl, by decide +kernel, by decide +kernel⟩
abbrev s_placed : Stmt := topS 11
theorem sc_placed : FnScope ["nodes", "value", "found", "node", "depth"] ["nodes", "value"] (defScope s_placed) := ⟨rfl, rfl, rfl, by decide +kernel, rfl, by decide +kernel, by decide +kernel⟩
abbrev s_placed_nodes : Stmt := topS 13
theorem sc_placed_nodes : FnScope ["nodes", "found", "waiting", "node", "place"] ["nodes"] (defScope s_placed_nodes) := ⟨rfl, rfl, rfl, by decide +kernel, rfl, by decide +kernel, by decide +kernel⟩
abbrev s_index_of : Stmt := topS 14
theorem sc_index_of : FnScope ["nodes", "place", "at", "letter", "node"] ["nodes", "place"] (defScope s_index_of) := ⟨rfl, rfl, rfl, by decide +kernel, rfl, by decide +kernel, by decide +kernel⟩
abbrev s_comes_before : Stmt := topS 15
theorem sc_comes_before : FnScope ["first", "second", "one", "two"] ["first", "second"] (defScope s_comes_before) := ⟨rfl, rfl, rfl, by decide +kernel, rfl, by decide +kernel, by decide +kernel⟩
abbrev s_is_redex : Stmt := topS 17
theorem sc_is_redex : FnScope ["nodes", "at"] ["nodes", "at"] (defScope s_is_redex) := ⟨rfl, rfl, rfl, by decide +kernel, rfl, by decide +kernel, by decide +kernel⟩
abbrev s_stepped : Stmt := topS 18
theorem sc_stepped : FnScope ["nodes", "place", "at", "middle", "end", "found"] ["nodes", "place"] (defScope s_stepped) := ⟨rfl, rfl, rfl, by decide +kernel, rfl, by decide +kernel, by decide +kernel⟩
abbrev s_follow : Stmt := topS 19
theorem sc_follow : FnScope ["term", "road", "place"] ["term", "road"] (defScope s_follow) := ⟨rfl, rfl, rfl, by decide +kernel, rfl, by decide +kernel, by decide +kernel⟩
abbrev s_marked : Stmt := topS 21
theorem sc_marked : FnScope ["nodes", "found", "at", "node"] ["nodes"] (defScope s_marked) := ⟨rfl, rfl, rfl, by decide +kernel, rfl, by decide +kernel, by decide +kernel⟩
abbrev s_mark_at : Stmt := topS 22
theorem sc_mark_at : FnScope ["nodes", "place", "at"] ["nodes", "place"] (defScope s_mark_at) := ⟨rfl, rfl, rfl, by decide +kernel, rfl, by decide +kernel, by decide +kernel⟩
abbrev s_marks : Stmt := topS 23
theorem sc_marks : FnScope ["nodes", "found", "at", "place"] ["nodes"] (defScope s_marks) := ⟨rfl, rfl, rfl, by decide +kernel, rfl, by decide +kernel, by decide +kernel⟩
abbrev s_with_mark : Stmt := topS 24
theorem sc_with_mark : FnScope ["nodes", "mark", "place", "other"] ["nodes", "mark"] (defScope s_with_mark) := ⟨rfl, rfl, rfl, by decide +kernel, rfl, by decide +kernel, by decide +kernel⟩
abbrev s_is_standard : Stmt := topS 27
theorem sc_is_standard : FnScope ["term", "road", "frozen", "nodes", "place", "again", "now", "node", "other", "redex", "mark"] ["term", "road"] (defScope s_is_standard) := ⟨rfl, rfl, rfl, by decide +kernel, rfl, by decide +kernel, by decide +kernel⟩
abbrev s_first_of : Stmt := topS 28
theorem sc_first_of : FnScope ["term", "road", "start", "nodes", "stepped_marks", "place", "mark"] ["term", "road"] (defScope s_first_of) := ⟨rfl, rfl, rfl, by decide +kernel, rfl, by decide +kernel, by decide +kernel⟩
abbrev s_without : Stmt := topS 29
theorem sc_without : FnScope ["term", "place", "road", "found", "k", "nodes", "row", "mark"] ["term", "place", "road"] (defScope s_without) := ⟨rfl, rfl, rfl, by decide +kernel, rfl, by decide +kernel, by decide +kernel⟩
abbrev s_standard : Stmt := topS 30
theorem sc_standard : FnScope ["term", "road", "found", "place"] ["term", "road"] (defScope s_standard) := ⟨rfl, rfl, rfl, by decide +kernel, rfl, by decide +kernel, by decide +kernel⟩
abbrev s__law_stream : Stmt := topS 32
theorem sc__law_stream : FnScope ["_law_script", "_law_mixed", "_law_cell"] ["_law_script"] (defScope s__law_stream) := ⟨rfl, rfl, rfl, by decide +kernel, rfl, by decide +kernel, by decide +kernel⟩
abbrev s__law_draw : Stmt := topS 33
theorem sc__law_draw : FnScope ["_law_stream_here", "_law_many", "_law_value"] ["_law_stream_here", "_law_many"] (defScope s__law_draw) := ⟨rfl, rfl, rfl, by decide +kernel, rfl, by decide +kernel, by decide +kernel⟩
abbrev s__law_is_lam : Stmt := topS 34
theorem sc__law_is_lam : FnScope ["_law_node"] ["_law_node"] (defScope s__law_is_lam) := ⟨rfl, rfl, rfl, by decide +kernel, rfl, by decide +kernel, by decide +kernel⟩
abbrev s__law_end : Stmt := topS 35
theorem sc__law_end : FnScope ["_law_term_here", "_law_at", "_law_missing"] ["_law_term_here", "_law_at"] (defScope s__law_end) := ⟨rfl, rfl, rfl, by decide +kernel, rfl, by decide +kernel, by decide +kernel⟩
abbrev s__law_depths : Stmt := topS 36
theorem sc__law_depths : FnScope ["_law_term_here", "_law_found", "_law_waiting", "_law_node", "_law_depth"] ["_law_term_here"] (defScope s__law_depths) := ⟨rfl, rfl, rfl, by decide +kernel, rfl, by decide +kernel, by decide +kernel⟩
abbrev s__law_lift : Stmt := topS 37
theorem sc__law_lift : FnScope ["_law_term_here", "_law_count", "_law_depths_here", "_law_nodes", "_law_k"] ["_law_term_here", "_law_count"] (defScope s__law_lift) := ⟨rfl, rfl, rfl, by decide +kernel, rfl, by decide +kernel, by decide +kernel⟩
abbrev s__law_put : Stmt := topS 38
theorem sc__law_put : FnScope ["_law_term_here", "_law_value", "_law_depths_here", "_law_nodes", "_law_k"] ["_law_term_here", "_law_value"] (defScope s__law_put) := ⟨rfl, rfl, rfl, by decide +kernel, rfl, by decide +kernel, by decide +kernel⟩
abbrev s__law_places : Stmt := topS 39
theorem sc__law_places : FnScope ["_law_term_here", "_law_found", "_law_waiting", "_law_node", "_law_place"] ["_law_term_here"] (defScope s__law_places) := ⟨rfl, rfl, rfl, by decide +kernel, rfl, by decide +kernel, by decide +kernel⟩
abbrev s__law_redexes : Stmt := topS 40
theorem sc__law_redexes : FnScope ["_law_term_here", "_law_places_here", "_law_k"] ["_law_term_here"] (defScope s__law_redexes) := ⟨rfl, rfl, rfl, by decide +kernel, rfl, by decide +kernel, by decide +kernel⟩
abbrev s__law_step : Stmt := topS 41
theorem sc__law_step : FnScope ["_law_term_here", "_law_place", "_law_at", "_law_middle", "_law_end_here"] ["_law_term_here", "_law_place"] (defScope s__law_step) := ⟨rfl, rfl, rfl, by decide +kernel, rfl, by decide +kernel, by decide +kernel⟩
abbrev s__law_term : Stmt := topS 42
theorem sc__law_term : FnScope ["_law_stream_here", "_law_size", "_law_depth", "_law_pick", "_law_half"] ["_law_stream_here", "_law_size", "_law_depth"] (defScope s__law_term) := ⟨rfl, rfl, rfl, by decide +kernel, rfl, by decide +kernel, by decide +kernel⟩
abbrev s__law_closed_term : Stmt := topS 43
theorem sc__law_closed_term : FnScope ["_law_stream_here", "_law_many", "_law_term_here", "_law_k", "_law_other"] ["_law_stream_here"] (defScope s__law_closed_term) := ⟨rfl, rfl, rfl, by decide +kernel, rfl, by decide +kernel, by decide +kernel⟩
abbrev s__law_rich : Stmt := topS 44
theorem sc__law_rich : FnScope ["_law_stream_here", "_law_size", "_law_pick", "_law_half"] ["_law_stream_here", "_law_size"] (defScope s__law_rich) := ⟨rfl, rfl, rfl, by decide +kernel, rfl, by decide +kernel, by decide +kernel⟩
abbrev s__law_road : Stmt := topS 45
theorem sc__law_road : FnScope ["_law_stream_here", "_law_term_here", "_law_many", "_law_road_here", "_law_k", "_law_rows", "_law_place"] ["_law_stream_here", "_law_term_here", "_law_many"] (defScope s__law_road) := ⟨rfl, rfl, rfl, by decide +kernel, rfl, by decide +kernel, by decide +kernel⟩
abbrev s__law_passed : Stmt := topS 46
theorem sc__law_passed : FnScope ["_law_term_here", "_law_road_here", "_law_found", "_law_place"] ["_law_term_here", "_law_road_here"] (defScope s__law_passed) := ⟨rfl, rfl, rfl, by decide +kernel, rfl, by decide +kernel, by decide +kernel⟩
abbrev s__law_marked : Stmt := topS 47
theorem sc__law_marked : FnScope ["_law_term_here", "_law_nodes", "_law_k"] ["_law_term_here"] (defScope s__law_marked) := ⟨rfl, rfl, rfl, by decide +kernel, rfl, by decide +kernel, by decide +kernel⟩
abbrev s__law_mark : Stmt := topS 48
theorem sc__law_mark : FnScope ["_law_term_here", "_law_place"] ["_law_term_here", "_law_place"] (defScope s__law_mark) := ⟨rfl, rfl, rfl, by decide +kernel, rfl, by decide +kernel, by decide +kernel⟩
abbrev s__law_is_standard : Stmt := topS 49
theorem sc__law_is_standard : FnScope ["_law_passed_here", "_law_road_here", "_law_k", "_law_term_here", "_law_barred", "_law_place", "_law_j"] ["_law_passed_here", "_law_road_here"] (defScope s__law_is_standard) := ⟨rfl, rfl, rfl, by decide +kernel, rfl, by decide +kernel, by decide +kernel⟩
abbrev s__law_told : Stmt := topS 50
theorem sc__law_told : FnScope ["_law_term_here", "_law_road_here"] ["_law_term_here", "_law_road_here"] (defScope s__law_told) := ⟨rfl, rfl, rfl, by decide +kernel, rfl, by decide +kernel, by decide +kernel⟩
abbrev s_law : Stmt := topS 51
theorem sc_law : FnScope ["_law_script", "_law_stream_here", "_law_term_here", "_law_road_here", "_law_passed_here", "_law_actual", "_law_found", "_law_kept", "_law_made", "_law_again"] ["_law_script"] (defScope s_law) := ⟨rfl, rfl, rfl, by decide +kernel, rfl, by decide +kernel, by decide +kernel⟩

/-! ### what stands in the module -/
structure At (K : PySem.W.Frag) (mg : Str → Option Value) (x : Str) (st : Stmt) (ps : List Str) : Prop where
  ex : ∃ f fd, Fun K x x st f fd ∧ mg x = some (.ref f) ∧ Binds K fd ps []
structure Has (P : Program) (w : World) (K : PySem.W.Frag) (mg : Str → Option Value) (base : Heap) (CX : CXT) (k : Nat) (x : Str) (ps : List Str) (sp : Sp) : Prop where
  ex : ∃ f fd, FnOk P w K mg base CX k f fd ps sp ∧ mg x = some (.ref f) ∧ PySem.W.keepIn K (.ref f) = true ∧ Binds K fd ps []
theorem At.has {P : Program} {w : World} {K : PySem.W.Frag} {mg : Str → Option Value} {base : Heap} {CX : CXT} {k : Nat} {x : Str} {st : Stmt} {ps : List Str} {sp : Sp} (F : At K mg x st ps)
    (h : ∀ f fd, Fun K x x st f fd → FnOk P w K mg base CX k f fd ps sp) : Has P w K mg base CX k x ps sp := by
  obtain ⟨f, fd, F, m, b⟩ := F.ex
  exact ⟨f, fd, h f fd F, m, F.kp, b⟩
theorem Has.mono {P : Program} {w : World} {K : PySem.W.Frag} {mg : Str → Option Value} {base : Heap} {CX : CXT} {j k : Nat} {x : Str} {ps : List Str} {sp : Sp} (h : Has P w K mg base CX j x ps sp) (hk : j ≤ k) : Has P w K mg base CX k x ps sp := by
  obtain ⟨f, fd, F, r⟩ := h.ex
  exact ⟨f, fd, F.mono hk, r⟩
structure Blt (mg : Str → Option Value) : Prop where
  m_len : mg "len" = none
  m_max : mg "max" = none
  m_isinstance : mg "isinstance" = none
  m_int : mg "int" = none
  m_tuple : mg "tuple" = none
  m_zip : mg "zip" = none
  m_enumerate : mg "enumerate" = none
  m_range : mg "range" = none
  m_list : mg "list" = none
  m_abs : mg "abs" = none
structure Cst (mg : Str → Option Value) (t1 t2 t3 : Tok) : Prop where
  g_MOST_NODES : mg "MOST_NODES" = some (.int 1000 t1)
  g_MOST_VARIABLE : mg "MOST_VARIABLE" = some (.int 1000000 t2)
  g_MOST_ROAD : mg "MOST_ROAD" = some (.int 200 t3)
structure Exc (K : PySem.W.Frag) (mg : Str → Option Value) (nm : Str) (C : Addr) : Prop where
  x : PySem.W.excIn K C [.type "ValueError", .type "Exception", .type "BaseException", .type "object"] "ValueError.__new__" = true
  g : mg nm = some (.ref C)
  k : PySem.W.keepIn K (.ref C) = true
  b : PySem.W.subIn K (.ref C) (.type "BaseException") = some true
  t : PySem.W.typeIn K (.ref C) = some (.type "type")
theorem hu2 {A : Around} {k : Nat} (hr : Room k A) : A.units + 2 < cLine := by have := hr.units; omega
theorem hu65 {A : Around} {k : Nat} (hr : Room (k + 1) A) : A.units + 65 < cLine := by have := hr.un; omega

/-! ### data in the heap -/
theorem same_upd {H : Hp} {p : Addr} {o : HO} (h : H p = none) : Same H (upd H p o) := fun b x e => by rw [upd_ne (ne_of_none e h)]; exact e
/-- an object that H does not know may change -/
theorem same_mut {H H' : Hp} {p : Addr} {o : HO} (e : Same H H') (h : H p = none) : Same H (upd H' p o) := fun a u ha => by
  rw [upd_ne (ne_of_none ha h)]; exact e a u ha
theorem Same.rd {H H' : Hp} {a : Addr} {u : HO} (e : Same H H') (h : Rd H a u) : Rd H' a u := by
  rcases h with h | ⟨o, h⟩
  · exact .inl (e _ _ h)
  · exact .inr ⟨o, e _ _ h⟩
theorem Same.sqt {K : PySem.W.Frag} {H H' : Hp} {a : Addr} {xs : List V} (e : Same H H') (h : SqT K H a xs) : SqT K H' a xs := by
  rcases h with h | h
  · exact .inl (Same.rd e h)
  · exact .inr h
mutual
theorem dp_mono {K : PySem.W.Frag} {H H' : Hp} (e : Same H H') : ∀ {d : PyData} {v : V}, Dp K H v d → Dp K H' v d
  | .none, _, h => by cases h; exact .non
  | .bool b, _, h => by cases h; exact .bl b
  | .int i, _, h => by cases h; exact .int i
  | .str x, _, h => by cases h; exact .str x
  | .list ds, _, h => by cases h with | lst hs ha => exact .lst (e.seq hs) (dpa_mono e ha)
  | .tuple ds, _, h => by cases h with | tup hs ha => exact .tup (Same.sqt e hs) (dpa_mono e ha)
  | .dict _, _, h => by cases h
theorem dpa_mono {K : PySem.W.Frag} {H H' : Hp} (e : Same H H') : ∀ {ds : List PyData} {vs : List V}, DpAll K H vs ds → DpAll K H' vs ds
  | [], _, h => by cases h; exact .nil
  | d :: ds, _, h => by cases h with | cons h1 h2 => exact .cons (dp_mono e h1) (dpa_mono e h2)
end
section
variable {K : PySem.W.Frag} {H : Hp}
theorem dp_tup {v : V} {ds : List PyData} (h : Dp K H v (.tuple ds)) : ∃ a xs, v = .ref a ∧ SqT K H a xs ∧ DpAll K H xs ds := by
  cases h with | tup hs ha => exact ⟨_, _, rfl, hs, ha⟩
theorem dp_lst {v : V} {ds : List PyData} (h : Dp K H v (.list ds)) : ∃ a xs, v = .ref a ∧ SqL K H a xs ∧ DpAll K H xs ds := by
  cases h with | lst hs ha => exact ⟨_, _, rfl, hs, ha⟩
theorem dpa_len : ∀ {xs : List V} {ds : List PyData}, DpAll K H xs ds → xs.length = ds.length
  | _, _, .nil => rfl
  | _, _, .cons _ t => by simp only [List.length_cons]; rw [dpa_len t]
theorem dpa_get : ∀ {xs : List V} {ds : List PyData} {i : Nat} {v : V}, DpAll K H xs ds → xs[i]? = some v → ∃ d, ds[i]? = some d ∧ Dp K H v d
  | _, _, _, _, .nil, e => by simp at e
  | _, _, 0, _, .cons r _, e => by simp at e; subst e; exact ⟨_, rfl, r⟩
  | _, _, i + 1, _, .cons _ t, e => by simpa using dpa_get (i := i) t (by simpa using e)
theorem dpa_at : ∀ {xs : List V} {ds : List PyData} {i : Nat} {d : PyData}, DpAll K H xs ds → ds[i]? = some d → ∃ v, xs[i]? = some v ∧ Dp K H v d
  | _, _, _, _, .nil, e => by simp at e
  | _, _, 0, _, .cons r _, e => by simp at e; subst e; exact ⟨_, rfl, r⟩
  | _, _, i + 1, _, .cons _ t, e => by simpa using dpa_at (i := i) t (by simpa using e)
theorem dpa_app : ∀ {xs ys : List V} {ds es : List PyData}, DpAll K H xs ds → DpAll K H ys es → DpAll K H (xs ++ ys) (ds ++ es)
  | _, _, _, _, .nil, h => h
  | _, _, _, _, .cons r t, h => .cons r (dpa_app t h)
theorem dpa_take : ∀ {xs : List V} {ds : List PyData} (n : Nat), DpAll K H xs ds → DpAll K H (xs.take n) (ds.take n)
  | _, _, 0, _ => .nil
  | _, _, n + 1, .nil => .nil
  | _, _, n + 1, .cons r t => .cons r (dpa_take n t)
theorem dpa_drop : ∀ {xs : List V} {ds : List PyData} (n : Nat), DpAll K H xs ds → DpAll K H (xs.drop n) (ds.drop n)
  | _, _, 0, h => h
  | _, _, n + 1, .nil => .nil
  | _, _, n + 1, .cons r t => dpa_drop n t
theorem dpa_rev {xs : List V} {ds : List PyData} (h : DpAll K H xs ds) : DpAll K H xs.reverse ds.reverse := by
  induction xs generalizing ds with
  | nil => cases h; exact .nil
  | cons x xs ih =>
    cases h with
    | cons r t => rw [List.reverse_cons, List.reverse_cons]; exact dpa_app (ih t) (.cons r .nil)
theorem dpa_ints : ∀ (ns : List Int), DpAll K H (ns.map V.int) (ns.map PyData.int)
  | [] => .nil
  | n :: ns => .cons (.int n) (dpa_ints ns)
theorem dpa_strs : ∀ (ns : List Str), DpAll K H (ns.map V.str) (ns.map PyData.str)
  | [] => .nil
  | n :: ns => .cons (.str n) (dpa_strs ns)
theorem of_dpa_strs : ∀ {ns : List Str} {xs : List V}, DpAll K H xs (ns.map PyData.str) → xs = ns.map V.str
  | [], _, h => by cases h; rfl
  | n :: ns, _, h => by cases h with | cons r t => cases r; rw [of_dpa_strs t]; rfl
end

/-! ### nodes, terms, places as data -/
def tagS (b : Bool) : Str := if b then Str.ofString "m" else Str.ofString "lam"
def ndD (tg : Bool) : Nd → PyData
  | .var n => .int (n : Nat)
  | .app => .str (Str.ofString "app")
  | .lam none => .str (Str.ofString "lam")
  | .lam (some k) => .tuple [.str (tagS tg), .int (k : Nat)]
def tmD (tg : Bool) (t : Tm) : PyData := .tuple ((flat t).map (ndD tg))
def ch : Dir → Nat
  | .f => 102
  | .a => 97
  | .b => 98
def plS (p : Pl) : Str := ⟨(p.map ch).toArray⟩
def roadD (r : List Pl) : PyData := .list ((r.map plS).map PyData.str)
theorem nd_shaped (tg : Bool) (n : Nd) : SeqAt.shaped (ndD tg n) = true := by
  cases n with
  | var n => rfl
  | app => exact (show SeqAt.shaped (.str (Str.ofString "app")) = true by decide +kernel)
  | lam m =>
    cases m with
    | none => exact (show SeqAt.shaped (.str (Str.ofString "lam")) = true by decide +kernel)
    | some k =>
      cases tg
      · show SeqAt.shaped (.tuple [.str (Str.ofString "lam"), .int (k : Nat)]) = true
        have h : PyData.strOk (Str.ofString "lam") = true := by decide +kernel
        simp [SeqAt.shaped, PyData.canLay0, PyData.canLayAll0, PyData.depth, PyData.depthAll, h]
      · show SeqAt.shaped (.tuple [.str (Str.ofString "m"), .int (k : Nat)]) = true
        have h : PyData.strOk (Str.ofString "m") = true := by decide +kernel
        simp [SeqAt.shaped, PyData.canLay0, PyData.canLayAll0, PyData.depth, PyData.depthAll, h]
def Nd.isVar : Nd → Bool
  | .var _ => true
  | _ => false
def Nd.isApp : Nd → Bool
  | .app => true
  | _ => false
def Nd.isLam : Nd → Bool
  | .lam _ => true
  | _ => false
def Nd.isTup : Nd → Bool
  | .lam (some _) => true
  | _ => false
theorem sqt_ty {K : PySem.W.Frag} {H : Hp} {a : Addr} {xs : List V} (h : SqT K H a xs) : TyX K H (.ref a) (.type "tuple") := by
  rcases h with (h | ⟨o, h⟩) | ⟨o, its, n, e, c, _⟩
  · exact .base (.tup h)
  · exact .fTuple h
  · exact .kTuple e c
theorem nd_ty {K : PySem.W.Frag} {H : Hp} {tg : Bool} {n : Nd} {v : V} (h : Dp K H v (ndD tg n)) : TyX K H v (.type (if n.isVar then "int" else if n.isTup then "tuple" else "str")) := by
  cases n with
  | var n => cases h; exact .base (.int _)
  | app => cases h; exact .base (.str _)
  | lam m =>
    cases m with
    | none => cases h; exact .base (.str _)
    | some k => cases h with | tup hs ha => exact sqt_ty hs
theorem kit_int {K : PySem.W.Frag} (n : Nd) : PySem.W.kitOne K (.type (if n.isVar then "int" else if n.isTup then "tuple" else "str")) (.type "int") = some n.isVar := by
  cases n with
  | var n => exact kit_ty (show kitB "int" "int" = some true by decide +kernel)
  | app => exact kit_ty (show kitB "str" "int" = some false by decide +kernel)
  | lam m => cases m with
    | none => exact kit_ty (show kitB "str" "int" = some false by decide +kernel)
    | some k => exact kit_ty (show kitB "tuple" "int" = some false by decide +kernel)
theorem kit_tup {K : PySem.W.Frag} (n : Nd) : PySem.W.kitOne K (.type (if n.isVar then "int" else if n.isTup then "tuple" else "str")) (.type "tuple") = some n.isTup := by
  cases n with
  | var n => exact kit_ty (show kitB "int" "tuple" = some false by decide +kernel)
  | app => exact kit_ty (show kitB "str" "tuple" = some false by decide +kernel)
  | lam m => cases m with
    | none => exact kit_ty (show kitB "str" "tuple" = some false by decide +kernel)
    | some k => exact kit_ty (show kitB "tuple" "tuple" = some true by decide +kernel)
theorem str_shaped_app : SeqAt.shaped (.str (Str.ofString "app")) = true := by decide +kernel
theorem str_shaped_lam : SeqAt.shaped (.str (Str.ofString "lam")) = true := by decide +kernel
theorem eqv_app (tg : Bool) (n : Nd) : PyData.eqv (ndD tg n) (.str (Str.ofString "app")) = n.isApp := by
  cases n with
  | var n => simp [ndD, PyData.eqv, Nd.isApp]
  | app => simp [ndD, PyData.eqv, Nd.isApp]
  | lam m => cases m with
    | none => show PyData.eqv (.str (Str.ofString "lam")) (.str (Str.ofString "app")) = false; simp only [PyData.eqv]; decide +kernel
    | some k => simp [ndD, PyData.eqv, Nd.isApp]
theorem eqv_lam (tg : Bool) (n : Nd) : PyData.eqv (ndD tg n) (.str (Str.ofString "lam")) = (n.isLam && !n.isTup) := by
  cases n with
  | var n => simp [ndD, PyData.eqv, Nd.isLam]
  | app => show PyData.eqv (.str (Str.ofString "app")) (.str (Str.ofString "lam")) = false; simp only [PyData.eqv]; decide +kernel
  | lam m => cases m with
    | none => simp [ndD, PyData.eqv, Nd.isLam, Nd.isTup]
    | some k => simp [ndD, PyData.eqv, Nd.isLam, Nd.isTup]

/-! ### readings in our own words -/
section
variable {X : Cx} {e : Expr} {te ta tb : TE}
theorem pimp {t t' : TE} (h : PE X e t) (i : ∀ σ H Q, t' σ H Q → t σ H Q) : PE X e t' := ⟨fun pins s σ H Q I q => h.run pins s σ H Q I (i σ H Q q)⟩
theorem timp {t t' : TT} (h : PT X e t) (i : ∀ σ H Q, t' σ H Q → t σ H Q) : PT X e t' := ⟨fun pins s σ H Q I q => h.run pins s σ H Q I (i σ H Q q)⟩
/-- readings are monotone -/
def Mo (t : TE) : Prop := ∀ σ H (Q Q' : VK), (∀ v H', Q v H' → Q' v H') → t σ H Q → t σ H Q'
theorem mo_var (i : Nat) : Mo (tVar i) := fun _ _ _ _ i ⟨v, e, q⟩ => ⟨v, e, i _ _ q⟩
theorem mo_c (v : V) : Mo (tC v) := fun _ _ _ _ i q => i _ _ q
theorem mo_op {r : R2} (ha : Mo ta) (hb : Mo tb) (hr : ∀ x y H (Q Q' : VK), (∀ v H', Q v H' → Q' v H') → r x y H Q → r x y H Q') : Mo (tOp r ta tb) := fun _ _ _ _ i q =>
  ha _ _ _ _ (fun _ _ q => hb _ _ _ _ (fun _ _ q => hr _ _ _ _ _ i q) q) q
theorem mo_I0 {g : Int → Int → V} (ha : Mo ta) (hb : Mo tb) : Mo (tOp (rI0 g) ta tb) := mo_op ha hb fun _ _ _ _ _ i ⟨a, b, e1, e2, q⟩ => ⟨a, b, e1, e2, i _ _ q⟩
/-- a question about a node -/
def tNd (K : PySem.W.Frag) (te : TE) (f : Nd → Bool) : TE := fun σ H Q => te σ H fun x H1 => ∃ (tg : Bool) (nd : Nd), Dp K H1 x (ndD tg nd) ∧ Q (.bl (f nd)) H1
def tNdT (K : PySem.W.Frag) (te : TE) (f : Nd → Bool) : TT := fun σ H Q => te σ H fun x H1 => ∃ (tg : Bool) (nd : Nd), Dp K H1 x (ndD tg nd) ∧ Q (f nd) H1
theorem pe_eqApp (m : Mo te) (h : PE X e (tOp (rEqD X.K) te (tC (.str (Str.ofString "app"))))) : PE X e (tNd X.K te Nd.isApp) :=
  pimp h fun σ H Q q => m σ H _ _ (fun v H' ⟨tg, nd, hd, q⟩ => ⟨_, _, hd, .str _, nd_shaped tg nd, str_shaped_app, by rw [eqv_app]; exact q⟩) q
theorem pt_eqApp (m : Mo te) (h : PT X e (tTest (tOp (rEqD X.K) te (tC (.str (Str.ofString "app")))))) : PT X e (tNdT X.K te Nd.isApp) :=
  timp h fun σ H Q q => m σ H _ _ (fun v H' ⟨tg, nd, hd, q⟩ => ⟨_, _, hd, .str _, nd_shaped tg nd, str_shaped_app, by rw [eqv_app]; exact ⟨_, rfl, q⟩⟩) q
theorem pe_neApp (m : Mo te) (h : PE X e (tOp (rNeD X.K) te (tC (.str (Str.ofString "app"))))) : PE X e (tNd X.K te fun n => !n.isApp) :=
  pimp h fun σ H Q q => m σ H _ _ (fun v H' ⟨tg, nd, hd, q⟩ => ⟨_, _, hd, .str _, nd_shaped tg nd, str_shaped_app, by rw [eqv_app]; exact q⟩) q
theorem pt_neApp (m : Mo te) (h : PT X e (tTest (tOp (rNeD X.K) te (tC (.str (Str.ofString "app")))))) : PT X e (tNdT X.K te fun n => !n.isApp) :=
  timp h fun σ H Q q => m σ H _ _ (fun v H' ⟨tg, nd, hd, q⟩ => ⟨_, _, hd, .str _, nd_shaped tg nd, str_shaped_app, by rw [eqv_app]; exact ⟨_, rfl, q⟩⟩) q
theorem pe_eqLam (m : Mo te) (h : PE X e (tOp (rEqD X.K) te (tC (.str (Str.ofString "lam"))))) : PE X e (tNd X.K te fun n => n.isLam && !n.isTup) :=
  pimp h fun σ H Q q => m σ H _ _ (fun v H' ⟨tg, nd, hd, q⟩ => ⟨_, _, hd, .str _, nd_shaped tg nd, str_shaped_lam, by rw [eqv_lam]; exact q⟩) q
theorem pe_isInt (m : Mo te) (h : PE X e (tCB (rIsi X.K) (tCons te (tCons (tC (.ty "int")) tNil)))) : PE X e (tNd X.K te Nd.isVar) :=
  pimp h fun σ H Q q => m σ H _ _ (fun v H' ⟨tg, nd, hd, q⟩ => ⟨v, .ty "int", _, .type "int", nd.isVar, rfl, .ty _, nd_ty hd, kit_int nd, q⟩) q
theorem pe_isTup (m : Mo te) (h : PE X e (tCB (rIsi X.K) (tCons te (tCons (tC (.ty "tuple")) tNil)))) : PE X e (tNd X.K te Nd.isTup) :=
  pimp h fun σ H Q q => m σ H _ _ (fun v H' ⟨tg, nd, hd, q⟩ => ⟨v, .ty "tuple", _, .type "tuple", nd.isTup, rfl, .ty _, nd_ty hd, kit_tup nd, q⟩) q
/-- nodes[i] -/
def tNth (K : PySem.W.Frag) (ta ti : TE) : TE := fun σ H Q => ta σ H fun x H1 => ti σ H1 fun y H2 => ∃ (tg : Bool) (ns : List Nd) (i : Nat) (nd : Nd), Dp K H2 x (.tuple (ns.map (ndD tg))) ∧ y = .int (i : Nat) ∧ ns[i]? = some nd ∧ ∀ v, Dp K H2 v (ndD tg nd) → Q v H2
theorem pe_nth (m : Mo ta) (mi : Mo tb) (h : PE X e (tOp (rIxT X.K) ta tb)) : PE X e (tNth X.K ta tb) :=
  pimp h fun σ H Q q => m σ H _ _ (fun x H1 q => mi σ H1 _ _ (fun y H2 ⟨tg, ns, i, nd, hd, ey, hn, q2⟩ => by
    obtain ⟨a, xs, rfl, hs, ha⟩ := dp_tup hd
    obtain ⟨v, hv, hvd⟩ := dpa_at ha (i := i) (d := ndD tg nd) (by rw [List.getElem?_map, hn]; rfl)
    exact ⟨a, xs, i, v, rfl, ey, hs, atI_nat hv, q2 v hvd⟩) q) q
/-- the mark of a marked abstraction -/
def tMk (K : PySem.W.Frag) (te : TE) : TE := fun σ H Q => te σ H fun x H1 => ∃ (tg : Bool) (k : Nat), Dp K H1 x (ndD tg (.lam (some k))) ∧ Q (.int (k : Nat)) H1
theorem pe_mk (m : Mo te) (h : PE X e (tOp (rIxT X.K) te (tC (.int 1)))) : PE X e (tMk X.K te) :=
  pimp h fun σ H Q q => m σ H _ _ (fun x H1 ⟨tg, k, hd, q⟩ => by
    obtain ⟨a, xs, rfl, hs, ha⟩ := dp_tup hd
    obtain ⟨v, hv, hvd⟩ := dpa_at ha (i := 1) (d := .int (k : Nat)) rfl
    cases hvd
    exact ⟨a, xs, 1, _, rfl, rfl, hs, atI_nat (j := 1) hv, q⟩) q
theorem mo_nth {K : PySem.W.Frag} (ha : Mo ta) (hb : Mo tb) : Mo (tNth K ta tb) := fun _ _ _ _ i q =>
  ha _ _ _ _ (fun _ _ q => hb _ _ _ _ (fun _ _ ⟨tg, ns, j, nd, h1, h2, h3, q⟩ => ⟨tg, ns, j, nd, h1, h2, h3, fun v hv => i _ _ (q v hv)⟩) q) q
end
theorem sl_ok {n : Nat} (h : n ≤ 4000000) : n ≤ sizeLine := Nat.le_trans h (by decide)
theorem sl_lt {n : Nat} (h : n ≤ 4000000) : n < sizeLine := Nat.lt_of_le_of_lt h (by decide)

/-! ### end_of -/
section
variable {P : Program} {w : World} {K : PySem.W.Frag} {mg : Str → Option Value} {base : Heap}
def flats (ts : List Tm) : List Nd := ts.flatMap flat
def szs (ts : List Tm) : Nat := (ts.map sz).sum
def spEnd (K : PySem.W.Frag) : Sp := fun vs H Q _ => ∃ (v : V) (tg : Bool) (pre : List Nd) (t : Tm) (post : List Nd), vs = [v, .int (pre.length : Nat)] ∧ Dp K H v (.tuple ((pre ++ (flat t ++ post)).map (ndD tg))) ∧ Q (.int ((pre.length + sz t : Nat))) H
theorem ok_end_of (F : At K mg "end_of" s_end_of ["nodes", "start"]) (B : Blt mg) : Has P w K mg base CX0 1 "end_of" ["nodes", "start"] (spEnd K) := F.has fun f fd F => by
  refine F.ok sc_end_of (fun vs H Q E h => ?_) (fun cdv A outer s H vs Q E hr h => ?_)
  · obtain ⟨_, _, _, _, _, rfl, _⟩ := h
    rfl
  obtain ⟨v, tg, pre, t, post, rfl, hv, q⟩ := h
  refine ⟨_, (pss_cons (ps_set (i := 2) sc_end_of.nd rfl (Or.inl rfl) pe_int)
    (pss_cons (ps_set (i := 3) sc_end_of.nd rfl (Or.inl rfl) (pv 1))
    (pss_cons (ps_while PassesOwn.never (pt_cmpR op_gt (pv 2) pe_int (nomark _))
      (pss_cons (ps_set (i := 4) sc_end_of.nd rfl (Or.inl rfl) (pe_nth (mo_var 0) (mo_var 3) (pe_ix ix_tup (pv 0) (pv 3) (fun _ _ => rfl))))
      (pss_cons (ps_if (pt_eqApp (mo_var 4) (pt_cmpR (op_eqD hr.units) (pv 4) pe_str (nomark _)))
        (pss_one (ps_aug (i := 2) sc_end_of.nd rfl (Or.inl rfl) pe_int ip_add))
        (pss_one (ps_if (pt_val (pe_isInt (mo_var 4) (pe_callB call_isi (by rfl) B.m_isinstance (by decide +kernel) (pa_cons (pv 4) (pa_cons (pe_bltn (v := .ty "int") (by rfl) B.m_int (by decide +kernel) rfl) pa_nil)))))
          (pss_one (ps_aug (i := 2) sc_end_of.nd rfl (Or.inl rfl) pe_int ip_sub))
          pss_nil)))
      (pss_one (ps_aug (i := 3) sc_end_of.nd rfl (Or.inl rfl) pe_int ip_add)))))
    (pss_one (ps_ret (pv 3)))))), ?_⟩
  obtain ⟨a, xs, rfl, hs, ha⟩ := dp_tup hv
  refine ⟨_, rfl, fun m σ H' => ∃ (ts : List Tm) (p : List Nd) (y4 : Option V), H' = H ∧ m = szs ts ∧ σ = [some (.ref a), some (.int (pre.length : Nat)), some (.int (ts.length : Nat)), some (.int (p.length : Nat)), y4] ∧
    pre ++ (flat t ++ post) = p ++ (flats ts ++ post) ∧ p.length + szs ts = pre.length + sz t, ⟨_, [t], pre, none, rfl, rfl, rfl, by simp [flats], by simp [szs]⟩, fun m σ H' hW => ?_⟩
  obtain ⟨ts, p, y4, rfl, rfl, rfl, e1, e2⟩ := hW
  refine ⟨_, rfl, _, _, rfl, rfl, _, rfl, ?_⟩
  cases ts with
  | nil =>
    refine iteF ?_
    have : p.length = pre.length + sz t := by simpa [szs] using e2
    refine ⟨_, rfl, ?_⟩
    rw [this]; exact q
  | cons t0 ts =>
    rw [show decide ((0 : Int) < (((t0 :: ts).length : Nat) : Int)) = true from decide_eq_true (by simp)]
    refine iteT ?_
    have hd : ∃ n0 : Nd, (flat t0)[0]? = some n0 := by cases t0 <;> exact ⟨_, rfl⟩
    obtain ⟨n0, hn0⟩ := hd
    have hget : (pre ++ (flat t ++ post))[p.length]? = some n0 := by
      rw [e1, List.getElem?_append_right (Nat.le_refl _), Nat.sub_self]
      simp only [flats, List.flatMap_cons, List.append_assoc]
      rw [List.getElem?_append_left (by rw [flat_len]; exact sz_pos t0)]; exact hn0
    refine ⟨fun σ' H'' => ∃ m', m' < szs (t0 :: ts) ∧ ∃ (ts' : List Tm) (p' : List Nd) (y4 : Option V), H'' = H' ∧ m' = szs ts' ∧ σ' = [some (.ref a), some (.int (pre.length : Nat)), some (.int (ts'.length : Nat)), some (.int (p'.length : Nat)), y4] ∧
      pre ++ (flat t ++ post) = p' ++ (flats ts' ++ post) ∧ p'.length + szs ts' = pre.length + sz t, fun _ _ h => h, ?_⟩
    refine ⟨_, rfl, _, rfl, tg, _, p.length, n0, hv, rfl, hget, fun x hxd => ?_⟩
    refine ⟨_, rfl, tg, n0, hxd, ?_⟩
    cases t0 with
    | app g u =>
      cases hn0
      refine iteT ?_
      refine ⟨_, rfl, _, _, rfl, rfl, _, rfl, _, _, rfl, rfl, szs (g :: u :: ts), by simp [szs, sz] <;> omega, g :: u :: ts, p ++ [.app], some x, rfl, rfl, ?_, ?_, ?_⟩
      · simp <;> omega
      · rw [e1]; simp [flats, flat]
      · simp [szs, sz] at e2 ⊢; omega
    | var n =>
      cases hn0
      refine iteF ?_
      refine ⟨_, rfl, tg, _, hxd, _, rfl, iteT ?_⟩
      refine ⟨_, rfl, _, _, rfl, rfl, _, rfl, _, _, rfl, rfl, szs ts, by simp [szs, sz], ts, p ++ [.var n], some x, rfl, rfl, ?_, ?_, ?_⟩
      · simp <;> omega
      · rw [e1]; simp [flats, flat]
      · simp [szs, sz] at e2 ⊢; omega
    | lam m b =>
      cases hn0
      refine iteF ?_
      refine ⟨_, rfl, tg, _, hxd, _, rfl, iteF ?_⟩
      refine ⟨_, rfl, _, _, rfl, rfl, szs (b :: ts), by simp [szs, sz] <;> omega, b :: ts, p ++ [.lam m], some x, rfl, rfl, ?_, ?_, ?_⟩
      · simp
      · rw [e1]; simp [flats, flat]
      · simp [szs, sz] at e2 ⊢; omega
end
end Ly

/-! W2: depths, places, lifting. -/
namespace Ly
open PySem PySem.Spec PyProof.Rows L2
section
variable {P : Program} {w : World} {K : PySem.W.Frag} {mg : Str → Option Value} {base : Heap}
def iL (l : List Nat) : List V := l.map fun (n : Nat) => V.int (n : Nat)
def pL (l : List Pl) : List V := l.map fun p => V.str (plS p)
theorem lty {H : Hp} {p : Addr} {xs : List V} (h : H p = some (.lst xs)) : tyV K "list" (.ref p) H := .inl ⟨rfl, _, SqL.of h⟩
def hdN : Tm → Nd
  | .var n => .var n
  | .app _ _ => .app
  | .lam m _ => .lam m
def tlN : Tm → List Nd
  | .var _ => []
  | .app g v => flat g ++ flat v
  | .lam _ b => flat b
theorem flat_cons (t : Tm) : flat t = hdN t :: tlN t := by cases t <;> rfl
def fls {α : Type} (fo : List (Tm × α)) : List Nd := fo.flatMap fun x => flat x.1
theorem fo_head {α : Type} {t : Tm} {i : Nat} {fo : List (Tm × α)} {nd : Nd} (e : (flat t).drop i = fls fo) (h : (flat t)[i]? = some nd) : ∃ s d r, fo = (s, d) :: r ∧ nd = hdN s ∧ (flat t).drop (i + 1) = tlN s ++ fls r := by
  have hd : ((flat t).drop i)[0]? = some nd := by rw [List.getElem?_drop]; simpa using h
  cases fo with
  | nil => rw [e] at hd; simp [fls] at hd
  | cons x r =>
    refine ⟨x.1, x.2, r, rfl, ?_, ?_⟩
    · rw [e] at hd
      simp only [fls, List.flatMap_cons, flat_cons, List.cons_append, List.getElem?_cons_zero, Option.some.injEq] at hd
      exact hd.symm
    · rw [← List.tail_drop, e]
      simp only [fls, List.flatMap_cons, flat_cons, List.cons_append, List.tail_cons]
theorem fo_len {α : Type} (fo : List (Tm × α)) : fo.length ≤ (fls fo).length := by
  induction fo with
  | nil => simp
  | cons x r ih =>
    simp only [fls, List.flatMap_cons, List.length_append, List.length_cons] at ih ⊢
    have := sz_pos x.1
    rw [flat_len]; omega
theorem fo_end {α : Type} {t : Tm} {fo : List (Tm × α)} (e : (flat t).drop (flat t).length = fls fo) : fo = [] := by
  have := fo_len fo
  rw [← e] at this
  simp at this
  exact this
theorem dp_nodes_len {H : Hp} {tg : Bool} {t : Tm} {xs : List V} (ha : DpAll K H xs ((flat t).map (ndD tg))) : xs.length = (flat t).length := by rw [dpa_len ha]; simp
theorem dp_node {H : Hp} {tg : Bool} {ns : List Nd} {xs : List V} {i : Nat} {x : V} (ha : DpAll K H xs (ns.map (ndD tg))) (h : xs[i]? = some x) : ∃ nd, ns[i]? = some nd ∧ Dp K H x (ndD tg nd) := by
  obtain ⟨d, hd, hx⟩ := dpa_get ha h
  rw [List.getElem?_map] at hd
  obtain ⟨nd, hn, rfl⟩ := Option.map_eq_some_iff.mp hd
  exact ⟨nd, hn, hx⟩
theorem last_of {α : Type} (l : List α) (x : α) : (l ++ [x])[(l ++ [x]).length - 1]? = some x := by simp
/-! ### depths -/
def spDepths (K : PySem.W.Frag) : Sp := fun vs H Q _ => ∃ (v : V) (tg : Bool) (t : Tm), vs = [v] ∧ Dp K H v (tmD tg t) ∧ sz t ≤ 30000 ∧ ∀ H' p, Same H H' → H p = none → H' p = some (.lst (iL (deps 0 t))) → Q (.ref p) H'
theorem ok_depths (F : At K mg "depths" s_depths ["nodes"]) (B : Blt mg) : Has P w K mg base CX0 1 "depths" ["nodes"] (spDepths K) := F.has fun f fd F => by
  refine F.ok sc_depths (fun vs H Q E h => ?_) (fun cdv A outer s H vs Q E hr h => ?_)
  · obtain ⟨_, _, _, rfl, _⟩ := h
    rfl
  obtain ⟨v, tg, t, rfl, hv, hsz, q⟩ := h
  refine ⟨_, (pss_cons (ps_set (i := 1) sc_depths.nd rfl (Or.inl rfl) (pe_lst pa_nil))
    (pss_cons (ps_set (i := 2) sc_depths.nd rfl (Or.inl rfl) (pe_lst (pa_cons pe_int pa_nil)))
    (pss_cons (ps_for PassesOwn.never rfl (pi_tup (pv 0)) (pg_name (i := 3) sc_depths.nd rfl (Or.inl rfl))
      (pss_cons (ps_set (i := 4) sc_depths.nd rfl (Or.inl rfl) (pe_bm0 PySem.F.plainAttrs_list PySem.F.slot_list_pop PySem.F.type_list_pop mt_pop (pv 2)))
      (pss_cons (ps_expr (pe_bm PySem.F.plainAttrs_list PySem.F.slot_list_append PySem.F.type_list_append mt_append (pv 1) (pa_cons (pv 4) pa_nil)))
      (pss_one (ps_if (pt_eqApp (mo_var 3) (pt_cmpR (op_eqD hr.units) (pv 3) pe_str (nomark _)))
        (pss_cons (ps_expr (pe_bm PySem.F.plainAttrs_list PySem.F.slot_list_append PySem.F.type_list_append mt_append (pv 2) (pa_cons (pv 4) pa_nil)))
        (pss_one (ps_expr (pe_bm PySem.F.plainAttrs_list PySem.F.slot_list_append PySem.F.type_list_append mt_append (pv 2) (pa_cons (pv 4) pa_nil)))))
        (pss_one (ps_if (pt_not (pt_val (pe_isInt (mo_var 3) (pe_callB call_isi (by rfl) B.m_isinstance (by decide +kernel) (pa_cons (pv 3) (pa_cons (pe_bltn (v := .ty "int") (by rfl) B.m_int (by decide +kernel) rfl) pa_nil))))))
          (pss_one (ps_expr (pe_bm PySem.F.plainAttrs_list PySem.F.slot_list_append PySem.F.type_list_append mt_append (pv 2) (pa_cons (pe_op op_add (pv 4) pe_int) pa_nil))))
          pss_nil)))))))
    (pss_one (ps_ret (pv 1)))))), ?_⟩
  obtain ⟨a, xs, rfl, hs, ha⟩ := dp_tup hv
  refine ⟨Nat.zero_le _, fun p1 n1 => ?_⟩
  refine ⟨sl_ok (by decide), fun p2 n2 => ?_⟩
  have n21 : p2 ≠ p1 := fun e => by rw [e, upd_same] at n2; cases n2
  have n2' : H p2 = none := by rw [upd_ne n21] at n2; exact n2
  have S0 : Same H (upd (upd H p1 (.lst [])) p2 (.lst [.int 0])) := same_mut (same_upd n1) n2'
  refine ⟨_, rfl, a, rfl, ⟨xs, Same.sqt S0 hs⟩, for_tup (xs := xs) (fun i σ H' => ∃ (fo : List (Tm × Nat)) (dn : List Nat) (y3 y4 : Option V), σ = [some (.ref a), some (.ref p1), some (.ref p2), y3, y4] ∧ Same H H' ∧ H' p1 = some (.lst (iL dn)) ∧
    H' p2 = some (.lst (iL (fo.map (·.2)).reverse)) ∧ (flat t).drop i = fls fo ∧ deps 0 t = dn ++ fo.flatMap (fun x => deps x.2 x.1)) ?_ ?_ ?_ ?_⟩
  · refine ⟨[(t, 0)], [], none, none, rfl, S0, ?_, ?_, by simp [fls], by simp⟩
    · rw [upd_ne n21.symm, upd_same]; rfl
    · rw [upd_same]; rfl
  · rintro i σ H' _ ⟨_, _, _, _, _, S, _⟩
    exact Same.sqt S hs
  · rintro i x σ H' hx ⟨fo, dn, y3, y4, rfl, S, h1, h2, e1, e2⟩
    obtain ⟨nd, hn, hxd⟩ := dp_node ha hx
    obtain ⟨s, d, r, rfl, rfl, e3⟩ := fo_head e1 hn
    have hsl := fo_len ((s, d) :: r)
    rw [← e1, List.length_drop, flat_len] at hsl
    simp only [List.length_cons] at hsl
    have hdl : dn.length ≤ sz t := by have := congrArg List.length e2; rw [deps_len] at this; simp at this; omega
    have hw : (iL (((s, d) :: r).map (·.2)).reverse) = iL (r.map (·.2)).reverse ++ [V.int (d : Nat)] := by simp [iL]
    rw [hw] at h2
    refine ⟨_, rfl, lty h2, p2, _, V.int (d : Nat), rfl, rfl, h2, last_of _ _, ?_⟩
    rw [List.dropLast_concat]
    have h1' : upd H' p2 (.lst (iL (r.map (·.2)).reverse)) p1 = some (.lst (iL dn)) := by rw [upd_ne n21.symm]; exact h1
    refine ⟨_, rfl, lty h1', _, rfl, p1, _, _, rfl, rfl, h1', sl_lt (by simp [iL]; omega), ?_⟩
    have S1 := same_mut (o := .lst (iL dn ++ [V.int (d : Nat)])) (same_mut (o := .lst (iL (r.map (·.2)).reverse)) S n2') n1
    have hxd1 := dp_mono S1 hxd
    have g2 : (upd (upd H' p2 (.lst (iL (r.map (·.2)).reverse))) p1 (.lst (iL dn ++ [V.int (d : Nat)]))) p2 = some (.lst (iL (r.map (·.2)).reverse)) := by rw [upd_ne n21, upd_same]
    have g1 : (upd (upd H' p2 (.lst (iL (r.map (·.2)).reverse))) p1 (.lst (iL dn ++ [V.int (d : Nat)]))) p1 = some (.lst (iL (dn ++ [d]))) := by rw [upd_same]; simp [iL]
    generalize upd (upd H' p2 (.lst (iL (r.map (·.2)).reverse))) p1 (.lst (iL dn ++ [V.int (d : Nat)])) = H3 at S1 hxd1 g1 g2 ⊢
    refine ⟨_, rfl, tg, _, hxd1, ?_⟩
    cases s with
    | app g u =>
      refine iteT ?_
      refine ⟨_, rfl, lty g2, _, rfl, p2, _, _, rfl, rfl, g2, sl_lt (by simp [iL]; omega), ?_⟩
      refine ⟨_, rfl, lty upd_same, _, rfl, p2, _, _, rfl, rfl, upd_same, sl_lt (by simp [iL]; omega), ?_⟩
      rw [upd_upd]
      refine ⟨(g, d) :: (u, d) :: r, dn ++ [d], some x, some (.int (d : Nat)), rfl, same_mut S1 n2', ?_, ?_, ?_, ?_⟩
      · rw [upd_ne n21.symm]; exact g1
      · rw [upd_same]; simp [iL]
      · rw [e3]; simp [tlN, fls]
      · rw [e2]; simp [deps]
    | var n =>
      refine iteF ?_
      refine ⟨_, rfl, tg, _, hxd1, _, rfl, iteF ?_⟩
      refine ⟨r, dn ++ [d], some x, some (.int (d : Nat)), rfl, S1, g1, g2, ?_, ?_⟩
      · rw [e3]; simp [tlN, fls]
      · rw [e2]; simp [deps]
    | lam m b =>
      refine iteF ?_
      refine ⟨_, rfl, tg, _, hxd1, _, rfl, iteT ?_⟩
      refine ⟨_, rfl, lty g2, _, rfl, _, _, rfl, rfl, p2, _, _, rfl, rfl, g2, sl_lt (by simp [iL]; omega), ?_⟩
      refine ⟨(b, d + 1) :: r, dn ++ [d], some x, some (.int (d : Nat)), rfl, same_mut S1 n2', ?_, ?_, ?_, ?_⟩
      · rw [upd_ne n21.symm]; exact g1
      · rw [upd_same]; simp [iL]
      · rw [e3]; simp [tlN, fls]
      · rw [e2]; simp [deps]
  · rintro σ H' ⟨fo, dn, y3, y4, rfl, S, h1, h2, e1, e2⟩
    rw [dp_nodes_len ha] at e1
    obtain rfl := fo_end e1
    refine ⟨_, rfl, ?_⟩
    refine q H' p1 S n1 ?_
    rw [h1, e2]; simp
/-! ### _law_is_lam -/
def spIsLam (K : PySem.W.Frag) : Sp := fun vs H Q _ => ∃ (v : V) (tg : Bool) (nd : Nd), vs = [v] ∧ Dp K H v (ndD tg nd) ∧ Q (.bl nd.isLam) H
theorem ok_law_is_lam (F : At K mg "_law_is_lam" s__law_is_lam ["_law_node"]) (B : Blt mg) : Has P w K mg base CX0 1 "_law_is_lam" ["_law_node"] (spIsLam K) := F.has fun f fd F => by
  refine F.ok sc__law_is_lam (fun vs H Q E h => ?_) (fun cdv A outer s H vs Q E hr h => ?_)
  · obtain ⟨_, _, _, rfl, _⟩ := h
    rfl
  obtain ⟨v, tg, nd, rfl, hv, q⟩ := h
  refine ⟨_, (pss_one (ps_ret (pe_or (pe_eqLam (mo_var 0) (pe_cmpR (op_eqD hr.units) (pv 0) pe_str (nomark _))) (pe_one (pe_isTup (mo_var 0) (pe_callB call_isi (by rfl) B.m_isinstance (by decide +kernel) (pa_cons (pv 0) (pa_cons (pe_bltn (v := .ty "tuple") (by rfl) B.m_tuple (by decide +kernel) rfl) pa_nil)))))))), ?_⟩
  refine ⟨_, rfl, tg, nd, hv, _, rfl, ?_⟩
  refine ite2 (fun c => ?_) (fun c => ?_)
  · have : nd.isLam = true := by simp at c; exact c.1
    rw [this] at q
    exact q
  · refine ⟨_, rfl, tg, nd, hv, ?_⟩
    have : nd.isTup = nd.isLam := by
      cases nd with
      | var n => rfl
      | app => rfl
      | lam m => cases m with
        | none => exact absurd rfl c
        | some k => rfl
    show Q (.bl nd.isTup) H
    rw [this]; exact q
theorem ok_law_depths (F : At K mg "_law_depths" s__law_depths ["_law_term_here"]) (B : Blt mg) (D1 : Has P w K mg base CX0 1 "_law_is_lam" ["_law_node"] (spIsLam K)) : Has P w K mg base CX0 2 "_law_depths" ["_law_term_here"] (spDepths K) := F.has fun f fd F => by
  obtain ⟨f1, fd1, G__law_is_lam, m__law_is_lam, k__law_is_lam, b__law_is_lam⟩ := D1.ex
  refine F.ok sc__law_depths (fun vs H Q E h => ?_) (fun cdv A outer s H vs Q E hr h => ?_)
  · obtain ⟨_, _, _, rfl, _⟩ := h
    rfl
  obtain ⟨v, tg, t, rfl, hv, hsz, q⟩ := h
  refine ⟨_, (pss_cons (ps_set (i := 1) sc__law_depths.nd rfl (Or.inl rfl) (pe_lst pa_nil))
    (pss_cons (ps_set (i := 2) sc__law_depths.nd rfl (Or.inl rfl) (pe_lst (pa_cons pe_int pa_nil)))
    (pss_cons (ps_for PassesOwn.never rfl (pi_tup (pv 0)) (pg_name (i := 3) sc__law_depths.nd rfl (Or.inl rfl))
      (pss_cons (ps_set (i := 4) sc__law_depths.nd rfl (Or.inl rfl) (pe_bm0 PySem.F.plainAttrs_list PySem.F.slot_list_pop PySem.F.type_list_pop mt_pop (pv 2)))
      (pss_cons (ps_expr (pe_bm PySem.F.plainAttrs_list PySem.F.slot_list_append PySem.F.type_list_append mt_append (pv 1) (pa_cons (pv 4) pa_nil)))
      (pss_one (ps_if (pt_eqApp (mo_var 3) (pt_cmpR (op_eqD hr.units) (pv 3) pe_str (nomark _)))
        (pss_cons (ps_expr (pe_bm PySem.F.plainAttrs_list PySem.F.slot_list_append PySem.F.type_list_append mt_append (pv 2) (pa_cons (pv 4) pa_nil)))
        (pss_one (ps_expr (pe_bm PySem.F.plainAttrs_list PySem.F.slot_list_append PySem.F.type_list_append mt_append (pv 2) (pa_cons (pv 4) pa_nil)))))
        (pss_one (ps_if (pt_val (pe_call G__law_is_lam (hr.mono (by first | decide | omega)) (by rfl) m__law_is_lam k__law_is_lam b__law_is_lam .nil pass0 (pa_cons (pv 3) pa_nil)))
          (pss_one (ps_expr (pe_bm PySem.F.plainAttrs_list PySem.F.slot_list_append PySem.F.type_list_append mt_append (pv 2) (pa_cons (pe_op op_add (pv 4) pe_int) pa_nil))))
          pss_nil)))))))
    (pss_one (ps_ret (pv 1)))))), ?_⟩
  obtain ⟨a, xs, rfl, hs, ha⟩ := dp_tup hv
  refine ⟨Nat.zero_le _, fun p1 n1 => ?_⟩
  refine ⟨sl_ok (by decide), fun p2 n2 => ?_⟩
  have n21 : p2 ≠ p1 := fun e => by rw [e, upd_same] at n2; cases n2
  have n2' : H p2 = none := by rw [upd_ne n21] at n2; exact n2
  have S0 : Same H (upd (upd H p1 (.lst [])) p2 (.lst [.int 0])) := same_mut (same_upd n1) n2'
  refine ⟨_, rfl, a, rfl, ⟨xs, Same.sqt S0 hs⟩, for_tup (xs := xs) (fun i σ H' => ∃ (fo : List (Tm × Nat)) (dn : List Nat) (y3 y4 : Option V), σ = [some (.ref a), some (.ref p1), some (.ref p2), y3, y4] ∧ Same H H' ∧ H' p1 = some (.lst (iL dn)) ∧
    H' p2 = some (.lst (iL (fo.map (·.2)).reverse)) ∧ (flat t).drop i = fls fo ∧ deps 0 t = dn ++ fo.flatMap (fun x => deps x.2 x.1)) ?_ ?_ ?_ ?_⟩
  · refine ⟨[(t, 0)], [], none, none, rfl, S0, ?_, ?_, by simp [fls], by simp⟩
    · rw [upd_ne n21.symm, upd_same]; rfl
    · rw [upd_same]; rfl
  · rintro i σ H' _ ⟨_, _, _, _, _, S, _⟩
    exact Same.sqt S hs
  · rintro i x σ H' hx ⟨fo, dn, y3, y4, rfl, S, h1, h2, e1, e2⟩
    obtain ⟨nd, hn, hxd⟩ := dp_node ha hx
    obtain ⟨s, d, r, rfl, rfl, e3⟩ := fo_head e1 hn
    have hsl := fo_len ((s, d) :: r)
    rw [← e1, List.length_drop, flat_len] at hsl
    simp only [List.length_cons] at hsl
    have hdl : dn.length ≤ sz t := by have := congrArg List.length e2; rw [deps_len] at this; simp at this; omega
    have hw : (iL (((s, d) :: r).map (·.2)).reverse) = iL (r.map (·.2)).reverse ++ [V.int (d : Nat)] := by simp [iL]
    rw [hw] at h2
    refine ⟨_, rfl, lty h2, p2, _, V.int (d : Nat), rfl, rfl, h2, last_of _ _, ?_⟩
    rw [List.dropLast_concat]
    have h1' : upd H' p2 (.lst (iL (r.map (·.2)).reverse)) p1 = some (.lst (iL dn)) := by rw [upd_ne n21.symm]; exact h1
    refine ⟨_, rfl, lty h1', _, rfl, p1, _, _, rfl, rfl, h1', sl_lt (by simp [iL]; omega), ?_⟩
    have S1 := same_mut (o := .lst (iL dn ++ [V.int (d : Nat)])) (same_mut (o := .lst (iL (r.map (·.2)).reverse)) S n2') n1
    have hxd1 := dp_mono S1 hxd
    have g2 : (upd (upd H' p2 (.lst (iL (r.map (·.2)).reverse))) p1 (.lst (iL dn ++ [V.int (d : Nat)]))) p2 = some (.lst (iL (r.map (·.2)).reverse)) := by rw [upd_ne n21, upd_same]
    have g1 : (upd (upd H' p2 (.lst (iL (r.map (·.2)).reverse))) p1 (.lst (iL dn ++ [V.int (d : Nat)]))) p1 = some (.lst (iL (dn ++ [d]))) := by rw [upd_same]; simp [iL]
    generalize upd (upd H' p2 (.lst (iL (r.map (·.2)).reverse))) p1 (.lst (iL dn ++ [V.int (d : Nat)])) = H3 at S1 hxd1 g1 g2 ⊢
    refine ⟨_, rfl, tg, _, hxd1, ?_⟩
    cases s with
    | app g u =>
      refine iteT ?_
      refine ⟨_, rfl, lty g2, _, rfl, p2, _, _, rfl, rfl, g2, sl_lt (by simp [iL]; omega), ?_⟩
      refine ⟨_, rfl, lty upd_same, _, rfl, p2, _, _, rfl, rfl, upd_same, sl_lt (by simp [iL]; omega), ?_⟩
      rw [upd_upd]
      refine ⟨(g, d) :: (u, d) :: r, dn ++ [d], some x, some (.int (d : Nat)), rfl, same_mut S1 n2', ?_, ?_, ?_, ?_⟩
      · rw [upd_ne n21.symm]; exact g1
      · rw [upd_same]; simp [iL]
      · rw [e3]; simp [tlN, fls]
      · rw [e2]; simp [deps]
    | var n =>
      refine iteF ?_
      refine ⟨_, rfl, x, tg, _, rfl, hxd1, _, rfl, iteF ?_⟩
      refine ⟨r, dn ++ [d], some x, some (.int (d : Nat)), rfl, S1, g1, g2, ?_, ?_⟩
      · rw [e3]; simp [tlN, fls]
      · rw [e2]; simp [deps]
    | lam m b =>
      refine iteF ?_
      refine ⟨_, rfl, x, tg, _, rfl, hxd1, _, rfl, iteT ?_⟩
      refine ⟨_, rfl, lty g2, _, rfl, _, _, rfl, rfl, p2, _, _, rfl, rfl, g2, sl_lt (by simp [iL]; omega), ?_⟩
      refine ⟨(b, d + 1) :: r, dn ++ [d], some x, some (.int (d : Nat)), rfl, same_mut S1 n2', ?_, ?_, ?_, ?_⟩
      · rw [upd_ne n21.symm]; exact g1
      · rw [upd_same]; simp [iL]
      · rw [e3]; simp [tlN, fls]
      · rw [e2]; simp [deps]
  · rintro σ H' ⟨fo, dn, y3, y4, rfl, S, h1, h2, e1, e2⟩
    rw [dp_nodes_len ha] at e1
    obtain rfl := fo_end e1
    refine ⟨_, rfl, ?_⟩
    refine q H' p1 S n1 ?_
    rw [h1, e2]; simp
/-! ### places -/
theorem ofs_a : Str.ofString "a" = ⟨#[97]⟩ := by decide +kernel
theorem ofs_b : Str.ofString "b" = ⟨#[98]⟩ := by decide +kernel
theorem ofs_f : Str.ofString "f" = ⟨#[102]⟩ := by decide +kernel
theorem ofs_e : Str.ofString "" = plS [] := by decide +kernel
theorem plS_app (p : Pl) (d : Dir) : plS p ++ (⟨#[ch d]⟩ : Str) = plS (p ++ [d]) := by
  show (⟨(p.map ch).toArray ++ #[ch d]⟩ : Str) = ⟨((p ++ [d]).map ch).toArray⟩
  simp
theorem plS_len (p : Pl) : (plS p).length = p.length := by
  show ((p.map ch).toArray).size = p.length
  simp
theorem pls_short : ∀ {t : Tm} {p : Pl}, p ∈ pls t → p.length ≤ sz t
  | .var n, p, h => by simp only [pls, List.mem_singleton] at h; subst h; simp
  | .app g v, p, h => by
    simp only [pls, List.mem_cons, List.mem_append, List.mem_map] at h
    rcases h with rfl | ⟨q, hq, rfl⟩ | ⟨q, hq, rfl⟩
    · simp
    · have := pls_short hq; simp only [List.length_cons, sz]; omega
    · have := pls_short hq; simp only [List.length_cons, sz]; omega
  | .lam m b, p, h => by
    simp only [pls, List.mem_cons, List.mem_map] at h
    rcases h with rfl | ⟨q, hq, rfl⟩
    · simp
    · have := pls_short hq; simp only [List.length_cons, sz]; omega
def plf (x : Tm × Pl) : List Pl := (pls x.1).map (x.2 ++ ·)
def spPlaces (K : PySem.W.Frag) : Sp := fun vs H Q _ => ∃ (v : V) (tg : Bool) (t : Tm), vs = [v] ∧ Dp K H v (tmD tg t) ∧ sz t ≤ 30000 ∧ ∀ H' p, Same H H' → H p = none → H' p = some (.lst (pL (pls t))) → Q (.ref p) H'
theorem ok_placed_nodes (F : At K mg "placed_nodes" s_placed_nodes ["nodes"]) (B : Blt mg) : Has P w K mg base CX0 1 "placed_nodes" ["nodes"] (spPlaces K) := F.has fun f fd F => by
  refine F.ok sc_placed_nodes (fun vs H Q E h => ?_) (fun cdv A outer s H vs Q E hr h => ?_)
  · obtain ⟨_, _, _, rfl, _⟩ := h
    rfl
  obtain ⟨v, tg, t, rfl, hv, hsz, q⟩ := h
  refine ⟨_, (pss_cons (ps_set (i := 1) sc_placed_nodes.nd rfl (Or.inl rfl) (pe_lst pa_nil))
    (pss_cons (ps_set (i := 2) sc_placed_nodes.nd rfl (Or.inl rfl) (pe_lst (pa_cons pe_str pa_nil)))
    (pss_cons (ps_for PassesOwn.never rfl (pi_tup (pv 0)) (pg_name (i := 3) sc_placed_nodes.nd rfl (Or.inl rfl))
      (pss_cons (ps_set (i := 4) sc_placed_nodes.nd rfl (Or.inl rfl) (pe_bm0 PySem.F.plainAttrs_list PySem.F.slot_list_pop PySem.F.type_list_pop mt_pop (pv 2)))
      (pss_cons (ps_expr (pe_bm PySem.F.plainAttrs_list PySem.F.slot_list_append PySem.F.type_list_append mt_append (pv 1) (pa_cons (pv 4) pa_nil)))
      (pss_one (ps_if (pt_eqApp (mo_var 3) (pt_cmpR (op_eqD hr.units) (pv 3) pe_str (nomark _)))
        (pss_cons (ps_expr (pe_bm PySem.F.plainAttrs_list PySem.F.slot_list_append PySem.F.type_list_append mt_append (pv 2) (pa_cons (pe_op op_add_str (pv 4) pe_str) pa_nil)))
        (pss_one (ps_expr (pe_bm PySem.F.plainAttrs_list PySem.F.slot_list_append PySem.F.type_list_append mt_append (pv 2) (pa_cons (pe_op op_add_str (pv 4) pe_str) pa_nil)))))
        (pss_one (ps_if (pt_not (pt_val (pe_isInt (mo_var 3) (pe_callB call_isi (by rfl) B.m_isinstance (by decide +kernel) (pa_cons (pv 3) (pa_cons (pe_bltn (v := .ty "int") (by rfl) B.m_int (by decide +kernel) rfl) pa_nil))))))
          (pss_one (ps_expr (pe_bm PySem.F.plainAttrs_list PySem.F.slot_list_append PySem.F.type_list_append mt_append (pv 2) (pa_cons (pe_op op_add_str (pv 4) pe_str) pa_nil))))
          pss_nil)))))))
    (pss_one (ps_ret (pv 1)))))), ?_⟩
  obtain ⟨a, xs, rfl, hs, ha⟩ := dp_tup hv
  refine ⟨Nat.zero_le _, fun p1 n1 => ?_⟩
  refine ⟨sl_ok (by decide), fun p2 n2 => ?_⟩
  have n21 : p2 ≠ p1 := fun e => by rw [e, upd_same] at n2; cases n2
  have n2' : H p2 = none := by rw [upd_ne n21] at n2; exact n2
  have S0 : Same H (upd (upd H p1 (.lst [])) p2 (.lst [.str (Str.ofString "")])) := same_mut (same_upd n1) n2'
  refine ⟨_, rfl, a, rfl, ⟨xs, Same.sqt S0 hs⟩, for_tup (xs := xs) (fun i σ H' => ∃ (fo : List (Tm × Pl)) (dn : List Pl) (y3 y4 : Option V), σ = [some (.ref a), some (.ref p1), some (.ref p2), y3, y4] ∧ Same H H' ∧ H' p1 = some (.lst (pL dn)) ∧
    H' p2 = some (.lst (pL (fo.map (·.2)).reverse)) ∧ (flat t).drop i = fls fo ∧ pls t = dn ++ fo.flatMap plf) ?_ ?_ ?_ ?_⟩
  · refine ⟨[(t, [])], [], none, none, rfl, S0, ?_, ?_, by simp [fls], by simp [plf]⟩
    · rw [upd_ne n21.symm, upd_same]; rfl
    · rw [upd_same, ofs_e]; rfl
  · rintro i σ H' _ ⟨_, _, _, _, _, S, _⟩
    exact Same.sqt S hs
  · rintro i x σ H' hx ⟨fo, dn, y3, y4, rfl, S, h1, h2, e1, e2⟩
    obtain ⟨nd, hn, hxd⟩ := dp_node ha hx
    obtain ⟨s, d, r, rfl, rfl, e3⟩ := fo_head e1 hn
    have hsl := fo_len ((s, d) :: r)
    rw [← e1, List.length_drop, flat_len] at hsl
    simp only [List.length_cons] at hsl
    have hdl : dn.length ≤ sz t := by have := congrArg List.length e2; rw [pls_len] at this; simp at this; omega
    have hdm : d.length ≤ sz t := pls_short (show d ∈ pls t by rw [e2]; exact List.mem_append_right _ (List.mem_flatMap.mpr ⟨(s, d), List.mem_cons_self, List.mem_map.mpr ⟨[], by cases s <;> simp [pls], by simp⟩⟩))
    have hw : (pL (((s, d) :: r).map (·.2)).reverse) = pL (r.map (·.2)).reverse ++ [V.str (plS d)] := by simp [pL]
    rw [hw] at h2
    refine ⟨_, rfl, lty h2, p2, _, V.str (plS d), rfl, rfl, h2, last_of _ _, ?_⟩
    rw [List.dropLast_concat]
    have h1' : upd H' p2 (.lst (pL (r.map (·.2)).reverse)) p1 = some (.lst (pL dn)) := by rw [upd_ne n21.symm]; exact h1
    refine ⟨_, rfl, lty h1', _, rfl, p1, _, _, rfl, rfl, h1', sl_lt (by simp [pL]; omega), ?_⟩
    have S1 := same_mut (o := .lst (pL dn ++ [V.str (plS d)])) (same_mut (o := .lst (pL (r.map (·.2)).reverse)) S n2') n1
    have hxd1 := dp_mono S1 hxd
    have g2 : (upd (upd H' p2 (.lst (pL (r.map (·.2)).reverse))) p1 (.lst (pL dn ++ [V.str (plS d)]))) p2 = some (.lst (pL (r.map (·.2)).reverse)) := by rw [upd_ne n21, upd_same]
    have g1 : (upd (upd H' p2 (.lst (pL (r.map (·.2)).reverse))) p1 (.lst (pL dn ++ [V.str (plS d)]))) p1 = some (.lst (pL (dn ++ [d]))) := by rw [upd_same]; simp [pL]
    generalize upd (upd H' p2 (.lst (pL (r.map (·.2)).reverse))) p1 (.lst (pL dn ++ [V.str (plS d)])) = H3 at S1 hxd1 g1 g2 ⊢
    refine ⟨_, rfl, tg, _, hxd1, ?_⟩
    cases s with
    | app g u =>
      refine iteT ?_
      refine ⟨_, rfl, lty g2, _, rfl, _, _, rfl, rfl, sl_ok (by rw [plS_len, ofs_a]; show d.length + 1 ≤ _; omega), p2, _, _, rfl, rfl, g2, sl_lt (by simp [pL]; omega), ?_⟩
      refine ⟨_, rfl, lty upd_same, _, rfl, _, _, rfl, rfl, sl_ok (by rw [plS_len, ofs_f]; show d.length + 1 ≤ _; omega), p2, _, _, rfl, rfl, upd_same, sl_lt (by simp [pL]; omega), ?_⟩
      rw [upd_upd, ofs_a, ofs_f, show (⟨#[97]⟩ : Str) = ⟨#[ch .a]⟩ from rfl, show (⟨#[102]⟩ : Str) = ⟨#[ch .f]⟩ from rfl, plS_app, plS_app]
      refine ⟨(g, d ++ [.f]) :: (u, d ++ [.a]) :: r, dn ++ [d], some x, some (.str (plS d)), rfl, same_mut S1 n2', ?_, ?_, ?_, ?_⟩
      · rw [upd_ne n21.symm]; exact g1
      · rw [upd_same]; simp [pL]
      · rw [e3]; simp [tlN, fls]
      · rw [e2]; simp [pls, plf, Function.comp_def]
    | var n =>
      refine iteF ?_
      refine ⟨_, rfl, tg, _, hxd1, _, rfl, iteF ?_⟩
      refine ⟨r, dn ++ [d], some x, some (.str (plS d)), rfl, S1, g1, g2, ?_, ?_⟩
      · rw [e3]; simp [tlN, fls]
      · rw [e2]; simp [pls, plf, Function.comp_def]
    | lam m b =>
      refine iteF ?_
      refine ⟨_, rfl, tg, _, hxd1, _, rfl, iteT ?_⟩
      refine ⟨_, rfl, lty g2, _, rfl, _, _, rfl, rfl, sl_ok (by rw [plS_len, ofs_b]; show d.length + 1 ≤ _; omega), p2, _, _, rfl, rfl, g2, sl_lt (by simp [pL]; omega), ?_⟩
      rw [ofs_b, show (⟨#[98]⟩ : Str) = ⟨#[ch .b]⟩ from rfl, plS_app]
      refine ⟨(b, d ++ [.b]) :: r, dn ++ [d], some x, some (.str (plS d)), rfl, same_mut S1 n2', ?_, ?_, ?_, ?_⟩
      · rw [upd_ne n21.symm]; exact g1
      · rw [upd_same]; simp [pL]
      · rw [e3]; simp [tlN, fls]
      · rw [e2]; simp [pls, plf, Function.comp_def]
  · rintro σ H' ⟨fo, dn, y3, y4, rfl, S, h1, h2, e1, e2⟩
    rw [dp_nodes_len ha] at e1
    obtain rfl := fo_end e1
    refine ⟨_, rfl, ?_⟩
    refine q H' p1 S n1 ?_
    rw [h1, e2]; simp
theorem ok_law_places (F : At K mg "_law_places" s__law_places ["_law_term_here"]) (B : Blt mg) (D1 : Has P w K mg base CX0 1 "_law_is_lam" ["_law_node"] (spIsLam K)) : Has P w K mg base CX0 2 "_law_places" ["_law_term_here"] (spPlaces K) := F.has fun f fd F => by
  obtain ⟨f1, fd1, G__law_is_lam, m__law_is_lam, k__law_is_lam, b__law_is_lam⟩ := D1.ex
  refine F.ok sc__law_places (fun vs H Q E h => ?_) (fun cdv A outer s H vs Q E hr h => ?_)
  · obtain ⟨_, _, _, rfl, _⟩ := h
    rfl
  obtain ⟨v, tg, t, rfl, hv, hsz, q⟩ := h
  refine ⟨_, (pss_cons (ps_set (i := 1) sc__law_places.nd rfl (Or.inl rfl) (pe_lst pa_nil))
    (pss_cons (ps_set (i := 2) sc__law_places.nd rfl (Or.inl rfl) (pe_lst (pa_cons pe_str pa_nil)))
    (pss_cons (ps_for PassesOwn.never rfl (pi_tup (pv 0)) (pg_name (i := 3) sc__law_places.nd rfl (Or.inl rfl))
      (pss_cons (ps_set (i := 4) sc__law_places.nd rfl (Or.inl rfl) (pe_bm0 PySem.F.plainAttrs_list PySem.F.slot_list_pop PySem.F.type_list_pop mt_pop (pv 2)))
      (pss_cons (ps_expr (pe_bm PySem.F.plainAttrs_list PySem.F.slot_list_append PySem.F.type_list_append mt_append (pv 1) (pa_cons (pv 4) pa_nil)))
      (pss_one (ps_if (pt_eqApp (mo_var 3) (pt_cmpR (op_eqD hr.units) (pv 3) pe_str (nomark _)))
        (pss_cons (ps_expr (pe_bm PySem.F.plainAttrs_list PySem.F.slot_list_append PySem.F.type_list_append mt_append (pv 2) (pa_cons (pe_op op_add_str (pv 4) pe_str) pa_nil)))
        (pss_one (ps_expr (pe_bm PySem.F.plainAttrs_list PySem.F.slot_list_append PySem.F.type_list_append mt_append (pv 2) (pa_cons (pe_op op_add_str (pv 4) pe_str) pa_nil)))))
        (pss_one (ps_if (pt_val (pe_call G__law_is_lam (hr.mono (by first | decide | omega)) (by rfl) m__law_is_lam k__law_is_lam b__law_is_lam .nil pass0 (pa_cons (pv 3) pa_nil)))
          (pss_one (ps_expr (pe_bm PySem.F.plainAttrs_list PySem.F.slot_list_append PySem.F.type_list_append mt_append (pv 2) (pa_cons (pe_op op_add_str (pv 4) pe_str) pa_nil))))
          pss_nil)))))))
    (pss_one (ps_ret (pv 1)))))), ?_⟩
  obtain ⟨a, xs, rfl, hs, ha⟩ := dp_tup hv
  refine ⟨Nat.zero_le _, fun p1 n1 => ?_⟩
  refine ⟨sl_ok (by decide), fun p2 n2 => ?_⟩
  have n21 : p2 ≠ p1 := fun e => by rw [e, upd_same] at n2; cases n2
  have n2' : H p2 = none := by rw [upd_ne n21] at n2; exact n2
  have S0 : Same H (upd (upd H p1 (.lst [])) p2 (.lst [.str (Str.ofString "")])) := same_mut (same_upd n1) n2'
  refine ⟨_, rfl, a, rfl, ⟨xs, Same.sqt S0 hs⟩, for_tup (xs := xs) (fun i σ H' => ∃ (fo : List (Tm × Pl)) (dn : List Pl) (y3 y4 : Option V), σ = [some (.ref a), some (.ref p1), some (.ref p2), y3, y4] ∧ Same H H' ∧ H' p1 = some (.lst (pL dn)) ∧
    H' p2 = some (.lst (pL (fo.map (·.2)).reverse)) ∧ (flat t).drop i = fls fo ∧ pls t = dn ++ fo.flatMap plf) ?_ ?_ ?_ ?_⟩
  · refine ⟨[(t, [])], [], none, none, rfl, S0, ?_, ?_, by simp [fls], by simp [plf]⟩
    · rw [upd_ne n21.symm, upd_same]; rfl
    · rw [upd_same, ofs_e]; rfl
  · rintro i σ H' _ ⟨_, _, _, _, _, S, _⟩
    exact Same.sqt S hs
  · rintro i x σ H' hx ⟨fo, dn, y3, y4, rfl, S, h1, h2, e1, e2⟩
    obtain ⟨nd, hn, hxd⟩ := dp_node ha hx
    obtain ⟨s, d, r, rfl, rfl, e3⟩ := fo_head e1 hn
    have hsl := fo_len ((s, d) :: r)
    rw [← e1, List.length_drop, flat_len] at hsl
    simp only [List.length_cons] at hsl
    have hdl : dn.length ≤ sz t := by have := congrArg List.length e2; rw [pls_len] at this; simp at this; omega
    have hdm : d.length ≤ sz t := pls_short (show d ∈ pls t by rw [e2]; exact List.mem_append_right _ (List.mem_flatMap.mpr ⟨(s, d), List.mem_cons_self, List.mem_map.mpr ⟨[], by cases s <;> simp [pls], by simp⟩⟩))
    have hw : (pL (((s, d) :: r).map (·.2)).reverse) = pL (r.map (·.2)).reverse ++ [V.str (plS d)] := by simp [pL]
    rw [hw] at h2
    refine ⟨_, rfl, lty h2, p2, _, V.str (plS d), rfl, rfl, h2, last_of _ _, ?_⟩
    rw [List.dropLast_concat]
    have h1' : upd H' p2 (.lst (pL (r.map (·.2)).reverse)) p1 = some (.lst (pL dn)) := by rw [upd_ne n21.symm]; exact h1
    refine ⟨_, rfl, lty h1', _, rfl, p1, _, _, rfl, rfl, h1', sl_lt (by simp [pL]; omega), ?_⟩
    have S1 := same_mut (o := .lst (pL dn ++ [V.str (plS d)])) (same_mut (o := .lst (pL (r.map (·.2)).reverse)) S n2') n1
    have hxd1 := dp_mono S1 hxd
    have g2 : (upd (upd H' p2 (.lst (pL (r.map (·.2)).reverse))) p1 (.lst (pL dn ++ [V.str (plS d)]))) p2 = some (.lst (pL (r.map (·.2)).reverse)) := by rw [upd_ne n21, upd_same]
    have g1 : (upd (upd H' p2 (.lst (pL (r.map (·.2)).reverse))) p1 (.lst (pL dn ++ [V.str (plS d)]))) p1 = some (.lst (pL (dn ++ [d]))) := by rw [upd_same]; simp [pL]
    generalize upd (upd H' p2 (.lst (pL (r.map (·.2)).reverse))) p1 (.lst (pL dn ++ [V.str (plS d)])) = H3 at S1 hxd1 g1 g2 ⊢
    refine ⟨_, rfl, tg, _, hxd1, ?_⟩
    cases s with
    | app g u =>
      refine iteT ?_
      refine ⟨_, rfl, lty g2, _, rfl, _, _, rfl, rfl, sl_ok (by rw [plS_len, ofs_a]; show d.length + 1 ≤ _; omega), p2, _, _, rfl, rfl, g2, sl_lt (by simp [pL]; omega), ?_⟩
      refine ⟨_, rfl, lty upd_same, _, rfl, _, _, rfl, rfl, sl_ok (by rw [plS_len, ofs_f]; show d.length + 1 ≤ _; omega), p2, _, _, rfl, rfl, upd_same, sl_lt (by simp [pL]; omega), ?_⟩
      rw [upd_upd, ofs_a, ofs_f, show (⟨#[97]⟩ : Str) = ⟨#[ch .a]⟩ from rfl, show (⟨#[102]⟩ : Str) = ⟨#[ch .f]⟩ from rfl, plS_app, plS_app]
      refine ⟨(g, d ++ [.f]) :: (u, d ++ [.a]) :: r, dn ++ [d], some x, some (.str (plS d)), rfl, same_mut S1 n2', ?_, ?_, ?_, ?_⟩
      · rw [upd_ne n21.symm]; exact g1
      · rw [upd_same]; simp [pL]
      · rw [e3]; simp [tlN, fls]
      · rw [e2]; simp [pls, plf, Function.comp_def]
    | var n =>
      refine iteF ?_
      refine ⟨_, rfl, x, tg, _, rfl, hxd1, _, rfl, iteF ?_⟩
      refine ⟨r, dn ++ [d], some x, some (.str (plS d)), rfl, S1, g1, g2, ?_, ?_⟩
      · rw [e3]; simp [tlN, fls]
      · rw [e2]; simp [pls, plf, Function.comp_def]
    | lam m b =>
      refine iteF ?_
      refine ⟨_, rfl, x, tg, _, rfl, hxd1, _, rfl, iteT ?_⟩
      refine ⟨_, rfl, lty g2, _, rfl, _, _, rfl, rfl, sl_ok (by rw [plS_len, ofs_b]; show d.length + 1 ≤ _; omega), p2, _, _, rfl, rfl, g2, sl_lt (by simp [pL]; omega), ?_⟩
      rw [ofs_b, show (⟨#[98]⟩ : Str) = ⟨#[ch .b]⟩ from rfl, plS_app]
      refine ⟨(b, d ++ [.b]) :: r, dn ++ [d], some x, some (.str (plS d)), rfl, same_mut S1 n2', ?_, ?_, ?_, ?_⟩
      · rw [upd_ne n21.symm]; exact g1
      · rw [upd_same]; simp [pL]
      · rw [e3]; simp [tlN, fls]
      · rw [e2]; simp [pls, plf, Function.comp_def]
  · rintro σ H' ⟨fo, dn, y3, y4, rfl, S, h1, h2, e1, e2⟩
    rw [dp_nodes_len ha] at e1
    obtain rfl := fo_end e1
    refine ⟨_, rfl, ?_⟩
    refine q H' p1 S n1 ?_
    rw [h1, e2]; simp
end
end Ly

/-! W3: ends, lifting, putting. -/
namespace Ly
open PySem PySem.Spec PyProof.Rows L2
/-! ### data without lists stands when a list changes -/
mutual
def noL : PyData → Bool
  | .list _ => false
  | .tuple ds => noLs ds
  | .dict _ => false
  | _ => true
def noLs : List PyData → Bool
  | [] => true
  | d :: ds => noL d && noLs ds
end
theorem sqt_upd {K : PySem.W.Frag} {H : Hp} {p a : Addr} {xs ys zs : List V} (hp : H p = some (.lst xs)) (h : SqT K H a zs) : SqT K (upd H p (.lst ys)) a zs := by
  rcases h with (h | ⟨o, h⟩) | h
  · exact .inl (.inl (by rw [upd_ne (ne_of h hp (fun e => by cases e))]; exact h))
  · exact .inl (.inr ⟨o, by rw [upd_ne (ne_of h hp (fun e => by cases e))]; exact h⟩)
  · exact .inr h
mutual
theorem dp_upd {K : PySem.W.Frag} {H : Hp} {p : Addr} {xs ys : List V} (hp : H p = some (.lst xs)) : ∀ {d : PyData} {v : V}, noL d = true → Dp K H v d → Dp K (upd H p (.lst ys)) v d
  | .none, _, _, h => by cases h; exact .non
  | .bool b, _, _, h => by cases h; exact .bl b
  | .int i, _, _, h => by cases h; exact .int i
  | .str x, _, _, h => by cases h; exact .str x
  | .list ds, _, n, h => by simp [noL] at n
  | .tuple ds, _, n, h => by cases h with | tup hs ha => exact .tup (sqt_upd hp hs) (dpa_upd hp (by simpa [noL] using n) ha)
  | .dict _, _, _, h => by cases h
theorem dpa_upd {K : PySem.W.Frag} {H : Hp} {p : Addr} {xs ys : List V} (hp : H p = some (.lst xs)) : ∀ {ds : List PyData} {vs : List V}, noLs ds = true → DpAll K H vs ds → DpAll K (upd H p (.lst ys)) vs ds
  | [], _, _, h => by cases h; exact .nil
  | d :: ds, _, n, h => by
    simp only [noLs, Bool.and_eq_true] at n
    cases h with | cons h1 h2 => exact .cons (dp_upd hp n.1 h1) (dpa_upd hp n.2 h2)
end
theorem noL_nd (tg : Bool) (n : Nd) : noL (ndD tg n) = true := by
  cases n with
  | var n => simp [ndD, noL]
  | app => simp [ndD, noL]
  | lam m => cases m <;> simp [ndD, noL, noLs]
theorem noL_nds (tg : Bool) (ns : List Nd) : noLs (ns.map (ndD tg)) = true := by
  induction ns with
  | nil => simp [noLs]
  | cons n ns ih => simp [noLs, noL_nd, ih]
theorem noL_tm (tg : Bool) (t : Tm) : noL (tmD tg t) = true := by simp [tmD, noL, noL_nds]
section
variable {P : Program} {w : World} {K : PySem.W.Frag} {mg : Str → Option Value} {base : Heap}
/-! ### _law_end -/
theorem ok_law_end (F : At K mg "_law_end" s__law_end ["_law_term_here", "_law_at"]) (B : Blt mg) (D1 : Has P w K mg base CX0 1 "_law_is_lam" ["_law_node"] (spIsLam K)) : Has P w K mg base CX0 2 "_law_end" ["_law_term_here", "_law_at"] (spEnd K) := F.has fun f fd F => by
  obtain ⟨f1, fd1, G__law_is_lam, m__law_is_lam, k__law_is_lam, b__law_is_lam⟩ := D1.ex
  refine F.ok sc__law_end (fun vs H Q E h => ?_) (fun cdv A outer s H vs Q E hr h => ?_)
  · obtain ⟨_, _, _, _, _, rfl, _⟩ := h
    rfl
  obtain ⟨v, tg, pre, t, post, rfl, hv, q⟩ := h
  refine ⟨_, (pss_cons (ps_set (i := 2) sc__law_end.nd rfl (Or.inl rfl) pe_int)
    (pss_cons (ps_while PassesOwn.never (pt_cmpR op_gt (pv 2) pe_int (nomark _))
      (pss_cons (ps_if (pt_eqApp (mo_nth (mo_var 0) (mo_var 1)) (pt_cmpR (op_eqD hr.units) (pe_nth (mo_var 0) (mo_var 1) (pe_ix ix_tup (pv 0) (pv 1) (fun _ _ => rfl))) pe_str (nomark _)))
        (pss_one (ps_set (i := 2) sc__law_end.nd rfl (Or.inl rfl) (pe_op op_add (pv 2) pe_int)))
        (pss_one (ps_if (pt_not (pt_val (pe_call G__law_is_lam (hr.mono (by first | decide | omega)) (by rfl) m__law_is_lam k__law_is_lam b__law_is_lam .nil pass0 (pa_cons (pe_nth (mo_var 0) (mo_var 1) (pe_ix ix_tup (pv 0) (pv 1) (fun _ _ => rfl))) pa_nil))))
          (pss_one (ps_set (i := 2) sc__law_end.nd rfl (Or.inl rfl) (pe_op op_sub (pv 2) pe_int)))
          pss_nil)))
      (pss_one (ps_set (i := 1) sc__law_end.nd rfl (Or.inl rfl) (pe_op op_add (pv 1) pe_int)))))
    (pss_one (ps_ret (pv 1))))), ?_⟩
  refine ⟨fun m σ H' => ∃ (ts : List Tm) (p : List Nd), H' = H ∧ m = szs ts ∧ σ = [some v, some (.int (p.length : Nat)), some (.int (ts.length : Nat))] ∧
    pre ++ (flat t ++ post) = p ++ (flats ts ++ post) ∧ p.length + szs ts = pre.length + sz t, ⟨_, [t], pre, rfl, rfl, rfl, by simp [flats], by simp [szs]⟩, fun m σ H' hW => ?_⟩
  obtain ⟨ts, p, rfl, rfl, rfl, e1, e2⟩ := hW
  refine ⟨_, rfl, _, _, rfl, rfl, _, rfl, ?_⟩
  cases ts with
  | nil =>
    refine iteF ?_
    have : p.length = pre.length + sz t := by simpa [szs] using e2
    refine ⟨_, rfl, ?_⟩
    rw [this]; exact q
  | cons t0 ts =>
    rw [show decide ((0 : Int) < (((t0 :: ts).length : Nat) : Int)) = true from decide_eq_true (by simp)]
    refine iteT ?_
    have hd : ∃ n0 : Nd, (flat t0)[0]? = some n0 := by cases t0 <;> exact ⟨_, rfl⟩
    obtain ⟨n0, hn0⟩ := hd
    have hget : (pre ++ (flat t ++ post))[p.length]? = some n0 := by
      rw [e1, List.getElem?_append_right (Nat.le_refl _), Nat.sub_self]
      simp only [flats, List.flatMap_cons, List.append_assoc]
      rw [List.getElem?_append_left (by rw [flat_len]; exact sz_pos t0)]; exact hn0
    refine ⟨fun σ' H'' => ∃ m', m' < szs (t0 :: ts) ∧ ∃ (ts' : List Tm) (p' : List Nd), H'' = H' ∧ m' = szs ts' ∧ σ' = [some v, some (.int (p'.length : Nat)), some (.int (ts'.length : Nat))] ∧
      pre ++ (flat t ++ post) = p' ++ (flats ts' ++ post) ∧ p'.length + szs ts' = pre.length + sz t, fun _ _ h => h, ?_⟩
    refine ⟨_, rfl, _, rfl, tg, _, p.length, n0, hv, rfl, hget, fun x hxd => ⟨tg, n0, hxd, ?_⟩⟩
    cases t0 with
    | app g u =>
      cases hn0
      refine iteT ?_
      refine ⟨_, rfl, _, _, rfl, rfl, ?_⟩
      refine ⟨_, rfl, _, _, rfl, rfl, szs (g :: u :: ts), by simp [szs, sz] <;> omega, g :: u :: ts, p ++ [.app], rfl, rfl, ?_, ?_, ?_⟩
      · simp <;> omega
      · rw [e1]; simp [flats, flat]
      · simp [szs, sz] at e2 ⊢; omega
    | var n =>
      cases hn0
      refine iteF ?_
      refine ⟨_, rfl, _, rfl, tg, _, p.length, _, hv, rfl, hget, fun x hxd => ⟨x, tg, _, rfl, hxd, _, rfl, iteT ?_⟩⟩
      refine ⟨_, rfl, _, _, rfl, rfl, ?_⟩
      refine ⟨_, rfl, _, _, rfl, rfl, szs ts, by simp [szs, sz], ts, p ++ [.var n], rfl, rfl, ?_, ?_, ?_⟩
      · simp <;> omega
      · rw [e1]; simp [flats, flat]
      · simp [szs, sz] at e2 ⊢; omega
    | lam m b =>
      cases hn0
      refine iteF ?_
      refine ⟨_, rfl, _, rfl, tg, _, p.length, _, hv, rfl, hget, fun x hxd => ⟨x, tg, _, rfl, hxd, _, rfl, iteF ?_⟩⟩
      refine ⟨_, rfl, _, _, rfl, rfl, szs (b :: ts), by simp [szs, sz] <;> omega, b :: ts, p ++ [.lam m], rfl, rfl, ?_, ?_, ?_⟩
      · simp
      · rw [e1]; simp [flats, flat]
      · simp [szs, sz] at e2 ⊢; omega
/-! ### lifted -/
def spLift (K : PySem.W.Frag) : Sp := fun vs H Q _ => ∃ (v : V) (tg : Bool) (t : Tm) (k : Nat), vs = [v, .int (k : Nat)] ∧ Dp K H v (tmD tg t) ∧ sz t ≤ 30000 ∧ ∀ H' r, Same H H' → Dp K H' r (tmD tg (lift k 0 t)) → Q r H'
theorem iL_get {l : List Nat} {i : Nat} {x : V} (h : (iL l)[i]? = some x) : ∃ d, l[i]? = some d ∧ x = .int (d : Nat) := by
  simp only [iL, List.getElem?_map] at h
  obtain ⟨d, hd, rfl⟩ := Option.map_eq_some_iff.mp h
  exact ⟨d, hd, rfl⟩
theorem liftN_keep {k d : Nat} {nd : Nd} (h : nd.isVar = false) : liftN k nd d = nd := by cases nd <;> first | rfl | cases h
theorem zw_take {α β γ : Type} (f : α → β → γ) {l : List α} {m : List β} {i : Nat} {a : α} {b : β} (h1 : l[i]? = some a) (h2 : m[i]? = some b) : (List.zipWith f l m).take (i + 1) = (List.zipWith f l m).take i ++ [f a b] := by
  rw [List.take_add_one]
  congr 1
  rw [List.getElem?_zipWith, h1, h2]; rfl
theorem zw_all {α β γ : Type} (f : α → β → γ) {l : List α} {m : List β} {n : Nat} (h : l.length ≤ n) : (List.zipWith f l m).take n = List.zipWith f l m := List.take_of_length_le (by simp; omega)
theorem ok_lifted (F : At K mg "lifted" s_lifted ["nodes", "count"]) (B : Blt mg) (D1 : Has P w K mg base CX0 1 "depths" ["nodes"] (spDepths K)) : Has P w K mg base CX0 2 "lifted" ["nodes", "count"] (spLift K) := F.has fun f fd F => by
  obtain ⟨f1, fd1, G_depths, m_depths, k_depths, b_depths⟩ := D1.ex
  refine F.ok sc_lifted (fun vs H Q E h => ?_) (fun cdv A outer s H vs Q E hr h => ?_)
  · obtain ⟨_, _, _, _, rfl, _⟩ := h
    rfl
  obtain ⟨v, tg, t, k, rfl, hv, hsz, q⟩ := h
  refine ⟨_, (pss_cons (ps_set (i := 2) sc_lifted.nd rfl (Or.inl rfl) (pe_lst pa_nil))
    (pss_cons (ps_for PassesOwn.never rfl (pi_zipK (by rfl) B.m_zip (pa_cons (pv 0) (pa_cons (pe_call G_depths (hr.mono (by first | decide | omega)) (by rfl) m_depths k_depths b_depths .nil pass0 (pa_cons (pv 0) pa_nil)) pa_nil))) (pg_tup rfl (pgs_cons (pg_name (i := 3) sc_lifted.nd rfl (Or.inl rfl)) (pgs_cons (pg_name (i := 4) sc_lifted.nd rfl (Or.inl rfl)) pgs_nil)))
      (pss_one (ps_if (PW.pt (pw_and (pt_val (pe_isInt (mo_var 3) (pe_callB call_isi (by rfl) B.m_isinstance (by decide +kernel) (pa_cons (pv 3) (pa_cons (pe_bltn (v := .ty "int") (by rfl) B.m_int (by decide +kernel) rfl) pa_nil))))) (pw_and1 (pt_cmpR op_ge (pv 3) (pv 4) (nomark _)))))
        (pss_one (ps_expr (pe_bm PySem.F.plainAttrs_list PySem.F.slot_list_append PySem.F.type_list_append mt_append (pv 2) (pa_cons (pe_op op_add (pv 3) (pv 1)) pa_nil))))
        (pss_one (ps_expr (pe_bm PySem.F.plainAttrs_list PySem.F.slot_list_append PySem.F.type_list_append mt_append (pv 2) (pa_cons (pv 3) pa_nil)))))))
    (pss_one (ps_ret (pe_callTy call_tuple_of (by rfl) B.m_tuple (by decide +kernel) (pa_cons (pv 2) pa_nil)))))), ?_⟩
  obtain ⟨a, xs, rfl, hs, ha⟩ := dp_tup hv
  have hxl := dp_nodes_len ha
  refine ⟨Nat.zero_le _, fun p1 n1 => ?_⟩
  have S0 : Same H (upd H p1 (.lst [])) := same_upd n1
  refine ⟨_, rfl, _, rfl, .ref a, tg, t, rfl, dp_mono S0 hv, hsz, fun H2 pd S2 nd2 h2 => ?_⟩
  have n12 : pd ≠ p1 := fun e => by rw [e, upd_same] at nd2; cases nd2
  have S02 := S0.trans S2
  refine ⟨.tup a, .lst pd, xs, iL (deps 0 t), rfl, Same.sqt S02 hs, SqL.of h2, for_it (walk_zipK (xs := xs) (ys := iL (deps 0 t)) (n := (flat t).length) (by simp [iL, deps_len, hxl, flat_len])) (fun i σ H' => ∃ (zs : List V) (y3 y4 : Option V), σ = [some (.ref a), some (.int (k : Nat)), some (.ref p1), y3, y4] ∧ Same H H' ∧ H' p1 = some (.lst zs) ∧
    H' pd = some (.lst (iL (deps 0 t))) ∧ DpAll K H' zs (((List.zipWith (liftN k) (flat t) (deps 0 t)).take i).map (ndD tg))) ?_ ?_ ?_ ?_⟩
  · exact ⟨[], none, none, rfl, S02, S2 _ _ upd_same, h2, .nil⟩
  · rintro i σ H' _ ⟨_, _, _, _, S, _, hd, _⟩
    exact ⟨Same.sqt S hs, SqL.of hd⟩
  · rintro i x σ H' H3 hi ⟨zs, y3, y4, rfl, S, h1, hd, hz⟩ ⟨T, x, y, rfl, hT, rfl, hx, hy⟩
    obtain ⟨d, hde, rfl⟩ := iL_get hy
    obtain ⟨nd, hn, hxd⟩ := dp_node ha hx
    have ST := same_upd (o := .tup [x, V.int (d : Nat)]) hT
    have S3 := S.trans ST
    have hzl : zs.length ≤ 30000 := by rw [dpa_len hz]; simp [flat_len]; omega
    rw [zw_take (liftN k) hn hde]
    refine ⟨T, [x, .int (d : Nat)], rfl, SqT.of upd_same, rfl, x, [.int (d : Nat)], rfl, _, [], rfl, rfl, ?_⟩
    have g1 := ST _ _ h1
    have gd := ST _ _ hd
    have hz3 := dpa_mono ST hz
    have hx3 := dp_mono S3 hxd
    generalize upd H' T (.tup [x, V.int (d : Nat)]) = H3 at S3 g1 gd hz3 hx3 ⊢
    have fin : ∀ (y : V) (ne : Nd), Dp K H3 y (ndD tg ne) → ∃ (zs' : List V) (y3 y4 : Option V), [some (.ref a), some (.int (k : Nat)), some (.ref p1), some x, some (.int (d : Nat))] = [some (.ref a), some (.int (k : Nat)), some (.ref p1), y3, y4] ∧ Same H (upd H3 p1 (.lst (zs ++ [y]))) ∧ (upd H3 p1 (.lst (zs ++ [y]))) p1 = some (.lst zs') ∧
        (upd H3 p1 (.lst (zs ++ [y]))) pd = some (.lst (iL (deps 0 t))) ∧ DpAll K (upd H3 p1 (.lst (zs ++ [y]))) zs' (((List.zipWith (liftN k) (flat t) (deps 0 t)).take i ++ [ne]).map (ndD tg)) := fun y ne hy => by
      refine ⟨zs ++ [y], some x, some (.int (d : Nat)), rfl, same_mut S3 n1, upd_same, by rw [upd_ne n12]; exact gd, ?_⟩
      rw [List.map_append]
      exact dpa_app (dpa_upd g1 (noL_nds _ _) hz3) (.cons (dp_upd g1 (noL_nd _ _) hy) .nil)
    refine ⟨x, rfl, tg, nd, hx3, _, rfl, ?_⟩
    cases nd with
    | var n =>
      cases hx3
      refine iteT ?_
      refine ⟨_, rfl, _, rfl, _, _, rfl, rfl, _, rfl, ?_⟩
      refine ite2 (fun c => ?_) (fun c => ?_)
      · have c' : d ≤ n := by have := of_decide_eq_true c; omega
        refine ⟨_, rfl, lty g1, _, rfl, _, rfl, _, _, rfl, rfl, p1, _, _, rfl, rfl, g1, sl_lt (by omega), ?_⟩
        have e : liftN k (.var n) d = .var (n + k) := by simp [liftN, c']
        rw [e]
        exact fin _ _ (.int ((n + k : Nat) : Int))
      · have c' : ¬ d ≤ n := fun z => c (decide_eq_true (by omega))
        refine ⟨_, rfl, lty g1, _, rfl, p1, _, _, rfl, rfl, g1, sl_lt (by omega), ?_⟩
        have e : liftN k (.var n) d = .var n := by simp [liftN, c']
        rw [e]
        exact fin _ _ (.int (n : Int))
    | app =>
      refine iteF ?_
      refine ⟨_, rfl, lty g1, _, rfl, p1, _, _, rfl, rfl, g1, sl_lt (by omega), ?_⟩
      exact fin _ _ hx3
    | lam m =>
      refine iteF ?_
      refine ⟨_, rfl, lty g1, _, rfl, p1, _, _, rfl, rfl, g1, sl_lt (by omega), ?_⟩
      exact fin _ _ hx3
  · rintro σ H' ⟨zs, y3, y4, rfl, S, h1, hd, hz⟩
    rw [zw_all _ (Nat.le_refl _), ← flat_lift] at hz
    refine ⟨_, rfl, p1, zs, rfl, .inl ⟨SqL.of h1, fun l nl => ?_⟩⟩
    exact q _ _ (S.trans (same_upd nl)) (.tup (SqT.of upd_same) (dpa_mono (same_upd nl) hz))
end
end Ly

/-! W4: the law's lifting; checked, placed; the law's putting. -/
namespace Ly
open PySem PySem.Spec PyProof.Rows L2
section
variable {P : Program} {w : World} {K : PySem.W.Frag} {mg : Str → Option Value} {base : Heap}
theorem iL_at {l : List Nat} {i d : Nat} (h : l[i]? = some d) : (iL l)[i]? = some (.int (d : Nat)) := by simp [iL, h]
/-! ### _law_lift -/
theorem ok_law_lift (F : At K mg "_law_lift" s__law_lift ["_law_term_here", "_law_count"]) (B : Blt mg) (D1 : Has P w K mg base CX0 2 "_law_depths" ["_law_term_here"] (spDepths K)) : Has P w K mg base CX0 3 "_law_lift" ["_law_term_here", "_law_count"] (spLift K) := F.has fun f fd F => by
  obtain ⟨f1, fd1, G__law_depths, m__law_depths, k__law_depths, b__law_depths⟩ := D1.ex
  refine F.ok sc__law_lift (fun vs H Q E h => ?_) (fun cdv A outer s H vs Q E hr h => ?_)
  · obtain ⟨_, _, _, _, rfl, _⟩ := h
    rfl
  obtain ⟨v, tg, t, k, rfl, hv, hsz, q⟩ := h
  refine ⟨_, (pss_cons (ps_set (i := 2) sc__law_lift.nd rfl (Or.inl rfl) (pe_call G__law_depths (hr.mono (by first | decide | omega)) (by rfl) m__law_depths k__law_depths b__law_depths .nil pass0 (pa_cons (pv 0) pa_nil)))
    (pss_cons (ps_set (i := 3) sc__law_lift.nd rfl (Or.inl rfl) (pe_lst pa_nil))
    (pss_cons (ps_for PassesOwn.never rfl (pi_range1 (by rfl) B.m_range (pa_cons (pe_callB call_len_seq (by rfl) B.m_len (by decide +kernel) (pa_cons (pv 0) pa_nil)) pa_nil)) (pg_name (i := 4) sc__law_lift.nd rfl (Or.inl rfl))
      (pss_one (ps_if (PW.pt (pw_and (pt_val (pe_isInt (mo_nth (mo_var 0) (mo_var 4)) (pe_callB call_isi (by rfl) B.m_isinstance (by decide +kernel) (pa_cons (pe_nth (mo_var 0) (mo_var 4) (pe_ix ix_tup (pv 0) (pv 4) (fun _ _ => rfl))) (pa_cons (pe_bltn (v := .ty "int") (by rfl) B.m_int (by decide +kernel) rfl) pa_nil))))) (pw_and1 (pt_cmpR op_ge (pe_nth (mo_var 0) (mo_var 4) (pe_ix ix_tup (pv 0) (pv 4) (fun _ _ => rfl))) (pe_ix ix_list (pv 2) (pv 4) (fun _ _ => rfl)) (nomark _)))))
        (pss_one (ps_expr (pe_bm PySem.F.plainAttrs_list PySem.F.slot_list_append PySem.F.type_list_append mt_append (pv 3) (pa_cons (pe_op op_add (pe_nth (mo_var 0) (mo_var 4) (pe_ix ix_tup (pv 0) (pv 4) (fun _ _ => rfl))) (pv 1)) pa_nil))))
        (pss_one (ps_expr (pe_bm PySem.F.plainAttrs_list PySem.F.slot_list_append PySem.F.type_list_append mt_append (pv 3) (pa_cons (pe_nth (mo_var 0) (mo_var 4) (pe_ix ix_tup (pv 0) (pv 4) (fun _ _ => rfl))) pa_nil)))))))
    (pss_one (ps_ret (pe_callTy call_tuple_of (by rfl) B.m_tuple (by decide +kernel) (pa_cons (pv 3) pa_nil))))))), ?_⟩
  obtain ⟨a, xs, rfl, hs, ha⟩ := dp_tup hv
  have hxl := dp_nodes_len ha
  refine ⟨_, rfl, .ref a, tg, t, rfl, hv, hsz, fun H2 pd S2 nd2 h2 => ?_⟩
  refine ⟨Nat.zero_le _, fun p1 n1 => ?_⟩
  have n12 : p1 ≠ pd := fun e => by rw [e, h2] at n1; cases n1
  have S1 := same_upd (o := .lst []) n1
  have S02 := S2.trans S1
  have n1' : H p1 = none := S2.free n1
  refine ⟨_, rfl, a, xs, rfl, .inr (Same.sqt S02 hs), _, rfl, ?_, ?_, for_range (lo := 0) (n := xs.length) (fun i σ H' => ∃ (zs : List V) (y4 : Option V), σ = [some (.ref a), some (.int (k : Nat)), some (.ref pd), some (.ref p1), y4] ∧ Same H H' ∧ H' p1 = some (.lst zs) ∧
    H' pd = some (.lst (iL (deps 0 t))) ∧ DpAll K H' zs (((List.zipWith (liftN k) (flat t) (deps 0 t)).take i).map (ndD tg))) ?_ ?_ ?_⟩
  · rw [hxl, flat_len]; omega
  · rw [hxl, flat_len]; omega
  · exact ⟨[], none, rfl, S02, upd_same, by rw [upd_ne n12.symm]; exact h2, .nil⟩
  · rintro i σ H' hi ⟨zs, y4, rfl, S, h1, hd, hz⟩
    rw [show (0 : Int) + (i : Int) = (i : Int) by omega]
    have hn : ∃ nd, (flat t)[i]? = some nd := ⟨_, List.getElem?_eq_getElem (by omega)⟩
    obtain ⟨nd, hn⟩ := hn
    have hde : ∃ d, (deps 0 t)[i]? = some d := ⟨_, List.getElem?_eq_getElem (by rw [deps_len, ← flat_len]; omega)⟩
    obtain ⟨d, hde⟩ := hde
    have hzl : zs.length ≤ 30000 := by rw [dpa_len hz]; simp [flat_len]; omega
    have hv3 := dp_mono S hv
    have gd : SqL K H' pd (iL (deps 0 t)) := SqL.of hd
    have gi : atI (iL (deps 0 t)) (i : Int) = some (.int (d : Nat)) := atI_nat (iL_at hde)
    rw [zw_take (liftN k) hn hde]
    have fin : ∀ (y : V) (ne : Nd), Dp K H' y (ndD tg ne) → ∃ (zs' : List V) (y4 : Option V), [some (.ref a), some (.int (k : Nat)), some (.ref pd), some (.ref p1), some (.int (i : Int))] = [some (.ref a), some (.int (k : Nat)), some (.ref pd), some (.ref p1), y4] ∧ Same H (upd H' p1 (.lst (zs ++ [y]))) ∧ (upd H' p1 (.lst (zs ++ [y]))) p1 = some (.lst zs') ∧
        (upd H' p1 (.lst (zs ++ [y]))) pd = some (.lst (iL (deps 0 t))) ∧ DpAll K (upd H' p1 (.lst (zs ++ [y]))) zs' (((List.zipWith (liftN k) (flat t) (deps 0 t)).take i ++ [ne]).map (ndD tg)) := fun y ne hy => by
      refine ⟨zs ++ [y], some (.int (i : Int)), rfl, same_mut S n1', upd_same, by rw [upd_ne n12.symm]; exact hd, ?_⟩
      rw [List.map_append]
      exact dpa_app (dpa_upd h1 (noL_nds _ _) hz) (.cons (dp_upd h1 (noL_nd _ _) hy) .nil)
    refine ⟨_, rfl, _, rfl, tg, _, i, nd, hv3, rfl, hn, fun x hx => ⟨tg, nd, hx, _, rfl, ?_⟩⟩
    cases nd with
    | var n =>
      refine iteT ?_
      refine ⟨_, rfl, _, rfl, tg, _, i, _, hv3, rfl, hn, fun x hx => ?_⟩
      cases hx
      refine ⟨_, rfl, _, rfl, pd, _, _, _, rfl, rfl, gd, gi, _, _, rfl, rfl, _, rfl, ?_⟩
      refine ite2 (fun c => ?_) (fun c => ?_)
      · have c' : d ≤ n := by have := of_decide_eq_true c; omega
        refine ⟨_, rfl, lty h1, _, rfl, _, rfl, tg, _, i, _, hv3, rfl, hn, fun x hx => ?_⟩
        cases hx
        refine ⟨_, rfl, _, _, rfl, rfl, p1, _, _, rfl, rfl, h1, sl_lt (by omega), ?_⟩
        have e : liftN k (.var n) d = .var (n + k) := by simp [liftN, c']
        rw [e]
        exact fin _ _ (.int ((n + k : Nat) : Int))
      · have c' : ¬ d ≤ n := fun z => c (decide_eq_true (by omega))
        refine ⟨_, rfl, lty h1, _, rfl, _, rfl, tg, _, i, _, hv3, rfl, hn, fun x hx => ?_⟩
        refine ⟨p1, _, _, rfl, rfl, h1, sl_lt (by omega), ?_⟩
        have e : liftN k (.var n) d = .var n := by simp [liftN, c']
        rw [e]
        exact fin _ _ hx
    | app =>
      refine iteF ?_
      refine ⟨_, rfl, lty h1, _, rfl, _, rfl, tg, _, i, _, hv3, rfl, hn, fun x hx => ?_⟩
      exact ⟨p1, _, _, rfl, rfl, h1, sl_lt (by omega), fin _ _ hx⟩
    | lam m =>
      refine iteF ?_
      refine ⟨_, rfl, lty h1, _, rfl, _, rfl, tg, _, i, _, hv3, rfl, hn, fun x hx => ?_⟩
      exact ⟨p1, _, _, rfl, rfl, h1, sl_lt (by omega), fin _ _ hx⟩
  · rintro σ H' ⟨zs, y4, rfl, S, h1, hd, hz⟩
    rw [zw_all _ (by omega), ← flat_lift] at hz
    refine ⟨_, rfl, p1, zs, rfl, .inl ⟨SqL.of h1, fun l nl => ?_⟩⟩
    exact q _ _ (S.trans (same_upd nl)) (.tup (SqT.of upd_same) (dpa_mono (same_upd nl) hz))
/-! ### checked -/
def mxN : List Nd → Nat
  | [] => 0
  | .var n :: r => max n (mxN r)
  | _ :: r => mxN r
theorem mxN_app : ∀ (a b : List Nd), mxN (a ++ b) = max (mxN a) (mxN b)
  | [], b => by simp [mxN]
  | .var n :: a, b => by simp only [List.cons_append, mxN]; rw [mxN_app a b]; omega
  | .app :: a, b => by simp only [List.cons_append, mxN]; exact mxN_app a b
  | .lam m :: a, b => by simp only [List.cons_append, mxN]; exact mxN_app a b
theorem mxN_flat : ∀ t : Tm, mxN (flat t) = mxv t
  | .var n => by simp [flat, mxN, mxv]
  | .app g v => by simp only [flat, mxN, mxv]; rw [mxN_app, mxN_flat g, mxN_flat v]
  | .lam m b => by simp only [flat, mxN, mxv]; exact mxN_flat b
def varsN (ns : List Nd) : List Nat := ns.filterMap fun nd => match nd with | .var n => some n | _ => none
theorem fold_max : ∀ (l : List Nat) (a : Nat), (l.map fun (n : Nat) => (n : Int)).foldl max (a : Int) = ((l.foldl max a : Nat) : Int)
  | [], a => rfl
  | n :: l, a => by
    simp only [List.map_cons, List.foldl_cons]
    rw [show max (a : Int) (n : Int) = ((max a n : Nat) : Int) by omega, fold_max l]
theorem fold_mx : ∀ (ns : List Nd) (a : Nat), (varsN ns).foldl max a = max a (mxN ns)
  | [], a => by simp [varsN, mxN]
  | .var n :: r, a => by
    have := fold_mx r (max a n)
    simp only [varsN, List.filterMap_cons, List.foldl_cons, mxN] at this ⊢
    rw [this]; omega
  | .app :: r, a => by simpa [varsN, mxN] using fold_mx r a
  | .lam m :: r, a => by simpa [varsN, mxN] using fold_mx r a
theorem maxOf_vars (ns : List Nd) : maxOf 0 ((varsN ns).map fun (n : Nat) => (n : Int)) = (mxN ns : Nat) := by
  have h := fold_mx ns 0
  cases e : varsN ns with
  | nil => rw [e] at h; simp only [List.foldl_nil] at h; simp [maxOf]; omega
  | cons n r =>
    rw [e] at h
    simp only [List.foldl_cons] at h
    simp only [List.map_cons, maxOf]
    rw [fold_max]
    rw [show max 0 n = n by omega] at h
    rw [h]; omega
theorem iL_map (ks : List Nat) : iL ks = (ks.map fun (n : Nat) => (n : Int)).map V.int := by simp [iL]
def badN (ns : List Nd) : Prop := ns.length > 1000 ∨ mxN ns > 1000000
def spChecked (K : PySem.W.Frag) (C : Addr) : Sp := fun vs H Q E => ∃ (p : Addr) (zs : List V) (tg : Bool) (ns : List Nd), vs = [.ref p] ∧ H p = some (.lst zs) ∧ DpAll K H zs (ns.map (ndD tg)) ∧ ns.length ≤ 2000000 ∧
  (badN ns → ∀ H', Same H H' → E (.ref C) none H') ∧ (¬ badN ns → ∀ H' r, Same H H' → Dp K H' r (.tuple (ns.map (ndD tg))) → Q r H')
theorem ok_checked {CT : Addr} {t1 t2 t3 : Tok} (F : At K mg "checked" s_checked ["nodes"]) (B : Blt mg) (C : Cst mg t1 t2 t3) (XT : Exc K mg "TooLarge" CT) : Has P w K mg base (L2.CX P w) 1 "checked" ["nodes"] (spChecked K CT) := F.has fun f fd F => by
  refine F.okX sc_checked (fun vs H Q E h => ?_) (fun cdv A outer s H vs Q E hr h => ?_)
  · obtain ⟨_, _, _, _, rfl, _⟩ := h
    rfl
  obtain ⟨p, zs, tg, ns, rfl, hp, hz, hl, hbad, hgood⟩ := h
  refine ⟨_, (pss_cons (ps_if (PW.pt (pw_or (pt_cmpR op_gt (pe_callB call_len_seq (by rfl) B.m_len (by decide +kernel) (pa_cons (pv 0) pa_nil)) (pe_glob (v := .int 1000) (by rfl) C.g_MOST_NODES ⟨_, rfl⟩) (nomark _)) (pw_or1 (pt_cmpR op_gt (pe_callBK (cr_maxDef rfl (hu2 hr)) (by rfl) B.m_max (by decide +kernel) (pa_cons (pe_lc (own := [("node", 1)]) (g := gName 1) (tt := tB (tNd K (tVar 1) Nd.isVar)) (te := tVar 1) (by rfl) sc_checked.nd (pi_list (pv 0)) (blkOk_by (own := [("node", 1)]) (N := ["nodes", "node"]) (sc := defScope s_checked) (by decide +kernel)) (fun _ _ _ _ _ => by exact (pg_name (i := 1) sc_checked.nd rfl (Or.inl rfl))) (fun _ _ _ _ _ => by exact (pts_one (pt_val (pe_isInt (mo_var 1) (pe_callB call_isi (by rfl) B.m_isinstance (by decide +kernel) (pa_cons (pv 1) (pa_cons (pe_bltn (v := .ty "int") (by rfl) B.m_int (by decide +kernel) rfl) pa_nil))))))) (fun _ _ _ _ _ => by exact (pv 1))) pa_nil) (pk_cons pe_int pk_nil)) (pe_glob (v := .int 1000000) (by rfl) C.g_MOST_VARIABLE ⟨_, rfl⟩) (nomark _)))))
      (pss_one (ps_raise rfl (takes_of rfl rfl rfl rfl) (pmk_own PySem.F.excBase_ValueError XT.x XT.g XT.k (raises_own XT.b XT.t) (by rfl))))
      pss_nil)
    (pss_one (ps_ret (pe_callTy call_tuple_of (by rfl) B.m_tuple (by decide +kernel) (pa_cons (pv 0) pa_nil))))), ?_⟩
  have hzl : zs.length = ns.length := by rw [dpa_len hz]; simp
  refine ⟨_, rfl, p, zs, rfl, .inl (SqL.of hp), _, _, rfl, rfl, _, rfl, ?_⟩
  refine ite2 (fun c => ?_) (fun c => ?_)
  · refine iteT ?_
    have c' := of_decide_eq_true c
    exact hbad (.inl (by omega)) H (Same.refl H)
  · have c' : ¬ ns.length > 1000 := fun z => c (decide_eq_true (by omega))
    refine ⟨_, rfl, p, rfl, ⟨zs, SqL.of hp⟩, fun D nD => lc_list (xs := zs) (fun i H' => Same H H' ∧ H' D = some (.lst (iL (varsN (ns.take i))))) ?_ ?_ ?_ ?_⟩
    · exact ⟨same_upd nD, upd_same⟩
    · intro i H' _ ⟨S, _⟩
      exact SqL.of (S _ _ hp)
    · intro i x H' hx ⟨S, hD⟩
      obtain ⟨nd, hn, hxd⟩ := dp_node hz hx
      have hxd' := dp_mono S hxd
      have hil : i < ns.length := (List.getElem?_eq_some_iff.mp hn).1
      have et : ns.take (i + 1) = ns.take i ++ [nd] := by rw [List.take_add_one, hn]; rfl
      have hvl : (varsN (ns.take i)).length ≤ 2000000 := by
        have h1 : (varsN (ns.take i)).length ≤ (ns.take i).length := List.length_filterMap_le _ _
        rw [List.length_take] at h1; omega
      refine ⟨rfl, _, rfl, tg, nd, hxd', _, rfl, ?_⟩
      cases nd with
      | var n =>
        cases hxd'
        refine iteT ?_
        refine ⟨_, rfl, _, hD, sl_lt (by simp [iL]; omega), same_mut S nD, ?_⟩
        rw [upd_same, et]; simp [varsN, iL]
      | app =>
        refine iteF ?_
        refine ⟨S, ?_⟩
        rw [hD, et]; simp [varsN]
      | lam m =>
        refine iteF ?_
        refine ⟨S, ?_⟩
        rw [hD, et]; simp [varsN]
    · intro H' ⟨S, hD⟩
      rw [hzl, List.take_length] at hD
      refine ⟨D, (varsN ns).map fun (n : Nat) => (n : Int), 0, rfl, rfl, by rw [← iL_map]; exact SqL.of hD, _, _, rfl, rfl, _, rfl, ?_⟩
      rw [maxOf_vars]
      refine ite2 (fun c2 => ?_) (fun c2 => ?_)
      · have c2' := of_decide_eq_true c2
        exact hbad (.inr (by omega)) H' S
      · have c2' : ¬ mxN ns > 1000000 := fun z => c2 (decide_eq_true (by omega))
        refine ⟨_, rfl, p, zs, rfl, .inl ⟨SqL.of (S _ _ hp), fun l nl => ?_⟩⟩
        exact hgood (fun z => z.elim c' c2') _ _ (S.trans (same_upd nl)) (.tup (SqT.of upd_same) (dpa_mono (S.trans (same_upd nl)) hz))
end
end Ly

/-! W5: placed; the law's putting. -/
namespace Ly
open PySem PySem.Spec PyProof.Rows L2
section
variable {P : Program} {w : World} {K : PySem.W.Frag} {mg : Str → Option Value} {base : Heap}
def putL (u b : Tm) : List (List Nd) := List.zipWith (putN u) (flat b) (deps 0 b)
theorem putL_flat (u b : Tm) : (putL u b).flatten = flat (put u 0 b) := (flat_put u b 0).symm
theorem putL_len (u b : Tm) : (putL u b).length = sz b := by simp [putL, flat_len, deps_len]
theorem part_le (L : List (List Nd)) (i : Nat) : (L.take i).flatten.length ≤ L.flatten.length := by
  have : L.flatten = (L.take i).flatten ++ (L.drop i).flatten := by rw [← List.flatten_append, List.take_append_drop]
  rw [this, List.length_append]; omega
theorem putL_take {u b : Tm} {i d : Nat} {nd : Nd} (hn : (flat b)[i]? = some nd) (hd : (deps 0 b)[i]? = some d) : ((putL u b).take (i + 1)).flatten = ((putL u b).take i).flatten ++ putN u nd d := by
  unfold putL
  rw [zw_take (putN u) hn hd, List.flatten_append]; simp
theorem putL_all (u b : Tm) {n : Nat} (h : sz b ≤ n) : (putL u b).take n = putL u b := List.take_of_length_le (by rw [putL_len]; exact h)
theorem putN_len {u : Tm} {nd : Nd} {d : Nat} (h : 1 ≤ sz u) : (putN u nd d).length ≤ sz u := by
  cases nd with
  | var n =>
    simp only [putN]
    split
    · exact h
    · split
      · rw [flat_len, sz_lift]; exact Nat.le_refl _
      · exact h
  | app => exact h
  | lam m => exact h
theorem tm_lift_eq {u : Tm} {d : Nat} : putN u (.var d) d = flat (lift d 0 u) := by simp [putN]
theorem putN_lt {u : Tm} {n d : Nat} (h : n < d) : putN u (.var n) d = [.var n] := by simp [putN, h]
theorem putN_gt {u : Tm} {n d : Nat} (h : d < n) : putN u (.var n) d = [.var (n - 1)] := by
  have h1 : ¬ n < d := by omega
  have h2 : n ≠ d := by omega
  simp [putN, h1, h2]
def badT (t : Tm) : Prop := sz t > 1000 ∨ mxv t > 1000000
theorem badN_flat (t : Tm) : badN (flat t) ↔ badT t := by unfold badN badT; rw [flat_len, mxN_flat]
def spPlaced (K : PySem.W.Frag) (C : Addr) : Sp := fun vs H Q E => ∃ (v x : V) (tg : Bool) (b u : Tm), vs = [v, x] ∧ Dp K H v (tmD tg b) ∧ Dp K H x (tmD tg u) ∧ sz b ≤ 1000 ∧ sz u ≤ 1000 ∧
  (badT (put u 0 b) → ∀ H', Same H H' → E (.ref C) none H') ∧ (¬ badT (put u 0 b) → ∀ H' r, Same H H' → Dp K H' r (tmD tg (put u 0 b)) → Q r H')
theorem ok_placed {CT : Addr} {t1 t2 t3 : Tok} (F : At K mg "placed" s_placed ["nodes", "value"]) (B : Blt mg) (C : Cst mg t1 t2 t3) (XT : Exc K mg "TooLarge" CT) (D1 : Has P w K mg base CX0 1 "depths" ["nodes"] (spDepths K)) (D2 : Has P w K mg base CX0 2 "lifted" ["nodes", "count"] (spLift K))
    (D3 : Has P w K mg base (L2.CX P w) 1 "checked" ["nodes"] (spChecked K CT)) : Has P w K mg base (L2.CX P w) 3 "placed" ["nodes", "value"] (spPlaced K CT) := F.has fun f fd F => by
  obtain ⟨f1, fd1, G_depths, m_depths, k_depths, b_depths⟩ := D1.ex
  obtain ⟨f2, fd2, G_lifted, m_lifted, k_lifted, b_lifted⟩ := D2.ex
  obtain ⟨f3, fd3, G_checked, m_checked, k_checked, b_checked⟩ := D3.ex
  refine F.okX sc_placed (fun vs H Q E h => ?_) (fun cdv A outer s H vs Q E hr h => ?_)
  · obtain ⟨_, _, _, _, _, rfl, _⟩ := h
    rfl
  obtain ⟨v, vu, tg, b, u, rfl, hv, hu, hsz, hszu, hbad, hgood⟩ := h
  refine ⟨_, (pss_cons (ps_set (i := 2) sc_placed.nd rfl (Or.inl rfl) (pe_lst pa_nil))
    (pss_cons (ps_for (passes_of rfl) rfl (pi_zipK (by rfl) B.m_zip (pa_cons (pv 0) (pa_cons (pe_call G_depths (hr.mono (by first | decide | omega)) (by rfl) m_depths k_depths b_depths .nil pass0 (pa_cons (pv 0) pa_nil)) pa_nil))) (pg_tup rfl (pgs_cons (pg_name (i := 3) sc_placed.nd rfl (Or.inl rfl)) (pgs_cons (pg_name (i := 4) sc_placed.nd rfl (Or.inl rfl)) pgs_nil)))
      (pss_cons (ps_if (PW.pt (pw_or (pt_not (pt_val (pe_isInt (mo_var 3) (pe_callB call_isi (by rfl) B.m_isinstance (by decide +kernel) (pa_cons (pv 3) (pa_cons (pe_bltn (v := .ty "int") (by rfl) B.m_int (by decide +kernel) rfl) pa_nil)))))) (pw_or1 (pt_cmpR op_lt (pv 3) (pv 4) (nomark _)))))
        (pss_one (ps_expr (pe_bm PySem.F.plainAttrs_list PySem.F.slot_list_append PySem.F.type_list_append mt_append (pv 2) (pa_cons (pv 3) pa_nil))))
        (pss_one (ps_if (pt_cmpR op_gt (pv 3) (pv 4) (nomark _))
          (pss_one (ps_expr (pe_bm PySem.F.plainAttrs_list PySem.F.slot_list_append PySem.F.type_list_append mt_append (pv 2) (pa_cons (pe_op op_sub (pv 3) pe_int) pa_nil))))
          (pss_one (ps_expr (pe_bm PySem.F.plainAttrs_list PySem.F.slot_list_extend PySem.F.type_list_extend mt_extendT (pv 2) (pa_cons (pe_call G_lifted (hr.mono (by first | decide | omega)) (by rfl) m_lifted k_lifted b_lifted .nil pass0 (pa_cons (pv 1) (pa_cons (pv 4) pa_nil))) pa_nil)))))))
      (pss_one (ps_if (pt_cmpR op_gt (pe_callB call_len_seq (by rfl) B.m_len (by decide +kernel) (pa_cons (pv 2) pa_nil)) (pe_glob (v := .int 1000) (by rfl) C.g_MOST_NODES ⟨_, rfl⟩) (nomark _))
        (pss_one (ps_raise rfl (takes_of rfl rfl rfl rfl) (pmk_own PySem.F.excBase_ValueError XT.x XT.g XT.k (raises_own XT.b XT.t) (by rfl))))
        pss_nil))))
    (pss_one (ps_ret (pe_call G_checked (hr.mono (by first | decide | omega)) (by rfl) m_checked k_checked b_checked .nil (passes_call (takes_of rfl rfl rfl rfl) (fun _ _ _ _ h => h)) (pa_cons (pv 2) pa_nil)))))), ?_⟩
  obtain ⟨a, xs, rfl, hs, ha⟩ := dp_tup hv
  have hxl := dp_nodes_len ha
  refine ⟨Nat.zero_le _, fun p1 n1 => ?_⟩
  have S0 : Same H (upd H p1 (.lst [])) := same_upd n1
  refine ⟨_, rfl, _, rfl, .ref a, tg, b, rfl, dp_mono S0 hv, by omega, fun H2 pd S2 nd2 h2 => ?_⟩
  have n12 : pd ≠ p1 := fun e => by rw [e, upd_same] at nd2; cases nd2
  have S02 := S0.trans S2
  refine ⟨.tup a, .lst pd, xs, iL (deps 0 b), rfl, Same.sqt S02 hs, SqL.of h2, for_it (walk_zipK (xs := xs) (ys := iL (deps 0 b)) (n := sz b) (by simp [iL, deps_len, hxl, flat_len])) (fun i σ H' => ∃ (zs : List V) (y3 y4 : Option V), σ = [some (.ref a), some vu, some (.ref p1), y3, y4] ∧ Same H H' ∧ H' p1 = some (.lst zs) ∧
    H' pd = some (.lst (iL (deps 0 b))) ∧ DpAll K H' zs ((((putL u b).take i).flatten).map (ndD tg)) ∧ zs.length ≤ 1000) ?_ ?_ ?_ ?_⟩
  · exact ⟨[], none, none, rfl, S02, S2 _ _ upd_same, h2, .nil, by simp⟩
  · rintro i σ H' _ ⟨_, _, _, _, S, _, hd, _⟩
    exact ⟨Same.sqt S hs, SqL.of hd⟩
  · rintro i x σ H' H3 hi ⟨zs, y3, y4, rfl, S, h1, hd, hz, hzl⟩ ⟨T, x, y, rfl, hT, rfl, hx, hy⟩
    obtain ⟨d, hde, rfl⟩ := iL_get hy
    obtain ⟨nd, hn, hxd⟩ := dp_node ha hx
    have ST := same_upd (o := .tup [x, V.int (d : Nat)]) hT
    have S3 := S.trans ST
    rw [putL_take hn hde]
    refine ⟨T, [x, .int (d : Nat)], rfl, SqT.of upd_same, rfl, x, [.int (d : Nat)], rfl, _, [], rfl, rfl, ?_⟩
    have g1 := ST _ _ h1
    have gd := ST _ _ hd
    have hz3 := dpa_mono ST hz
    have hx3 := dp_mono S3 hxd
    generalize upd H' T (.tup [x, V.int (d : Nat)]) = H3 at S3 g1 gd hz3 hx3 ⊢
    -- behind the ifs: the length is looked at
    have fin : ∀ (H4 : Hp) (ys : List V) (ne : List Nd), putN u nd d = ne → Same H3 H4 → DpAll K H4 ys (ne.map (ndD tg)) → ys.length ≤ 1000 →
        (upd H4 p1 (.lst (zs ++ ys))) p1 = some (.lst (zs ++ ys)) ∧ Same H (upd H4 p1 (.lst (zs ++ ys))) ∧ (upd H4 p1 (.lst (zs ++ ys))) pd = some (.lst (iL (deps 0 b))) ∧ DpAll K (upd H4 p1 (.lst (zs ++ ys))) (zs ++ ys) ((((putL u b).take i).flatten ++ putN u nd d).map (ndD tg)) ∧
        (1000 < (zs ++ ys).length → badT (put u 0 b)) := fun H4 ys ne he S4 hy hyl => by
      refine ⟨upd_same, same_mut (S3.trans S4) n1, by rw [upd_ne n12]; exact S4 _ _ gd, ?_, fun hlong => ?_⟩
      · rw [List.map_append, he]
        exact dpa_app (dpa_upd (S4 _ _ g1) (noL_nds _ _) (dpa_mono S4 hz3)) (dpa_upd (S4 _ _ g1) (noL_nds _ _) hy)
      · refine .inl ?_
        have e1 : (zs ++ ys).length = (((putL u b).take (i + 1)).flatten).length := by
          rw [putL_take hn hde, he, List.length_append, List.length_append, dpa_len hz3, dpa_len hy, List.length_map, List.length_map]
        have e2 := part_le (putL u b) (i + 1)
        rw [putL_flat, flat_len] at e2
        omega
    have fin2 : ∀ (H5 : Hp) (ws : List V) (y3 : Option V), H5 p1 = some (.lst ws) → Same H H5 → H5 pd = some (.lst (iL (deps 0 b))) → DpAll K H5 ws ((((putL u b).take i).flatten ++ putN u nd d).map (ndD tg)) → (1000 < ws.length → badT (put u 0 b)) →
        (if decide ((1000 : Int) < ((ws.length : Nat) : Int)) = true then E (.ref CT) none H5 else ∃ (zs : List V) (y3 y4 : Option V), [some (.ref a), some vu, some (.ref p1), some x, some (V.int (d : Nat))] = [some (.ref a), some vu, some (.ref p1), y3, y4] ∧ Same H H5 ∧ H5 p1 = some (.lst zs) ∧ H5 pd = some (.lst (iL (deps 0 b))) ∧
          DpAll K H5 zs ((((putL u b).take i).flatten ++ putN u nd d).map (ndD tg)) ∧ zs.length ≤ 1000) := fun H5 ws y3 g1 S5 gd hz hb => by
      refine ite2 (fun c => ?_) (fun c => ?_)
      · exact hbad (hb (by have := of_decide_eq_true c; omega)) H5 S5
      · exact ⟨ws, some x, some (V.int (d : Nat)), rfl, S5, g1, gd, hz, by have : ¬ 1000 < ws.length := fun z => c (decide_eq_true (by omega)); omega⟩
    refine ⟨_, rfl, tg, nd, hx3, _, rfl, ?_⟩
    cases nd with
    | var n =>
      cases hx3
      refine iteF ?_
      refine ⟨_, rfl, _, rfl, _, _, rfl, rfl, _, rfl, ?_⟩
      refine ite2 (fun c => ?_) (fun c => ?_)
      · have c' : n < d := by have := of_decide_eq_true c; omega
        refine ⟨_, rfl, lty g1, _, rfl, p1, _, _, rfl, rfl, g1, sl_lt (by omega), ?_⟩
        obtain ⟨a1, a2, a3, a4, a5⟩ := fin H3 [.int (n : Nat)] _ (putN_lt c') (Same.refl _) (.cons (.int _) .nil) (by simp)
        refine ⟨_, rfl, p1, _, rfl, .inl (SqL.of a1), _, _, rfl, rfl, _, rfl, ?_⟩
        exact fin2 _ _ none a1 a2 a3 a4 a5
      · have c' : ¬ n < d := fun z => c (decide_eq_true (by omega))
        refine ⟨_, rfl, _, rfl, _, _, rfl, rfl, _, rfl, ?_⟩
        refine ite2 (fun c2 => ?_) (fun c2 => ?_)
        · have c2' : d < n := by have := of_decide_eq_true c2; omega
          refine ⟨_, rfl, lty g1, _, rfl, _, _, rfl, rfl, p1, _, _, rfl, rfl, g1, sl_lt (by omega), ?_⟩
          obtain ⟨a1, a2, a3, a4, a5⟩ := fin H3 [.int ((n : Nat) - 1)] _ (putN_gt c2') (Same.refl _) (.cons (by rw [show ((n : Int) - 1) = ((n - 1 : Nat) : Int) by omega]; exact .int _) .nil) (by simp)
          refine ⟨_, rfl, p1, _, rfl, .inl (SqL.of a1), _, _, rfl, rfl, _, rfl, ?_⟩
          exact fin2 _ _ none a1 a2 a3 a4 a5
        · have c2' : n = d := by
            have : ¬ d < n := fun z => c2 (decide_eq_true (by omega))
            omega
          subst c2'
          refine ⟨_, rfl, lty g1, _, rfl, _, rfl, vu, tg, u, n, rfl, dp_mono S3 hu, by omega, fun H4 r S4 hr4 => ?_⟩
          obtain ⟨ar, ys, rfl, hsr, hyr⟩ := dp_tup hr4
          have hyl : ys.length = sz u := by rw [dp_nodes_len hyr, flat_len, sz_lift]
          refine ⟨p1, ar, zs, ys, rfl, rfl, S4 _ _ g1, hsr, sl_ok (by omega), ?_⟩
          obtain ⟨a1, a2, a3, a4, a5⟩ := fin H4 ys _ tm_lift_eq S4 hyr (by omega)
          refine ⟨_, rfl, p1, _, rfl, .inl (SqL.of a1), _, _, rfl, rfl, _, rfl, ?_⟩
          exact fin2 _ _ none a1 a2 a3 a4 a5
    | app =>
      refine iteT ?_
      refine ⟨_, rfl, lty g1, _, rfl, p1, _, _, rfl, rfl, g1, sl_lt (by omega), ?_⟩
      obtain ⟨a1, a2, a3, a4, a5⟩ := fin H3 [x] [.app] rfl (Same.refl _) (.cons hx3 .nil) (by simp)
      refine ⟨_, rfl, p1, _, rfl, .inl (SqL.of a1), _, _, rfl, rfl, _, rfl, ?_⟩
      exact fin2 _ _ none a1 a2 a3 a4 a5
    | lam m =>
      refine iteT ?_
      refine ⟨_, rfl, lty g1, _, rfl, p1, _, _, rfl, rfl, g1, sl_lt (by omega), ?_⟩
      obtain ⟨a1, a2, a3, a4, a5⟩ := fin H3 [x] [.lam m] rfl (Same.refl _) (.cons hx3 .nil) (by simp)
      refine ⟨_, rfl, p1, _, rfl, .inl (SqL.of a1), _, _, rfl, rfl, _, rfl, ?_⟩
      exact fin2 _ _ none a1 a2 a3 a4 a5
  · rintro σ H' ⟨zs, y3, y4, rfl, S, h1, hd, hz, hzl⟩
    rw [putL_all _ _ (Nat.le_refl _), putL_flat] at hz
    have hln : (flat (put u 0 b)).length ≤ 2000000 := by have := dpa_len hz; simp at this; omega
    refine ⟨_, rfl, p1, zs, tg, flat (put u 0 b), rfl, h1, hz, hln, fun hb H2 S2 => ?_, fun hb H2 r S2 hr2 => ?_⟩
    · exact hbad ((badN_flat _).mp hb) H2 (S.trans S2)
    · exact hgood (fun z => hb ((badN_flat _).mpr z)) H2 r (S.trans S2) hr2
/-! ### _law_put -/
def spLawPut (K : PySem.W.Frag) : Sp := fun vs H Q _ => ∃ (v x : V) (tg : Bool) (b u : Tm), vs = [v, x] ∧ Dp K H v (tmD tg b) ∧ Dp K H x (tmD tg u) ∧ sz b ≤ 1000 ∧ sz u ≤ 1000 ∧ ∀ H' r, Same H H' → Dp K H' r (tmD tg (put u 0 b)) → Q r H'
theorem flatten_le {L : List (List Nd)} {c : Nat} (h : ∀ l ∈ L, l.length ≤ c) : L.flatten.length ≤ L.length * c := by
  induction L with
  | nil => simp
  | cons l L ih =>
    have h1 := h l List.mem_cons_self
    have h2 := ih fun l hl => h l (List.mem_cons_of_mem _ hl)
    simp only [List.flatten_cons, List.length_append, List.length_cons]
    rw [Nat.succ_mul]; omega
theorem putL_part {u b : Tm} (hb : sz b ≤ 1000) (hu : sz u ≤ 1000) (i : Nat) : ((putL u b).take i).flatten.length ≤ 1000000 := by
  refine Nat.le_trans (part_le _ _) ?_
  have h1 : (putL u b).flatten.length ≤ (putL u b).length * 1000 := flatten_le fun l hl => by
    unfold putL at hl
    obtain ⟨j, hj⟩ := List.mem_iff_getElem?.mp hl
    rw [List.getElem?_zipWith] at hj
    cases e1 : (flat b)[j]? with
    | none => rw [e1] at hj; cases hj
    | some nd =>
      cases e2 : (deps 0 b)[j]? with
      | none => rw [e1, e2] at hj; cases hj
      | some d =>
        rw [e1, e2] at hj; cases hj
        exact Nat.le_trans (putN_len (sz_pos u)) hu
  rw [putL_len] at h1
  have : sz b * 1000 ≤ 1000 * 1000 := Nat.mul_le_mul_right _ hb
  omega
theorem shaped_int (i : Int) : SeqAt.shaped (.int i) = true := rfl
theorem ok_law_put (F : At K mg "_law_put" s__law_put ["_law_term_here", "_law_value"]) (B : Blt mg) (D1 : Has P w K mg base CX0 2 "_law_depths" ["_law_term_here"] (spDepths K)) (D2 : Has P w K mg base CX0 3 "_law_lift" ["_law_term_here", "_law_count"] (spLift K)) :
    Has P w K mg base CX0 4 "_law_put" ["_law_term_here", "_law_value"] (spLawPut K) := F.has fun f fd F => by
  obtain ⟨f1, fd1, G__law_depths, m__law_depths, k__law_depths, b__law_depths⟩ := D1.ex
  obtain ⟨f2, fd2, G__law_lift, m__law_lift, k__law_lift, b__law_lift⟩ := D2.ex
  refine F.ok sc__law_put (fun vs H Q E h => ?_) (fun cdv A outer s H vs Q E hr h => ?_)
  · obtain ⟨_, _, _, _, _, rfl, _⟩ := h
    rfl
  obtain ⟨v, vu, tg, t, u, rfl, hv, hu, hsz, hszu, q⟩ := h
  refine ⟨_, (pss_cons (ps_set (i := 2) sc__law_put.nd rfl (Or.inl rfl) (pe_call G__law_depths (hr.mono (by first | decide | omega)) (by rfl) m__law_depths k__law_depths b__law_depths .nil pass0 (pa_cons (pv 0) pa_nil)))
    (pss_cons (ps_set (i := 3) sc__law_put.nd rfl (Or.inl rfl) (pe_lst pa_nil))
    (pss_cons (ps_for PassesOwn.never rfl (pi_range1 (by rfl) B.m_range (pa_cons (pe_callB call_len_seq (by rfl) B.m_len (by decide +kernel) (pa_cons (pv 0) pa_nil)) pa_nil)) (pg_name (i := 4) sc__law_put.nd rfl (Or.inl rfl))
      (pss_one (ps_if (PW.pt (pw_and (pt_val (pe_isInt (mo_nth (mo_var 0) (mo_var 4)) (pe_callB call_isi (by rfl) B.m_isinstance (by decide +kernel) (pa_cons (pe_nth (mo_var 0) (mo_var 4) (pe_ix ix_tup (pv 0) (pv 4) (fun _ _ => rfl))) (pa_cons (pe_bltn (v := .ty "int") (by rfl) B.m_int (by decide +kernel) rfl) pa_nil))))) (pw_and1 (pt_cmpR (op_eqD hr.units) (pe_nth (mo_var 0) (mo_var 4) (pe_ix ix_tup (pv 0) (pv 4) (fun _ _ => rfl))) (pe_ix ix_list (pv 2) (pv 4) (fun _ _ => rfl)) (nomark _)))))
        (pss_one (ps_expr (pe_bm PySem.F.plainAttrs_list PySem.F.slot_list_extend PySem.F.type_list_extend mt_extendT (pv 3) (pa_cons (pe_call G__law_lift (hr.mono (by first | decide | omega)) (by rfl) m__law_lift k__law_lift b__law_lift .nil pass0 (pa_cons (pv 1) (pa_cons (pe_ix ix_list (pv 2) (pv 4) (fun _ _ => rfl)) pa_nil))) pa_nil))))
        (pss_one (ps_if (PW.pt (pw_and (pt_val (pe_isInt (mo_nth (mo_var 0) (mo_var 4)) (pe_callB call_isi (by rfl) B.m_isinstance (by decide +kernel) (pa_cons (pe_nth (mo_var 0) (mo_var 4) (pe_ix ix_tup (pv 0) (pv 4) (fun _ _ => rfl))) (pa_cons (pe_bltn (v := .ty "int") (by rfl) B.m_int (by decide +kernel) rfl) pa_nil))))) (pw_and1 (pt_cmpR op_gt (pe_nth (mo_var 0) (mo_var 4) (pe_ix ix_tup (pv 0) (pv 4) (fun _ _ => rfl))) (pe_ix ix_list (pv 2) (pv 4) (fun _ _ => rfl)) (nomark _)))))
          (pss_one (ps_expr (pe_bm PySem.F.plainAttrs_list PySem.F.slot_list_append PySem.F.type_list_append mt_append (pv 3) (pa_cons (pe_op op_sub (pe_nth (mo_var 0) (mo_var 4) (pe_ix ix_tup (pv 0) (pv 4) (fun _ _ => rfl))) pe_int) pa_nil))))
          (pss_one (ps_expr (pe_bm PySem.F.plainAttrs_list PySem.F.slot_list_append PySem.F.type_list_append mt_append (pv 3) (pa_cons (pe_nth (mo_var 0) (mo_var 4) (pe_ix ix_tup (pv 0) (pv 4) (fun _ _ => rfl))) pa_nil)))))))))
    (pss_one (ps_ret (pe_callTy call_tuple_of (by rfl) B.m_tuple (by decide +kernel) (pa_cons (pv 3) pa_nil))))))), ?_⟩
  obtain ⟨a, xs, rfl, hs, ha⟩ := dp_tup hv
  have hxl := dp_nodes_len ha
  refine ⟨_, rfl, .ref a, tg, t, rfl, hv, by omega, fun H2 pd S2 nd2 h2 => ?_⟩
  refine ⟨Nat.zero_le _, fun p1 n1 => ?_⟩
  have n12 : p1 ≠ pd := fun e => by rw [e, h2] at n1; cases n1
  have S1 := same_upd (o := .lst []) n1
  have S02 := S2.trans S1
  have n1' : H p1 = none := S2.free n1
  refine ⟨_, rfl, a, xs, rfl, .inr (Same.sqt S02 hs), _, rfl, ?_, ?_, for_range (lo := 0) (n := xs.length) (fun i σ H' => ∃ (zs : List V) (y4 : Option V), σ = [some (.ref a), some vu, some (.ref pd), some (.ref p1), y4] ∧ Same H H' ∧ H' p1 = some (.lst zs) ∧
    H' pd = some (.lst (iL (deps 0 t))) ∧ DpAll K H' zs ((((putL u t).take i).flatten).map (ndD tg))) ?_ ?_ ?_⟩
  · rw [hxl, flat_len]; omega
  · rw [hxl, flat_len]; omega
  · exact ⟨[], none, rfl, S02, upd_same, by rw [upd_ne n12.symm]; exact h2, .nil⟩
  · rintro i σ H' hi ⟨zs, y4, rfl, S, h1, hd, hz⟩
    rw [show (0 : Int) + (i : Int) = (i : Int) by omega]
    have hn : ∃ nd, (flat t)[i]? = some nd := ⟨_, List.getElem?_eq_getElem (by omega)⟩
    obtain ⟨nd, hn⟩ := hn
    have hde : ∃ d, (deps 0 t)[i]? = some d := ⟨_, List.getElem?_eq_getElem (by rw [deps_len, ← flat_len]; omega)⟩
    obtain ⟨d, hde⟩ := hde
    have hzl : zs.length ≤ 1000000 := by rw [dpa_len hz, List.length_map]; exact putL_part hsz hszu i
    have hv3 := dp_mono S hv
    have gd : SqL K H' pd (iL (deps 0 t)) := SqL.of hd
    have gi : atI (iL (deps 0 t)) (i : Int) = some (.int (d : Nat)) := atI_nat (iL_at hde)
    rw [putL_take hn hde]
    have fin : ∀ (H4 : Hp) (ys : List V) (ne : List Nd), putN u nd d = ne → Same H' H4 → DpAll K H4 ys (ne.map (ndD tg)) → ∃ (zs' : List V) (y4 : Option V), [some (.ref a), some vu, some (.ref pd), some (.ref p1), some (.int (i : Int))] = [some (.ref a), some vu, some (.ref pd), some (.ref p1), y4] ∧ Same H (upd H4 p1 (.lst (zs ++ ys))) ∧ (upd H4 p1 (.lst (zs ++ ys))) p1 = some (.lst zs') ∧
        (upd H4 p1 (.lst (zs ++ ys))) pd = some (.lst (iL (deps 0 t))) ∧ DpAll K (upd H4 p1 (.lst (zs ++ ys))) zs' ((((putL u t).take i).flatten ++ putN u nd d).map (ndD tg)) := fun H4 ys ne he S4 hy => by
      refine ⟨zs ++ ys, some (.int (i : Int)), rfl, same_mut (S.trans S4) n1', upd_same, by rw [upd_ne n12.symm]; exact S4 _ _ hd, ?_⟩
      rw [List.map_append, he]
      exact dpa_app (dpa_upd (S4 _ _ h1) (noL_nds _ _) (dpa_mono S4 hz)) (dpa_upd (S4 _ _ h1) (noL_nds _ _) hy)
    refine ⟨_, rfl, _, rfl, tg, _, i, nd, hv3, rfl, hn, fun x hx => ⟨tg, nd, hx, _, rfl, ?_⟩⟩
    cases nd with
    | var n =>
      refine iteT ?_
      refine ⟨_, rfl, _, rfl, tg, _, i, _, hv3, rfl, hn, fun x hx => ?_⟩
      cases hx
      refine ⟨_, rfl, _, rfl, pd, _, _, _, rfl, rfl, gd, gi, _, _, .int _, .int _, shaped_int _, shaped_int _, _, rfl, ?_⟩
      have ee : PyData.eqv (.int (n : Int)) (.int (d : Int)) = ((n : Int) == (d : Int)) := by simp only [PyData.eqv]
      rw [ee]
      refine ite2 (fun c => ?_) (fun c => ?_)
      · have c' : n = d := by have := eq_of_beq c; omega
        subst c'
        refine ⟨_, rfl, lty h1, _, rfl, _, rfl, _, rfl, pd, _, _, _, rfl, rfl, gd, gi, vu, tg, u, n, rfl, dp_mono S hu, by omega, fun H4 r S4 hr4 => ?_⟩
        obtain ⟨ar, ys, rfl, hsr, hyr⟩ := dp_tup hr4
        have hyl : ys.length = sz u := by rw [dp_nodes_len hyr, flat_len, sz_lift]
        refine ⟨p1, ar, zs, ys, rfl, rfl, S4 _ _ h1, hsr, sl_ok (by omega), ?_⟩
        exact fin H4 ys _ tm_lift_eq S4 hyr
      · have c' : n ≠ d := fun z => c (by subst z; simp)
        refine ⟨_, rfl, _, rfl, tg, _, i, _, hv3, rfl, hn, fun x hx => ⟨tg, _, hx, _, rfl, iteT ?_⟩⟩
        refine ⟨_, rfl, _, rfl, tg, _, i, _, hv3, rfl, hn, fun x hx => ?_⟩
        cases hx
        refine ⟨_, rfl, _, rfl, pd, _, _, _, rfl, rfl, gd, gi, _, _, rfl, rfl, _, rfl, ?_⟩
        refine ite2 (fun c2 => ?_) (fun c2 => ?_)
        · have c2' : d < n := by have := of_decide_eq_true c2; omega
          refine ⟨_, rfl, lty h1, _, rfl, _, rfl, tg, _, i, _, hv3, rfl, hn, fun x hx => ?_⟩
          cases hx
          refine ⟨_, _, rfl, rfl, p1, _, _, rfl, rfl, h1, sl_lt (by omega), ?_⟩
          exact fin H' [.int ((n : Nat) - 1)] _ (putN_gt c2') (Same.refl _) (.cons (by rw [show ((n : Int) - 1) = ((n - 1 : Nat) : Int) by omega]; exact .int _) .nil)
        · have c2' : n < d := by
            have : ¬ d < n := fun z => c2 (decide_eq_true (by omega))
            omega
          refine ⟨_, rfl, lty h1, _, rfl, _, rfl, tg, _, i, _, hv3, rfl, hn, fun x hx => ?_⟩
          exact ⟨p1, _, _, rfl, rfl, h1, sl_lt (by omega), fin H' [x] _ (putN_lt c2') (Same.refl _) (.cons hx .nil)⟩
    | app =>
      refine iteF ?_
      refine ⟨_, rfl, _, rfl, tg, _, i, _, hv3, rfl, hn, fun x hx => ⟨tg, _, hx, _, rfl, iteF ?_⟩⟩
      refine ⟨_, rfl, lty h1, _, rfl, _, rfl, tg, _, i, _, hv3, rfl, hn, fun x hx => ?_⟩
      exact ⟨p1, _, _, rfl, rfl, h1, sl_lt (by omega), fin H' [x] [.app] rfl (Same.refl _) (.cons hx .nil)⟩
    | lam m =>
      refine iteF ?_
      refine ⟨_, rfl, _, rfl, tg, _, i, _, hv3, rfl, hn, fun x hx => ⟨tg, _, hx, _, rfl, iteF ?_⟩⟩
      refine ⟨_, rfl, lty h1, _, rfl, _, rfl, tg, _, i, _, hv3, rfl, hn, fun x hx => ?_⟩
      exact ⟨p1, _, _, rfl, rfl, h1, sl_lt (by omega), fin H' [x] [.lam m] rfl (Same.refl _) (.cons hx .nil)⟩
  · rintro σ H' ⟨zs, y4, rfl, S, h1, hd, hz⟩
    rw [putL_all _ _ (by rw [hxl, flat_len]; exact Nat.le_refl _), putL_flat] at hz
    refine ⟨_, rfl, p1, zs, rfl, .inl ⟨SqL.of h1, fun l nl => ?_⟩⟩
    exact q _ _ (S.trans (same_upd nl)) (.tup (SqT.of upd_same) (dpa_mono (same_upd nl) hz))
end
end Ly

/-! W6: index_of, comes_before, is_redex, stepped, follow. -/
namespace Ly
open PySem PySem.Spec PyProof.Rows L2
section
variable {P : Program} {w : World} {K : PySem.W.Frag} {mg : Str → Option Value} {base : Heap}
theorem iteP {c : Bool} {A B : Prop} (e : c = true) (h : A) : if c = true then A else B := by rw [if_pos e]; exact h
theorem iteN {c : Bool} {A B : Prop} (e : c = false) (h : B) : if c = true then A else B := by rw [e]; exact iteF h
def dS (d : Dir) : V := .str ⟨#[ch d]⟩
theorem plS_at {p : Pl} {i c : Nat} (h : (plS p).cps[i]? = some c) : ∃ d, p[i]? = some d ∧ c = ch d := by
  simp only [plS, List.getElem?_toArray, List.getElem?_map] at h
  obtain ⟨d, hd, rfl⟩ := Option.map_eq_some_iff.mp h
  exact ⟨d, hd, rfl⟩
theorem plS_size (p : Pl) : (plS p).cps.size = p.length := by simp [plS]
/-! ### index_of -/
def spIndex (K : PySem.W.Frag) : Sp := fun vs H Q _ => ∃ (v : V) (tg : Bool) (t s : Tm) (p : Pl), vs = [v, .str (plS p)] ∧ Dp K H v (tmD tg t) ∧ sub t p = some s ∧ Q (.int (idx t p : Nat)) H
theorem ok_index_of (F : At K mg "index_of" s_index_of ["nodes", "place"]) (B : Blt mg) (D1 : Has P w K mg base CX0 1 "end_of" ["nodes", "start"] (spEnd K)) : Has P w K mg base CX0 2 "index_of" ["nodes", "place"] (spIndex K) := F.has fun f fd F => by
  obtain ⟨f1, fd1, G_end_of, m_end_of, k_end_of, b_end_of⟩ := D1.ex
  refine F.ok sc_index_of (fun vs H Q E h => ?_) (fun cdv A outer s H vs Q E hr h => ?_)
  · obtain ⟨_, _, _, _, _, rfl, _⟩ := h
    rfl
  obtain ⟨v, tg, t, s, p, rfl, hv, hsb, q⟩ := h
  refine ⟨_, (pss_cons (ps_set (i := 2) sc_index_of.nd rfl (Or.inl rfl) pe_int)
    (pss_cons (ps_for PassesOwn.never rfl (pi_str (pv 1)) (pg_name (i := 3) sc_index_of.nd rfl (Or.inl rfl))
      (pss_cons (ps_set (i := 4) sc_index_of.nd rfl (Or.inl rfl) (pe_nth (mo_var 0) (mo_var 2) (pe_ix ix_tup (pv 0) (pv 2) (fun _ _ => rfl))))
      (pss_cons (ps_if (pt_val (pe_isInt (mo_var 4) (pe_callB call_isi (by rfl) B.m_isinstance (by decide +kernel) (pa_cons (pv 4) (pa_cons (pe_bltn (v := .ty "int") (by rfl) B.m_int (by decide +kernel) rfl) pa_nil)))))
        (pss_one (ps_ret (pe_un un_neg pe_int)))
        pss_nil)
      (pss_one (ps_if (PW.pt (pw_and (pt_eqApp (mo_var 4) (pt_cmpR (op_eqD hr.units) (pv 4) pe_str (nomark _))) (pw_and1 (pt_cmpR op_eq (pv 3) pe_str (nomark _)))))
        (pss_one (ps_set (i := 2) sc_index_of.nd rfl (Or.inl rfl) (pe_call G_end_of (hr.mono (by first | decide | omega)) (by rfl) m_end_of k_end_of b_end_of .nil pass0 (pa_cons (pv 0) (pa_cons (pe_op op_add (pv 2) pe_int) pa_nil)))))
        (pss_one (ps_if (PW.pt (pw_or (PW.pt (pw_and (pt_eqApp (mo_var 4) (pt_cmpR (op_eqD hr.units) (pv 4) pe_str (nomark _))) (pw_and1 (pt_cmpR op_eq (pv 3) pe_str (nomark _))))) (pw_or1 (PW.pt (pw_and (pt_neApp (mo_var 4) (pt_cmpR (op_neD hr.units) (pv 4) pe_str (nomark _))) (pw_and1 (pt_cmpR op_eq (pv 3) pe_str (nomark _))))))))
          (pss_one (ps_aug (i := 2) sc_index_of.nd rfl (Or.inl rfl) pe_int ip_add))
          (pss_one (ps_ret (pe_un un_neg pe_int))))))))))
    (pss_one (ps_ret (pv 2))))), ?_⟩
  refine ⟨_, rfl, _, rfl, for_it (walk_str (z := plS p)) (fun i σ H' => H' = H ∧ ∃ (p0 p1 : Pl) (s0 : Tm) (pre post : List Nd) (y3 y4 : Option V), p = p0 ++ p1 ∧ p0.length = i ∧ sub s0 p1 = some s ∧ flat t = pre ++ (flat s0 ++ post) ∧ idx t p = pre.length + idx s0 p1 ∧
    σ = [some v, some (.str (plS p)), some (.int (pre.length : Nat)), y3, y4]) ?_ (fun _ _ _ _ _ => trivial) ?_ ?_⟩
  · exact ⟨rfl, [], p, t, [], [], none, none, rfl, rfl, hsb, by simp, by simp, rfl⟩
  · rintro i x σ H1 H' hi ⟨rfl, p0, p1, s0, pre, post, y3, y4, ep, rfl, e1, e2, e3, rfl⟩ ⟨rfl, c, hc, rfl⟩
    obtain ⟨d, hd, rfl⟩ := plS_at hc
    rw [ep, List.getElem?_append_right (Nat.le_refl _), Nat.sub_self] at hd
    cases p1 with
    | nil => simp at hd
    | cons d' p1 =>
      simp only [List.getElem?_cons_zero, Option.some.injEq] at hd
      subst hd
      have hget : (flat t)[pre.length]? = some (hdN s0) := by
        rw [e2, List.getElem?_append_right (Nat.le_refl _), Nat.sub_self, flat_cons]; rfl
      have e0 : p = (p0 ++ [d']) ++ p1 := by rw [ep]; simp
      refine ⟨_, rfl, _, rfl, tg, _, pre.length, hdN s0, hv, rfl, hget, fun x hxd => ?_⟩
      cases s0 with
      | var n => exact absurd e1 (by cases d' <;> simp [sub])
      | app g u =>
        refine ⟨_, rfl, tg, _, hxd, _, rfl, iteF ?_⟩
        refine ⟨_, rfl, tg, _, hxd, iteT ?_⟩
        cases d' with
        | b => exact absurd e1 (by simp [sub])
        | a =>
          refine ⟨_, rfl, rfl, _, rfl, iteP (by decide +kernel) ?_⟩
          refine ⟨_, rfl, _, rfl, _, _, rfl, rfl, ?_⟩
          refine ⟨v, tg, pre ++ [.app], g, flat u ++ post, by simp, ?_, ?_⟩
          · rw [show pre ++ [Nd.app] ++ (flat g ++ (flat u ++ post)) = flat t by rw [e2]; simp [flat]]; exact hv
          · refine ⟨rfl, p0 ++ [.a], p1, u, pre ++ (.app :: flat g), post, some (dS .a), some x, e0, by simp, e1, ?_, ?_, ?_⟩
            · rw [e2]; simp [flat]
            · rw [e3]; simp [idx, flat_len]; omega
            · rw [show (pre ++ [Nd.app]).length + sz g = (pre ++ Nd.app :: flat g).length by simp [flat_len]; omega]; rfl
        | f =>
          refine ⟨_, rfl, rfl, _, rfl, iteN (by decide +kernel) ?_⟩
          refine ⟨_, rfl, tg, _, hxd, iteT ?_⟩
          refine ⟨_, rfl, rfl, _, rfl, iteP (by decide +kernel) ?_⟩
          refine iteT ?_
          refine ⟨_, rfl, _, _, rfl, rfl, rfl, p0 ++ [.f], p1, g, pre ++ [.app], flat u ++ post, some (dS .f), some x, e0, by simp, e1, ?_, ?_, ?_⟩
          · rw [e2]; simp [flat]
          · rw [e3]; simp [idx]; omega
          · rw [show (pre ++ [Nd.app]).length = pre.length + 1 by simp]; rfl
      | lam m b =>
        refine ⟨_, rfl, tg, _, hxd, _, rfl, iteF ?_⟩
        refine ⟨_, rfl, tg, _, hxd, iteF ?_⟩
        cases d' with
        | a => exact absurd e1 (by simp [sub])
        | f => exact absurd e1 (by simp [sub])
        | b =>
          refine iteF ?_
          refine ⟨_, rfl, tg, _, hxd, iteF ?_⟩
          refine iteF ?_
          refine ⟨_, rfl, tg, _, hxd, iteT ?_⟩
          refine ⟨_, rfl, rfl, _, rfl, iteP (by decide +kernel) ?_⟩
          refine ⟨_, rfl, _, _, rfl, rfl, rfl, p0 ++ [.b], p1, b, pre ++ [.lam m], post, some (dS .b), some x, e0, by simp, e1, ?_, ?_, ?_⟩
          · rw [e2]; simp [flat]
          · rw [e3]; simp [idx]; omega
          · rw [show (pre ++ [Nd.lam m]).length = pre.length + 1 by simp]; rfl
  · rintro σ H' ⟨rfl, p0, p1, s0, pre, post, y3, y4, ep, el, e1, e2, e3, rfl⟩
    have : p1 = [] := by
      have := congrArg List.length ep
      rw [plS_size] at el
      simp at this
      exact List.length_eq_zero_iff.mp (by omega)
    subst this
    rw [idx_nil, Nat.add_zero] at e3
    refine ⟨_, rfl, ?_⟩
    rw [← e3]; exact q
/-! ### comes_before -/
theorem beforeB_pre (c p q : Pl) : beforeB (c ++ p) (c ++ q) = beforeB p q := by
  induction c with
  | nil => rfl
  | cons d c ih => simp [beforeB, ih]
def spBefore : Sp := fun vs H Q _ => ∃ (p q : Pl), vs = [.str (plS p), .str (plS q)] ∧ p.length ≤ 30000 ∧ q.length ≤ 30000 ∧ ∀ H', Same H H' → Q (.bl (beforeB p q)) H'
theorem sk_pl {p : Pl} {i : Nat} {x : V} (h : (SK.vals (plS p))[i]? = some x) : ∃ d, p[i]? = some d ∧ x = dS d := by
  simp only [SK.vals, plS, List.getElem?_map] at h
  obtain ⟨c, hc, rfl⟩ := Option.map_eq_some_iff.mp h
  obtain ⟨d, hd, rfl⟩ := Option.map_eq_some_iff.mp hc
  exact ⟨d, hd, rfl⟩
theorem dS_eq (d e : Dir) : decide (dS d = dS e) = decide (d = e) := by cases d <;> cases e <;> decide +kernel
theorem ok_comes_before (F : At K mg "comes_before" s_comes_before ["first", "second"]) (B : Blt mg) : Has P w K mg base CX0 1 "comes_before" ["first", "second"] spBefore := F.has fun f fd F => by
  refine F.ok sc_comes_before (fun vs H Q E h => ?_) (fun cdv A outer s H vs Q E hr h => ?_)
  · obtain ⟨_, _, rfl, _⟩ := h
    rfl
  obtain ⟨p, q, rfl, hp1, hq1, hq⟩ := h
  refine ⟨_, (pss_cons (ps_for PassesOwn.never rfl (pi_zipK (by rfl) B.m_zip (pa_cons (pv 0) (pa_cons (pv 1) pa_nil))) (pg_tup rfl (pgs_cons (pg_name (i := 2) sc_comes_before.nd rfl (Or.inl rfl)) (pgs_cons (pg_name (i := 3) sc_comes_before.nd rfl (Or.inl rfl)) pgs_nil)))
      (pss_one (ps_if (pt_cmpR op_ne (pv 2) (pv 3) (nomark _))
        (pss_one (ps_ret (pe_cmpR op_eq (pv 2) pe_str (nomark _))))
        pss_nil)))
    (pss_one (ps_ret (pe_cmpR op_lt (pe_callB call_len_str (by rfl) B.m_len (by decide +kernel) (pa_cons (pv 0) pa_nil)) (pe_callB call_len_str (by rfl) B.m_len (by decide +kernel) (pa_cons (pv 1) pa_nil)) (nomark _))))), ?_⟩
  refine ⟨_, rfl, _, rfl, .txt (plS p), .txt (plS q), SK.vals (plS p), SK.vals (plS q), rfl, rfl, rfl, for_it (walk_zipK (xs := SK.vals (plS p)) (ys := SK.vals (plS q)) (n := min p.length q.length) (by simp [SK.vals, plS])) (fun i σ H' => Same H H' ∧ ∃ (c p1 q1 : Pl) (y3 y4 : Option V), p = c ++ p1 ∧ q = c ++ q1 ∧ c.length = i ∧
    σ = [some (.str (plS p)), some (.str (plS q)), y3, y4]) ?_ (fun _ _ _ _ _ => ⟨rfl, rfl⟩) ?_ ?_⟩
  · exact ⟨Same.refl _, [], p, q, none, none, rfl, rfl, rfl, rfl⟩
  · rintro i x σ H' H3 hi ⟨S, c, p1, q1, y3, y4, ep, eq, rfl, rfl⟩ ⟨T, x, y, rfl, hT, rfl, hx, hy⟩
    obtain ⟨d, hd, rfl⟩ := sk_pl hx
    obtain ⟨e, he, rfl⟩ := sk_pl hy
    rw [ep, List.getElem?_append_right (Nat.le_refl _), Nat.sub_self] at hd
    rw [eq, List.getElem?_append_right (Nat.le_refl _), Nat.sub_self] at he
    cases p1 with
    | nil => simp at hd
    | cons d' p1 =>
      cases q1 with
      | nil => simp at he
      | cons e' q1 =>
        simp only [List.getElem?_cons_zero, Option.some.injEq] at hd he
        subst hd he
        have S3 := S.trans (same_upd (o := .tup [dS d', dS e']) hT)
        refine ⟨T, [dS d', dS e'], rfl, SqT.of upd_same, rfl, dS d', [dS e'], rfl, dS e', [], rfl, rfl, ?_⟩
        refine ⟨_, rfl, _, rfl, rfl, _, rfl, ?_⟩
        by_cases h : d' = e'
        · subst h
          refine iteN (by simp) ?_
          exact ⟨S3, c ++ [d'], p1, q1, some (dS d'), some (dS d'), by rw [ep]; simp, by rw [eq]; simp, by simp, rfl⟩
        · refine iteP (by have := dS_eq d' e'; rw [decide_eq_false h] at this; simp at this; simp [this]) ?_
          refine ⟨_, rfl, rfl, ?_⟩
          have r : decide (dS d' = V.str (Str.ofString "f")) = beforeB p q := by
            rw [ep, eq, beforeB_pre]
            simp only [beforeB, if_neg h]
            cases d' <;> decide +kernel
          show Q (.bl (decide (dS d' = V.str (Str.ofString "f")))) _
          rw [r]
          exact hq _ S3
  · rintro σ H' ⟨S, c, p1, q1, y3, y4, ep, eq, el, rfl⟩
    have hl := congrArg List.length ep
    have hl2 := congrArg List.length eq
    simp only [List.length_append] at hl hl2
    refine ⟨_, rfl, _, rfl, sl_ok (by show (plS p).cps.size ≤ _; rw [plS_size]; omega), _, rfl, _, rfl, sl_ok (by show (plS q).cps.size ≤ _; rw [plS_size]; omega), _, _, rfl, rfl, ?_⟩
    have r : decide ((((plS p).cps.size : Nat) : Int) < (((plS q).cps.size : Nat) : Int)) = beforeB p q := by
      rw [plS_size, plS_size, ep, eq, beforeB_pre]
      cases p1 with
      | nil =>
        cases q1 with
        | nil => simp [beforeB]
        | cons e q1 => simp [beforeB]; omega
      | cons d p1 =>
        cases q1 with
        | nil => simp [beforeB]; omega
        | cons e q1 => simp at hl hl2; omega
    show Q (.bl (decide ((((plS p).cps.size : Nat) : Int) < (((plS q).cps.size : Nat) : Int)))) _
    rw [r]
    exact hq _ S
/-! ### is_redex -/
def spRedex (K : PySem.W.Frag) : Sp := fun vs H Q _ => ∃ (v : V) (tg : Bool) (pre post : List Nd) (s : Tm), vs = [v, .int (pre.length : Nat)] ∧ Dp K H v (.tuple ((pre ++ (flat s ++ post)).map (ndD tg))) ∧ Q (.bl (redm s).isSome) H
theorem ok_is_redex (F : At K mg "is_redex" s_is_redex ["nodes", "at"]) (B : Blt mg) : Has P w K mg base CX0 1 "is_redex" ["nodes", "at"] (spRedex K) := F.has fun f fd F => by
  refine F.ok sc_is_redex (fun vs H Q E h => ?_) (fun cdv A outer s H vs Q E hr h => ?_)
  · obtain ⟨_, _, _, _, _, rfl, _⟩ := h
    rfl
  obtain ⟨v, tg, pre, post, s, rfl, hv, q⟩ := h
  refine ⟨_, (pss_one (ps_ret (pe_and (pe_eqApp (mo_nth (mo_var 0) (mo_var 1)) (pe_cmpR (op_eqD hr.units) (pe_nth (mo_var 0) (mo_var 1) (pe_ix ix_tup (pv 0) (pv 1) (fun _ _ => rfl))) pe_str (nomark _))) (pe_and (pe_neApp (mo_nth (mo_var 0) (mo_I0 (mo_var 1) (mo_c _))) (pe_cmpR (op_neD hr.units) (pe_nth (mo_var 0) (mo_I0 (mo_var 1) (mo_c _)) (pe_ix ix_tup (pv 0) (pe_op op_add (pv 1) pe_int) (fun _ _ => rfl))) pe_str (nomark _))) (pe_one (pe_not (pe_isInt (mo_nth (mo_var 0) (mo_I0 (mo_var 1) (mo_c _))) (pe_callB call_isi (by rfl) B.m_isinstance (by decide +kernel) (pa_cons (pe_nth (mo_var 0) (mo_I0 (mo_var 1) (mo_c _)) (pe_ix ix_tup (pv 0) (pe_op op_add (pv 1) pe_int) (fun _ _ => rfl))) (pa_cons (pe_bltn (v := .ty "int") (by rfl) B.m_int (by decide +kernel) rfl) pa_nil)))))))))), ?_⟩
  have hget : (pre ++ (flat s ++ post))[pre.length]? = some (hdN s) := by
    rw [List.getElem?_append_right (Nat.le_refl _), Nat.sub_self, flat_cons]; rfl
  refine ⟨_, rfl, _, rfl, tg, _, pre.length, _, hv, rfl, hget, fun x hx => ⟨tg, _, hx, _, rfl, ?_⟩⟩
  cases s with
  | var n => exact iteF q
  | lam m b => exact iteF q
  | app g u =>
    refine iteT ?_
    have hget2 : (pre ++ (flat (.app g u) ++ post))[pre.length + 1]? = some (hdN g) := by
      rw [List.getElem?_append_right (by omega), Nat.add_sub_cancel_left]
      simp [flat, flat_cons g]
    refine ⟨_, rfl, _, rfl, _, _, rfl, rfl, tg, _, pre.length + 1, _, hv, rfl, hget2, fun x hx => ⟨tg, _, hx, _, rfl, ?_⟩⟩
    cases g with
    | app g1 g2 => exact iteF q
    | var n =>
      refine iteT ?_
      exact ⟨_, rfl, _, rfl, _, _, rfl, rfl, tg, _, pre.length + 1, _, hv, rfl, hget2, fun x hx => ⟨tg, _, hx, _, rfl, q⟩⟩
    | lam m b =>
      refine iteT ?_
      exact ⟨_, rfl, _, rfl, _, _, rfl, rfl, tg, _, pre.length + 1, _, hv, rfl, hget2, fun x hx => ⟨tg, _, hx, _, rfl, q⟩⟩
/-! ### cutting and joining tuples -/
theorem cut_eq {ds : List PyData} {xs : List V} {H : Hp} {lo hi : Option Int} {i j : Nat} (h : DpAll K H xs ds) (e1 : HT.sIx ds.length 0 lo = i) (e2 : HT.sIx ds.length ds.length hi = j) : DpAll K H (cutV xs lo hi) ((ds.drop i).take (j - i)) := by
  unfold cutV
  rw [dpa_len h, e1, e2]
  exact dpa_take _ (dpa_drop _ h)
theorem slA {H : Hp} {v : V} {a b c : List PyData} {lo hi : Option Int} {Q : VK} (hv : Dp K H v (.tuple (a ++ (b ++ c)))) (e1 : HT.sIx (a ++ (b ++ c)).length 0 lo = a.length) (e2 : HT.sIx (a ++ (b ++ c)).length (a ++ (b ++ c)).length hi = a.length + b.length)
    (h : ∀ H' r, Same H H' → Dp K H' r (.tuple b) → Q r H') : rSlA K v lo hi H Q := by
  obtain ⟨p, xs, rfl, hs, ha⟩ := dp_tup hv
  have hl := dpa_len ha
  have hc := cut_eq ha e1 e2
  rw [List.drop_left, Nat.add_sub_cancel_left, List.take_left] at hc
  refine ⟨p, xs, rfl, hs, fun he => ?_, fun _ l nl => h _ _ (same_upd nl) (.tup (SqT.of upd_same) (dpa_mono (same_upd nl) hc))⟩
  rw [hl, e1, e2] at he
  simp only [List.length_append] at he
  have ea : a = [] := List.length_eq_zero_iff.mp he.1
  have ec : c = [] := List.length_eq_zero_iff.mp (by omega)
  subst ea ec
  exact h _ _ (Same.refl _) (by simpa using hv)
theorem catA {H : Hp} {x y : V} {ds es : List PyData} {Q : VK} (hx : Dp K H x (.tuple ds)) (hy : Dp K H y (.tuple es)) (hl : ds.length + es.length ≤ 4000000) (h : ∀ H' r, Same H H' → Dp K H' r (.tuple (ds ++ es)) → Q r H') : rCatA K x y H Q := by
  obtain ⟨a, xs, rfl, hs, ha⟩ := dp_tup hx
  obtain ⟨b, ys, rfl, ht, hb⟩ := dp_tup hy
  have l1 := dpa_len ha
  have l2 := dpa_len hb
  refine ⟨a, b, xs, ys, rfl, rfl, hs, ht, sl_ok (by omega), fun e => ?_, fun _ e => ?_, fun _ _ p np => ?_⟩
  · subst e
    have : ds = [] := List.length_eq_zero_iff.mp l1.symm
    subst this
    exact h _ _ (Same.refl _) hy
  · subst e
    have : es = [] := List.length_eq_zero_iff.mp l2.symm
    subst this
    exact h _ _ (Same.refl _) (by rw [List.append_nil]; exact hx)
  · exact h _ _ (same_upd np) (.tup (SqT.of upd_same) (dpa_mono (same_upd np) (dpa_app ha hb)))
end
end Ly

/-! W7: stepped, follow, the law's step. -/
namespace Ly
open PySem PySem.Spec PyProof.Rows L2
section
variable {P : Program} {w : World} {K : PySem.W.Frag} {mg : Str → Option Value} {base : Heap}
theorem ch_inj {d e : Dir} (h : ch d = ch e) : d = e := by cases d <;> cases e <;> first | rfl | (exact absurd h (by decide))
theorem plS_inj {p q : Pl} (h : plS p = plS q) : p = q := by
  have h1 : p.map ch = q.map ch := by
    have := congrArg (fun s : Str => s.cps.toList) h
    simpa [plS] using this
  induction p generalizing q with
  | nil => cases q with | nil => rfl | cons _ _ => simp at h1
  | cons d p ih =>
    cases q with
    | nil => simp at h1
    | cons e q =>
      simp only [List.map_cons, List.cons.injEq] at h1
      rw [ch_inj h1.1, ih (by simp [plS, h1.2]) h1.2]
theorem eqS_pl (p q : Pl) : (plS p == plS q) = decide (p = q) := by
  by_cases h : p = q
  · subst h; simp
  · rw [decide_eq_false h]; exact beq_eq_false_iff_ne.mpr fun e => h (plS_inj e)
theorem pL_flat (l : List Pl) : (pL l).all flatV = true := by simp [pL, flatV]
theorem pL_at {l : List Pl} {i : Nat} {p : Pl} (h : l[i]? = some p) : (pL l)[i]? = some (.str (plS p)) := by simp [pL, h]
theorem pL_get {l : List Pl} {i : Nat} {x : V} (h : (pL l)[i]? = some x) : ∃ p, l[i]? = some p ∧ x = .str (plS p) := by
  simp only [pL, List.getElem?_map] at h
  obtain ⟨d, hd, rfl⟩ := Option.map_eq_some_iff.mp h
  exact ⟨d, hd, rfl⟩
theorem idx_no {t s : Tm} {p : Pl} (hs : sub t p = some s) : ∀ (m : Nat) (z' : V), m < idx t p → (pL (pls t))[m]? = some z' → eqV z' (.str (plS p)) = false := fun m z hm hz => by
  have hi := pls_idx hs
  obtain ⟨r, hr, rfl⟩ := pL_get hz
  show (plS r == plS p) = false
  rw [eqS_pl, decide_eq_false]
  rintro rfl
  have hnd := pls_nodup t
  obtain ⟨l1, e1⟩ := List.getElem?_eq_some_iff.mp hr
  obtain ⟨l2, e2⟩ := List.getElem?_eq_some_iff.mp hi
  have := (List.getElem_inj hnd).mp (e1.trans e2.symm)
  omega
theorem eqV_refl (p : Pl) : eqV (.str (plS p)) (.str (plS p)) = true := by simp [eqV]
theorem sIx0 (n : Nat) (k : Nat) (h : k ≤ n) : HT.sIx n 0 (some ((k : Nat) : Int)) = k := by rw [HT.sIx_nat]; omega
theorem sIxn (n m : Nat) (k : Nat) (h : k ≤ n) : HT.sIx n m (some ((k : Nat) : Int)) = k := by rw [HT.sIx_nat]; omega
/-- a part of a term's nodes -/
theorem slN {H : Hp} {v : V} {tg : Bool} {ns a b c : List Nd} {lo hi : Option Int} {Q : VK} (hv : Dp K H v (.tuple (ns.map (ndD tg)))) (e : ns = a ++ (b ++ c)) (e1 : lo = some ((a.length : Nat) : Int) ∨ (lo = none ∧ a = [])) (e2 : hi = some (((a.length + b.length : Nat)) : Int) ∨ (hi = none ∧ c = []))
    (h : ∀ H' r, Same H H' → Dp K H' r (.tuple (b.map (ndD tg))) → Q r H') : rSlA K v lo hi H Q := by
  subst e
  rw [List.map_append, List.map_append] at hv
  refine slA hv ?_ ?_ h
  · rcases e1 with rfl | ⟨rfl, rfl⟩
    · rw [sIxn _ _ _ (by simp)]; simp
    · rfl
  · rcases e2 with rfl | ⟨rfl, rfl⟩
    · rw [sIxn _ _ _ (by simp <;> omega)]; simp
    · simp [HT.sIx_none]
theorem catN {H : Hp} {x y : V} {tg : Bool} {a b : List Nd} {Q : VK} (hx : Dp K H x (.tuple (a.map (ndD tg)))) (hy : Dp K H y (.tuple (b.map (ndD tg)))) (hl : a.length + b.length ≤ 4000000) (h : ∀ H' r, Same H H' → Dp K H' r (.tuple ((a ++ b).map (ndD tg))) → Q r H') : rCatA K x y H Q :=
  catA hx hy (by simpa using hl) (by rw [← List.map_append]; exact h)
/-- the pieces of a step -/
structure Pieces (t : Tm) (p : Pl) (m : Mk) (c t1 : Tm) (b v : Tm) (pre post : List Nd) : Prop where
  sb : sub t p = some (.app (.lam m b) v)
  ec : c = put v 0 b
  et : flat t = pre ++ (flat (.app (.lam m b) v) ++ post)
  len : pre.length = idx t p
  et1 : flat t1 = pre ++ (flat c ++ post)
theorem StpC.pieces {t : Tm} {p : Pl} {m : Mk} {c t1 : Tm} (h : StpC t p m c t1) : ∃ b v pre post, Pieces t p m c t1 b v pre post := by
  obtain ⟨b, v, pre, post, h1, h2, h3, h4, h5⟩ := h.flat
  exact ⟨b, v, pre, post, h1, h2, h3, h4, h5⟩
theorem Pieces.szs {t : Tm} {p : Pl} {m : Mk} {c t1 : Tm} {b v : Tm} {pre post : List Nd} (h : Pieces t p m c t1 b v pre post) : sz t = pre.length + (2 + sz b + sz v) + post.length := by
  have := congrArg List.length h.et
  simp only [flat, flat_len, List.length_append, List.length_cons] at this
  omega
/-! ### stepped -/
def spStepped (K : PySem.W.Frag) (C : Addr) : Sp := fun vs H Q E => ∃ (v : V) (tg : Bool) (t t1 : Tm) (p : Pl) (m : Mk), vs = [v, .str (plS p)] ∧ Dp K H v (tmD tg t) ∧ Stp t p m t1 ∧ sz t ≤ 1000 ∧
  (stepC t p = none → ∀ H', Same H H' → E (.ref C) none H') ∧ (stepC t p = some (m, t1) → ∀ H' r, Same H H' → Dp K H' r (tmD tg t1) → Q r H')
theorem ok_stepped {CT CN : Addr} {t1 t2 t3 : Tok} (F : At K mg "stepped" s_stepped ["nodes", "place"]) (B : Blt mg) (C : Cst mg t1 t2 t3) (XT : Exc K mg "TooLarge" CT) (XN : Exc K mg "NoRedex" CN)
    (D1 : Has P w K mg base CX0 2 "index_of" ["nodes", "place"] (spIndex K)) (D2 : Has P w K mg base CX0 1 "is_redex" ["nodes", "at"] (spRedex K)) (D3 : Has P w K mg base CX0 1 "end_of" ["nodes", "start"] (spEnd K))
    (D4 : Has P w K mg base (L2.CX P w) 3 "placed" ["nodes", "value"] (spPlaced K CT)) : Has P w K mg base (L2.CX P w) 4 "stepped" ["nodes", "place"] (spStepped K CT) := F.has fun f fd F => by
  obtain ⟨f1, fd1, G_index_of, m_index_of, k_index_of, b_index_of⟩ := D1.ex
  obtain ⟨f2, fd2, G_is_redex, m_is_redex, k_is_redex, b_is_redex⟩ := D2.ex
  obtain ⟨f3, fd3, G_end_of, m_end_of, k_end_of, b_end_of⟩ := D3.ex
  obtain ⟨f4, fd4, G_placed, m_placed, k_placed, b_placed⟩ := D4.ex
  refine F.okX sc_stepped (fun vs H Q E h => ?_) (fun cdv A outer s H vs Q E hr h => ?_)
  · obtain ⟨_, _, _, _, _, _, rfl, _⟩ := h
    rfl
  obtain ⟨v, tg, t, t1, p, m, rfl, hv, hst, hsz, hbad, hgood⟩ := h
  refine ⟨_, (pss_cons (ps_set (i := 2) sc_stepped.nd rfl (Or.inl rfl) (pe_call G_index_of (hr.mono (by first | decide | omega)) (by rfl) m_index_of k_index_of b_index_of .nil pass0 (pa_cons (pv 0) (pa_cons (pv 1) pa_nil))))
    (pss_cons (ps_if (PW.pt (pw_or (pt_cmpR op_lt (pv 2) pe_int (nomark _)) (pw_or1 (pt_not (pt_val (pe_call G_is_redex (hr.mono (by first | decide | omega)) (by rfl) m_is_redex k_is_redex b_is_redex .nil pass0 (pa_cons (pv 0) (pa_cons (pv 2) pa_nil))))))))
      (pss_one (ps_raise rfl (takes_of rfl rfl rfl rfl) (pmk_own PySem.F.excBase_ValueError XN.x XN.g XN.k (raises_own XN.b XN.t) (by rfl))))
      pss_nil)
    (pss_cons (ps_set (i := 3) sc_stepped.nd rfl (Or.inl rfl) (pe_call G_end_of (hr.mono (by first | decide | omega)) (by rfl) m_end_of k_end_of b_end_of .nil pass0 (pa_cons (pv 0) (pa_cons (pe_op op_add (pv 2) pe_int) pa_nil))))
    (pss_cons (ps_set (i := 4) sc_stepped.nd rfl (Or.inl rfl) (pe_call G_end_of (hr.mono (by first | decide | omega)) (by rfl) m_end_of k_end_of b_end_of .nil pass0 (pa_cons (pv 0) (pa_cons (pv 3) pa_nil))))
    (pss_cons (ps_set (i := 5) sc_stepped.nd rfl (Or.inl rfl) (pe_op op_catA (pe_op op_catA (pe_slice sl_tupA (pv 0) po_none (po_some (pv 2))) (pe_call G_placed (hr.mono (by first | decide | omega)) (by rfl) m_placed k_placed b_placed .nil (passes_call (takes_of rfl rfl rfl rfl) (fun _ _ _ _ h => h)) (pa_cons (pe_slice sl_tupA (pv 0) (po_some (pe_op op_add (pv 2) pe_int)) (po_some (pv 3))) (pa_cons (pe_slice sl_tupA (pv 0) (po_some (pv 3)) (po_some (pv 4))) pa_nil)))) (pe_slice sl_tupA (pv 0) (po_some (pv 4)) po_none)))
    (pss_cons (ps_if (pt_cmpR op_gt (pe_callB call_len_seq (by rfl) B.m_len (by decide +kernel) (pa_cons (pv 5) pa_nil)) (pe_glob (v := .int 1000) (by rfl) C.g_MOST_NODES ⟨_, rfl⟩) (nomark _))
      (pss_one (ps_raise rfl (takes_of rfl rfl rfl rfl) (pmk_own PySem.F.excBase_ValueError XT.x XT.g XT.k (raises_own XT.b XT.t) (by rfl))))
      pss_nil)
    (pss_one (ps_ret (pv 5))))))))), ?_⟩
  obtain ⟨c, hc⟩ := hst.stpC
  obtain ⟨b, u, pre, post, Z⟩ := hc.pieces
  have zs := Z.szs
  have hv' : Dp K H v (.tuple ((pre ++ (flat (.app (.lam m b) u) ++ post)).map (ndD tg))) := by rw [← Z.et]; exact hv
  refine ⟨_, rfl, _, rfl, v, tg, t, _, p, rfl, hv, Z.sb, ?_⟩
  rw [← Z.len]
  refine ⟨_, rfl, _, _, rfl, rfl, _, rfl, ?_⟩
  refine iteN (decide_eq_false (by omega)) ?_
  refine ⟨_, rfl, _, rfl, v, tg, pre, post, _, rfl, hv', _, rfl, iteF ?_⟩
  -- the ends
  refine ⟨_, rfl, _, rfl, _, _, rfl, rfl, v, tg, pre ++ [.app], .lam m b, flat u ++ post, by simp, ?_, ?_⟩
  · rw [show pre ++ [Nd.app] ++ (flat (.lam m b) ++ (flat u ++ post)) = flat t by rw [Z.et]; simp [flat]]; exact hv
  rw [show (pre ++ [Nd.app]).length + sz (.lam m b) = (pre ++ (.app :: flat (.lam m b))).length by simp [flat_len]; omega]
  refine ⟨_, rfl, _, rfl, v, tg, pre ++ (.app :: flat (.lam m b)), u, post, rfl, ?_, ?_⟩
  · rw [show pre ++ (Nd.app :: flat (.lam m b)) ++ (flat u ++ post) = flat t by rw [Z.et]; simp [flat]]; exact hv
  -- nodes[:at]
  refine ⟨_, rfl, ⟨_, rfl, _, rfl, ?_⟩⟩
  refine slN (a := []) (b := pre) (c := flat (.app (.lam m b) u) ++ post) hv' rfl (.inr ⟨rfl, rfl⟩) (.inl (by simp)) fun H1 r1 S1 hr1 => ?_
  -- placed(nodes[at + 2:middle], nodes[middle:end])
  have hv1 := dp_mono S1 hv
  have eL : flat t = (pre ++ [.app, .lam m]) ++ (flat b ++ (flat u ++ post)) := by rw [Z.et]; simp [flat]
  have eR : flat t = (pre ++ (.app :: flat (.lam m b))) ++ (flat u ++ post) := by rw [Z.et]; simp [flat]
  have eP : flat t = (pre ++ flat (.app (.lam m b) u)) ++ (post ++ []) := by rw [Z.et]; simp
  refine ⟨_, rfl, _, rfl, _, _, rfl, rfl, _, rfl, _, rfl, _, rfl, ?_⟩
  refine slN hv1 eL (.inl (by simp)) (.inl (by simp [flat, flat_len]; omega)) fun H2 r2 S2 hr2 => ?_
  have hv2 := dp_mono S2 hv1
  refine ⟨_, rfl, _, rfl, _, rfl, _, rfl, _, rfl, ?_⟩
  refine slN hv2 eR (.inl rfl) (.inl (by simp [flat_len])) fun H3 r3 S3 hr3 => ?_
  have S13 := S2.trans S3
  refine ⟨r2, r3, tg, b, u, rfl, dp_mono S3 hr2, hr3, by omega, by omega, fun hb H' S' => ?_, fun hb H4 r4 S4 hr4 => ?_⟩
  · refine hbad ?_ H' ((S1.trans S13).trans S')
    rw [stepC_of hc, if_pos]
    rw [Z.ec]
    have := hc.sz_le
    rw [Z.ec] at this
    rcases hb with hb | hb
    · exact .inr (by omega)
    · exact .inl hb
  have S14 := S13.trans S4
  have hcz : sz c ≤ 1000 := by
    rw [Z.ec]
    have : ¬ sz (put u 0 b) > 1000 := fun z => hb (.inl z)
    omega
  rw [← Z.ec] at hr4
  refine catN (dp_mono S14 hr1) hr4 (by rw [flat_len]; omega) fun H5 r5 S5 hr5 => ?_
  have S5' := ((S1.trans S14).trans S5)
  have hv5 := dp_mono S5' hv
  refine ⟨_, rfl, _, rfl, _, rfl, ?_⟩
  unfold tNoPart
  refine slN hv5 eP (.inl (by simp [flat, flat_len]; omega)) (.inr ⟨rfl, rfl⟩) fun H6 r6 S6 hr6 => ?_
  refine catN (a := pre ++ flat c) (b := post) (dp_mono S6 hr5) hr6 (by rw [List.length_append, flat_len]; omega) fun H7 r7 S7 hr7 => ?_
  have S07 := (S5'.trans S6).trans S7
  rw [List.append_assoc, ← Z.et1] at hr7
  obtain ⟨a, xs, rfl, hs7, ha7⟩ := dp_tup hr7
  have hxl := dp_nodes_len ha7
  rw [flat_len] at hxl
  refine ⟨_, rfl, a, xs, rfl, .inr hs7, _, _, rfl, rfl, _, rfl, ?_⟩
  refine ite2 (fun cc => ?_) (fun cc => ?_)
  · have cc' := of_decide_eq_true cc
    refine hbad ?_ _ S07
    rw [stepC_of hc, if_pos (.inr (by omega))]
  · have cc' : ¬ sz t1 > 1000 := fun z => cc (decide_eq_true (by omega))
    refine ⟨_, rfl, ?_⟩
    refine hgood ?_ _ _ S07 hr7
    rw [stepC_of hc, if_neg]
    rintro (z | z)
    · exact hb (.inr (by rw [← Z.ec]; exact z))
    · exact cc' z
end
end Ly

/-! W8: the law's step, follow. -/
namespace Ly
open PySem PySem.Spec PyProof.Rows L2
section
variable {P : Program} {w : World} {K : PySem.W.Frag} {mg : Str → Option Value} {base : Heap}
/-! ### _law_step -/
def spLawStep (K : PySem.W.Frag) : Sp := fun vs H Q _ => ∃ (v : V) (tg : Bool) (t t1 : Tm) (p : Pl) (m : Mk), vs = [v, .str (plS p)] ∧ Dp K H v (tmD tg t) ∧ Stp t p m t1 ∧ sz t ≤ 1000 ∧ ∀ H' r, Same H H' → Dp K H' r (tmD tg t1) → Q r H'
theorem ok_law_step (F : At K mg "_law_step" s__law_step ["_law_term_here", "_law_place"]) (B : Blt mg)
    (D1 : Has P w K mg base CX0 2 "_law_places" ["_law_term_here"] (spPlaces K)) (D2 : Has P w K mg base CX0 2 "_law_end" ["_law_term_here", "_law_at"] (spEnd K))
    (D3 : Has P w K mg base CX0 4 "_law_put" ["_law_term_here", "_law_value"] (spLawPut K)) : Has P w K mg base CX0 5 "_law_step" ["_law_term_here", "_law_place"] (spLawStep K) := F.has fun f fd F => by
  obtain ⟨f1, fd1, G__law_places, m__law_places, k__law_places, b__law_places⟩ := D1.ex
  obtain ⟨f3, fd3, G__law_end, m__law_end, k__law_end, b__law_end⟩ := D2.ex
  obtain ⟨f4, fd4, G__law_put, m__law_put, k__law_put, b__law_put⟩ := D3.ex
  refine F.ok sc__law_step (fun vs H Q E h => ?_) (fun cdv A outer s H vs Q E hr h => ?_)
  · obtain ⟨_, _, _, _, _, _, rfl, _⟩ := h
    rfl
  obtain ⟨v, tg, t, t1, p, m, rfl, hv, hst, hsz, hgood⟩ := h
  refine ⟨_, (pss_cons (ps_set (i := 2) sc__law_step.nd rfl (Or.inl rfl) (pe_bm PySem.F.plainAttrs_list PySem.F.slot_list_index PySem.F.type_list_index mt_index (pe_call G__law_places (hr.mono (by first | decide | omega)) (by rfl) m__law_places k__law_places b__law_places .nil pass0 (pa_cons (pv 0) pa_nil)) (pa_cons (pv 1) pa_nil)))
    (pss_cons (ps_set (i := 3) sc__law_step.nd rfl (Or.inl rfl) (pe_call G__law_end (hr.mono (by first | decide | omega)) (by rfl) m__law_end k__law_end b__law_end .nil pass0 (pa_cons (pv 0) (pa_cons (pe_op op_add (pv 2) pe_int) pa_nil))))
    (pss_cons (ps_set (i := 4) sc__law_step.nd rfl (Or.inl rfl) (pe_call G__law_end (hr.mono (by first | decide | omega)) (by rfl) m__law_end k__law_end b__law_end .nil pass0 (pa_cons (pv 0) (pa_cons (pv 3) pa_nil))))
    (pss_one (ps_ret (pe_op op_catA (pe_op op_catA (pe_slice sl_tupA (pv 0) po_none (po_some (pv 2))) (pe_call G__law_put (hr.mono (by first | decide | omega)) (by rfl) m__law_put k__law_put b__law_put .nil pass0 (pa_cons (pe_slice sl_tupA (pv 0) (po_some (pe_op op_add (pv 2) pe_int)) (po_some (pv 3))) (pa_cons (pe_slice sl_tupA (pv 0) (po_some (pv 3)) (po_some (pv 4))) pa_nil)))) (pe_slice sl_tupA (pv 0) (po_some (pv 4)) po_none))))))), ?_⟩
  obtain ⟨c, hc⟩ := hst.stpC
  obtain ⟨b, u, pre, post, Z⟩ := hc.pieces
  have zs := Z.szs
  refine ⟨_, rfl, v, tg, t, rfl, hv, by omega, fun H0 pa S0 nd0 h0 => ⟨lty h0, _, rfl, pa, _, _, idx t p, .str (plS p), rfl, rfl, SqL.of h0, rfl, pL_flat _, pL_at (pls_idx Z.sb), eqV_refl p, idx_no Z.sb, ?_⟩⟩
  rw [← Z.len]
  have hv0 := dp_mono S0 hv
  have hv' : Dp K H0 v (.tuple ((pre ++ (flat (.app (.lam m b) u) ++ post)).map (ndD tg))) := by rw [← Z.et]; exact hv0
  -- the ends
  refine ⟨_, rfl, _, rfl, _, _, rfl, rfl, v, tg, pre ++ [.app], .lam m b, flat u ++ post, by simp, ?_, ?_⟩
  · rw [show pre ++ [Nd.app] ++ (flat (.lam m b) ++ (flat u ++ post)) = flat t by rw [Z.et]; simp [flat]]; exact hv0
  rw [show (pre ++ [Nd.app]).length + sz (.lam m b) = (pre ++ (.app :: flat (.lam m b))).length by simp [flat_len]; omega]
  refine ⟨_, rfl, _, rfl, v, tg, pre ++ (.app :: flat (.lam m b)), u, post, rfl, ?_, ?_⟩
  · rw [show pre ++ (Nd.app :: flat (.lam m b)) ++ (flat u ++ post) = flat t by rw [Z.et]; simp [flat]]; exact hv0
  refine ⟨_, rfl, ⟨_, rfl, _, rfl, ?_⟩⟩
  refine slN (a := []) (b := pre) (c := flat (.app (.lam m b) u) ++ post) hv' rfl (.inr ⟨rfl, rfl⟩) (.inl (by simp)) fun H1 r1 S1 hr1 => ?_
  have hv1 := dp_mono S1 hv0
  have eL : flat t = (pre ++ [.app, .lam m]) ++ (flat b ++ (flat u ++ post)) := by rw [Z.et]; simp [flat]
  have eR : flat t = (pre ++ (.app :: flat (.lam m b))) ++ (flat u ++ post) := by rw [Z.et]; simp [flat]
  have eP : flat t = (pre ++ flat (.app (.lam m b) u)) ++ (post ++ []) := by rw [Z.et]; simp
  refine ⟨_, rfl, _, rfl, _, _, rfl, rfl, _, rfl, _, rfl, _, rfl, ?_⟩
  refine slN hv1 eL (.inl (by simp)) (.inl (by simp [flat, flat_len]; omega)) fun H2 r2 S2 hr2 => ?_
  have hv2 := dp_mono S2 hv1
  refine ⟨_, rfl, _, rfl, _, rfl, _, rfl, _, rfl, ?_⟩
  refine slN hv2 eR (.inl rfl) (.inl (by simp [flat_len])) fun H3 r3 S3 hr3 => ?_
  have S13 := S2.trans S3
  refine ⟨r2, r3, tg, b, u, rfl, dp_mono S3 hr2, hr3, by omega, by omega, fun H4 r4 S4 hr4 => ?_⟩
  have S14 := S13.trans S4
  have hcz : sz c ≤ 1001000 := by
    rw [Z.ec]
    have h1 := sz_put_le u b 0
    have : sz b * sz u ≤ 1000 * 1000 := Nat.mul_le_mul (by omega) (by omega)
    omega
  rw [← Z.ec] at hr4
  refine catN (dp_mono S14 hr1) hr4 (by rw [flat_len]; omega) fun H5 r5 S5 hr5 => ?_
  have S5' := ((S1.trans S14).trans S5)
  have hv5 := dp_mono S5' hv0
  refine ⟨_, rfl, _, rfl, _, rfl, ?_⟩
  unfold tNoPart
  refine slN hv5 eP (.inl (by simp [flat, flat_len]; omega)) (.inr ⟨rfl, rfl⟩) fun H6 r6 S6 hr6 => ?_
  refine catN (a := pre ++ flat c) (b := post) (dp_mono S6 hr5) hr6 (by rw [List.length_append, flat_len]; omega) fun H7 r7 S7 hr7 => ?_
  have S07 := S0.trans ((S5'.trans S6).trans S7)
  rw [List.append_assoc, ← Z.et1] at hr7
  exact hgood _ _ S07 hr7
/-! ### follow -/
theorem runC_cons {t : Tm} {p : Pl} {r : List Pl} {x : List Mk × Tm} (h : runC t (p :: r) = some x) : ∃ m t1 y, stepC t p = some (m, t1) ∧ runC t1 r = some y ∧ x = (m :: y.1, y.2) := by
  simp only [runC] at h
  obtain ⟨y, h1, h2⟩ := Option.bind_eq_some_iff.mp h
  obtain ⟨z, h3, rfl⟩ := Option.map_eq_some_iff.mp h2
  exact ⟨y.1, y.2, z, h1, h3, rfl⟩
def spFollow (K : PySem.W.Frag) : Sp := fun vs H Q _ => ∃ (v : V) (a : Addr) (tg : Bool) (t : Tm) (road : List Pl) (x : List Mk × Tm), vs = [v, .ref a] ∧ Dp K H v (tmD tg t) ∧ SqL K H a (pL road) ∧ runC t road = some x ∧ sz t ≤ 1000 ∧
  ∀ H' r, Same H H' → Dp K H' r (tmD tg x.2) → Q r H'
theorem ok_follow {CT : Addr} (F : At K mg "follow" s_follow ["term", "road"]) (B : Blt mg)
    (D1 : Has P w K mg base (L2.CX P w) 4 "stepped" ["nodes", "place"] (spStepped K CT)) : Has P w K mg base (L2.CX P w) 5 "follow" ["term", "road"] (spFollow K) := F.has fun f fd F => by
  obtain ⟨f1, fd1, G_stepped, m_stepped, k_stepped, b_stepped⟩ := D1.ex
  refine F.okX sc_follow (fun vs H Q E h => ?_) (fun cdv A outer s H vs Q E hr h => ?_)
  · obtain ⟨_, _, _, _, _, _, rfl, _⟩ := h
    rfl
  obtain ⟨v, a, tg, t, road, x, rfl, hv, ha, hrun, hsz, q⟩ := h
  refine ⟨_, (pss_cons (ps_for (passes_of rfl) rfl (pi_list (pv 1)) (pg_name (i := 2) sc_follow.nd rfl (Or.inl rfl))
      (pss_one (ps_set (i := 0) sc_follow.nd rfl (Or.inl rfl) (pe_call G_stepped (hr.mono (by first | decide | omega)) (by rfl) m_stepped k_stepped b_stepped .nil (passes_call (takes_of rfl rfl rfl rfl) (fun _ _ _ _ h => h)) (pa_cons (pv 0) (pa_cons (pv 2) pa_nil))))))
    (pss_one (ps_ret (pv 0)))), ?_⟩
  refine ⟨_, rfl, a, rfl, ⟨_, ha⟩, for_list (xs := pL road) (fun i σ H' => ∃ (r0 r1 : List Pl) (t0 : Tm) (y : List Mk × Tm) (v0 : V) (y2 : Option V), Same H H' ∧ road = r0 ++ r1 ∧ r0.length = i ∧ runC t0 r1 = some y ∧ y.2 = x.2 ∧ sz t0 ≤ 1000 ∧ Dp K H' v0 (tmD tg t0) ∧
    σ = [some v0, some (.ref a), y2]) ?_ ?_ ?_ ?_⟩
  · exact ⟨[], road, t, x, v, none, Same.refl _, rfl, rfl, hrun, rfl, hsz, hv, rfl⟩
  · rintro i σ H' hi ⟨_, _, _, _, _, _, S, _⟩
    exact S.seq ha
  · rintro i z σ H' hz ⟨r0, r1, t0, y, v0, y2, S, e, rfl, hr1, ey, hs0, hv0, rfl⟩
    obtain ⟨p, hp, rfl⟩ := pL_get hz
    rw [e, List.getElem?_append_right (Nat.le_refl _), Nat.sub_self] at hp
    cases r1 with
    | nil => simp at hp
    | cons p' r1 =>
      simp only [List.getElem?_cons_zero, Option.some.injEq] at hp
      subst hp
      obtain ⟨m, t1, y', h1, h2, rfl⟩ := runC_cons hr1
      obtain ⟨hst, hs1⟩ := stepC_some h1
      refine ⟨_, rfl, _, rfl, v0, tg, t0, t1, p', m, rfl, hv0, hst, hs0, fun hn => ?_, fun _ H2 r S2 hr2 => ?_⟩
      · rw [h1] at hn; cases hn
      · exact ⟨r0 ++ [p'], r1, t1, y', r, some (.str (plS p')), S.trans S2, by rw [e]; simp, by simp, h2, ey, hs1, hr2, rfl⟩
  · rintro σ H' ⟨r0, r1, t0, y, v0, y2, S, e, el, hr1, ey, hs0, hv0, rfl⟩
    have hl := congrArg List.length e
    simp [pL] at el hl
    have : r1 = [] := List.length_eq_zero_iff.mp (by omega)
    subst this
    cases hr1
    refine ⟨_, rfl, ?_⟩
    exact q _ _ S (by rw [← ey]; exact hv0)
end
end Ly

/-! W9: marks. -/
namespace Ly
open PySem PySem.Spec PyProof.Rows L2
section
variable {P : Program} {w : World} {K : PySem.W.Frag} {mg : Str → Option Value} {base : Heap}
/-! ### marked -/
def spMarked (K : PySem.W.Frag) (tg1 : Bool) : Sp := fun vs H Q _ => ∃ (v : V) (tg : Bool) (t : Tm), vs = [v] ∧ Dp K H v (tmD tg t) ∧ sz t ≤ 30000 ∧ ∀ H' r, Same H H' → Dp K H' r (tmD tg1 (mark 0 t)) → Q r H'
theorem mark_at0 {t : Tm} {i : Nat} {nd : Nd} (h : (flat t)[i]? = some nd) : (flat (mark 0 t))[i]? = some (markN i nd) := by
  rw [flat_mark, List.getElem?_mapIdx, h]; simp
theorem take_one {α : Type} {l : List α} {i : Nat} {x : α} (h : l[i]? = some x) : l.take (i + 1) = l.take i ++ [x] := by rw [List.take_add_one, h]; rfl
theorem nd_tg {H : Hp} {tg tg1 : Bool} {n : Nd} {v : V} (h : Dp K H v (ndD tg n)) (q : n.isTup = false) : Dp K H v (ndD tg1 n) := by
  cases n with
  | var n => exact h
  | app => exact h
  | lam m => cases m with
    | none => exact h
    | some k => cases q
theorem ok_marked (F : At K mg "marked" s_marked ["nodes"]) (B : Blt mg) : Has P w K mg base CX0 1 "marked" ["nodes"] (spMarked K false) := F.has fun f fd F => by
  refine F.ok sc_marked (fun vs H Q E h => ?_) (fun cdv A outer s H vs Q E hr h => ?_)
  · obtain ⟨_, _, _, rfl, _⟩ := h
    rfl
  obtain ⟨v, tg, t, rfl, hv, hsz, q⟩ := h
  refine ⟨_, (pss_cons (ps_set (i := 1) sc_marked.nd rfl (Or.inl rfl) (pe_lst pa_nil))
    (pss_cons (ps_for PassesOwn.never rfl (pi_enumK (by rfl) B.m_enumerate (pa_cons (pv 0) pa_nil)) (pg_tup rfl (pgs_cons (pg_name (i := 2) sc_marked.nd rfl (Or.inl rfl)) (pgs_cons (pg_name (i := 3) sc_marked.nd rfl (Or.inl rfl)) pgs_nil)))
      (pss_one (ps_if (PW.pt (pw_or (pt_eqApp (mo_var 3) (pt_cmpR (op_eqD hr.units) (pv 3) pe_str (nomark _))) (pw_or1 (pt_val (pe_isInt (mo_var 3) (pe_callB call_isi (by rfl) B.m_isinstance (by decide +kernel) (pa_cons (pv 3) (pa_cons (pe_bltn (v := .ty "int") (by rfl) B.m_int (by decide +kernel) rfl) pa_nil))))))))
        (pss_one (ps_expr (pe_bm PySem.F.plainAttrs_list PySem.F.slot_list_append PySem.F.type_list_append mt_append (pv 1) (pa_cons (pv 3) pa_nil))))
        (pss_one (ps_expr (pe_bm PySem.F.plainAttrs_list PySem.F.slot_list_append PySem.F.type_list_append mt_append (pv 1) (pa_cons (pe_tup (pa_cons pe_str (pa_cons (pv 2) pa_nil))) pa_nil)))))))
    (pss_one (ps_ret (pe_callTy call_tuple_of (by rfl) B.m_tuple (by decide +kernel) (pa_cons (pv 1) pa_nil)))))), ?_⟩
  obtain ⟨a, xs, rfl, hs, ha⟩ := dp_tup hv
  have hxl := dp_nodes_len ha
  refine ⟨Nat.zero_le _, fun p1 n1 => ?_⟩
  have S0 : Same H (upd H p1 (.lst [])) := same_upd n1
  refine ⟨_, rfl, .tup a, xs, rfl, Same.sqt S0 hs, for_it (walk_enumK (xs := xs)) (fun i σ H' => ∃ (zs : List V) (y2 y3 : Option V), σ = [some (.ref a), some (.ref p1), y2, y3] ∧ Same H H' ∧ H' p1 = some (.lst zs) ∧
    DpAll K H' zs (((flat (mark 0 t)).take i).map (ndD false))) ?_ ?_ ?_ ?_⟩
  · exact ⟨[], none, none, rfl, S0, upd_same, .nil⟩
  · rintro i σ H' _ ⟨_, _, _, _, S, _⟩
    exact Same.sqt S hs
  · rintro i x σ H' H3 hi ⟨zs, y2, y3, rfl, S, h1, hz⟩ ⟨T, x, y, rfl, hT, rfl, hx, hy⟩
    simp only [Option.some.injEq] at hx
    subst hx
    obtain ⟨nd, hn, hyd⟩ := dp_node ha hy
    have ST := same_upd (o := .tup [V.int (i : Nat), y]) hT
    have S3 := S.trans ST
    have hzl : zs.length ≤ 30000 := by rw [dpa_len hz]; simp [flat_len, sz_mark]; omega
    rw [take_one (mark_at0 hn)]
    refine ⟨T, [.int (i : Nat), y], rfl, SqT.of upd_same, rfl, .int (i : Nat), [y], rfl, _, [], rfl, rfl, ?_⟩
    have g1 := ST _ _ h1
    have hz3 := dpa_mono ST hz
    have hx3 := dp_mono S3 hyd
    generalize upd H' T (.tup [V.int (i : Nat), y]) = H3 at S3 g1 hz3 hx3 ⊢
    have fin : ∀ (H4 : Hp) (z : V), Same H3 H4 → Dp K H4 z (ndD false (markN i nd)) → ∃ (zs' : List V) (y2 y3 : Option V), [some (.ref a), some (.ref p1), some (.int (i : Nat)), some y] = [some (.ref a), some (.ref p1), y2, y3] ∧ Same H (upd H4 p1 (.lst (zs ++ [z]))) ∧ (upd H4 p1 (.lst (zs ++ [z]))) p1 = some (.lst zs') ∧
        DpAll K (upd H4 p1 (.lst (zs ++ [z]))) zs' (((flat (mark 0 t)).take i ++ [markN i nd]).map (ndD false)) := fun H4 z S4 hz4 => by
      refine ⟨zs ++ [z], _, _, rfl, same_mut (S3.trans S4) n1, upd_same, ?_⟩
      rw [List.map_append]
      exact dpa_app (dpa_upd (S4 _ _ g1) (noL_nds _ _) (dpa_mono S4 hz3)) (.cons (dp_upd (S4 _ _ g1) (noL_nd _ _) hz4) .nil)
    refine ⟨_, rfl, tg, nd, hx3, ?_⟩
    cases nd with
    | var n =>
      refine iteF ?_
      refine ⟨_, rfl, tg, _, hx3, _, rfl, iteT ?_⟩
      exact ⟨_, rfl, lty g1, _, rfl, p1, _, _, rfl, rfl, g1, sl_lt (by omega), fin _ _ (Same.refl _) hx3⟩
    | app =>
      refine iteT ?_
      refine iteT ?_
      exact ⟨_, rfl, lty g1, _, rfl, p1, _, _, rfl, rfl, g1, sl_lt (by omega), fin _ _ (Same.refl _) hx3⟩
    | lam m =>
      refine iteF ?_
      refine ⟨_, rfl, tg, _, hx3, _, rfl, iteF ?_⟩
      refine ⟨_, rfl, lty g1, _, rfl, sl_ok (show 2 ≤ 4000000 by decide), fun l nl => ?_⟩
      have S4 := same_upd (o := .tup [V.str (Str.ofString "lam"), .int (i : Nat)]) nl
      refine ⟨p1, _, _, rfl, rfl, S4 _ _ g1, sl_lt (by omega), fin _ _ S4 ?_⟩
      exact .tup (SqT.of upd_same) (.cons (.str _) (.cons (.int _) .nil))
  · rintro σ H' ⟨zs, y2, y3, rfl, S, h1, hz⟩
    rw [List.take_of_length_le (by rw [flat_len, sz_mark, hxl, flat_len]; exact Nat.le_refl _)] at hz
    refine ⟨_, rfl, p1, zs, rfl, .inl ⟨SqL.of h1, fun l nl => ?_⟩⟩
    exact q _ _ (S.trans (same_upd nl)) (.tup (SqT.of upd_same) (dpa_mono (same_upd nl) hz))
/-! ### _law_marked -/
theorem ok_law_marked (F : At K mg "_law_marked" s__law_marked ["_law_term_here"]) (B : Blt mg) (D1 : Has P w K mg base CX0 1 "_law_is_lam" ["_law_node"] (spIsLam K)) : Has P w K mg base CX0 2 "_law_marked" ["_law_term_here"] (spMarked K true) := F.has fun f fd F => by
  obtain ⟨f1, fd1, G__law_is_lam, m__law_is_lam, k__law_is_lam, b__law_is_lam⟩ := D1.ex
  refine F.ok sc__law_marked (fun vs H Q E h => ?_) (fun cdv A outer s H vs Q E hr h => ?_)
  · obtain ⟨_, _, _, rfl, _⟩ := h
    rfl
  obtain ⟨v, tg, t, rfl, hv, hsz, q⟩ := h
  refine ⟨_, (pss_cons (ps_set (i := 1) sc__law_marked.nd rfl (Or.inl rfl) (pe_lst pa_nil))
    (pss_cons (ps_for PassesOwn.never rfl (pi_range1 (by rfl) B.m_range (pa_cons (pe_callB call_len_seq (by rfl) B.m_len (by decide +kernel) (pa_cons (pv 0) pa_nil)) pa_nil)) (pg_name (i := 2) sc__law_marked.nd rfl (Or.inl rfl))
      (pss_one (ps_if (pt_val (pe_call G__law_is_lam (hr.mono (by first | decide | omega)) (by rfl) m__law_is_lam k__law_is_lam b__law_is_lam .nil pass0 (pa_cons (pe_nth (mo_var 0) (mo_var 2) (pe_ix ix_tup (pv 0) (pv 2) (fun _ _ => rfl))) pa_nil)))
        (pss_one (ps_expr (pe_bm PySem.F.plainAttrs_list PySem.F.slot_list_append PySem.F.type_list_append mt_append (pv 1) (pa_cons (pe_tup (pa_cons pe_str (pa_cons (pv 2) pa_nil))) pa_nil))))
        (pss_one (ps_expr (pe_bm PySem.F.plainAttrs_list PySem.F.slot_list_append PySem.F.type_list_append mt_append (pv 1) (pa_cons (pe_nth (mo_var 0) (mo_var 2) (pe_ix ix_tup (pv 0) (pv 2) (fun _ _ => rfl))) pa_nil)))))))
    (pss_one (ps_ret (pe_callTy call_tuple_of (by rfl) B.m_tuple (by decide +kernel) (pa_cons (pv 1) pa_nil)))))), ?_⟩
  obtain ⟨a, xs, rfl, hs, ha⟩ := dp_tup hv
  have hxl := dp_nodes_len ha
  refine ⟨Nat.zero_le _, fun p1 n1 => ?_⟩
  have S0 : Same H (upd H p1 (.lst [])) := same_upd n1
  refine ⟨_, rfl, a, xs, rfl, .inr (Same.sqt S0 hs), _, rfl, ?_, ?_, for_range (lo := 0) (n := xs.length) (fun i σ H' => ∃ (zs : List V) (y2 : Option V), σ = [some (.ref a), some (.ref p1), y2] ∧ Same H H' ∧ H' p1 = some (.lst zs) ∧
    DpAll K H' zs (((flat (mark 0 t)).take i).map (ndD true))) ?_ ?_ ?_⟩
  · rw [hxl, flat_len]; omega
  · rw [hxl, flat_len]; omega
  · exact ⟨[], none, rfl, S0, upd_same, .nil⟩
  · rintro i σ H' hi ⟨zs, y2, rfl, S, h1, hz⟩
    rw [show (0 : Int) + (i : Int) = (i : Int) by omega]
    obtain ⟨nd, hn⟩ : ∃ nd, (flat t)[i]? = some nd := ⟨_, List.getElem?_eq_getElem (by omega)⟩
    have hzl : zs.length ≤ 30000 := by rw [dpa_len hz]; simp [flat_len, sz_mark]; omega
    have hv3 := dp_mono S hv
    rw [take_one (mark_at0 hn)]
    have fin : ∀ (H4 : Hp) (z : V), Same H' H4 → Dp K H4 z (ndD true (markN i nd)) → ∃ (zs' : List V) (y2 : Option V), [some (.ref a), some (.ref p1), some (.int (i : Int))] = [some (.ref a), some (.ref p1), y2] ∧ Same H (upd H4 p1 (.lst (zs ++ [z]))) ∧ (upd H4 p1 (.lst (zs ++ [z]))) p1 = some (.lst zs') ∧
        DpAll K (upd H4 p1 (.lst (zs ++ [z]))) zs' (((flat (mark 0 t)).take i ++ [markN i nd]).map (ndD true)) := fun H4 z S4 hz4 => by
      refine ⟨zs ++ [z], _, rfl, same_mut (S.trans S4) n1, upd_same, ?_⟩
      rw [List.map_append]
      exact dpa_app (dpa_upd (S4 _ _ h1) (noL_nds _ _) (dpa_mono S4 hz)) (.cons (dp_upd (S4 _ _ h1) (noL_nd _ _) hz4) .nil)
    refine ⟨_, rfl, _, rfl, tg, _, i, nd, hv3, rfl, hn, fun x hx => ⟨x, tg, nd, rfl, hx, _, rfl, ?_⟩⟩
    have keep : nd.isLam = false → markN i nd = nd ∧ nd.isTup = false := fun h => by cases nd <;> first | exact ⟨rfl, rfl⟩ | cases h
    cases hl : nd.isLam with
    | false =>
      refine iteF ?_
      refine ⟨_, rfl, lty h1, _, rfl, _, rfl, tg, _, i, nd, hv3, rfl, hn, fun x hx => ?_⟩
      exact ⟨p1, _, _, rfl, rfl, h1, sl_lt (by omega), fin _ _ (Same.refl _) (by rw [(keep hl).1]; exact nd_tg hx (keep hl).2)⟩
    | true =>
      refine iteT ?_
      refine ⟨_, rfl, lty h1, _, rfl, sl_ok (show 2 ≤ 4000000 by decide), fun l nl => ?_⟩
      have S4 := same_upd (o := .tup [V.str (Str.ofString "m"), .int (i : Int)]) nl
      refine ⟨p1, _, _, rfl, rfl, S4 _ _ h1, sl_lt (by omega), fin _ _ S4 ?_⟩
      have : markN i nd = .lam (some i) := by cases nd <;> first | rfl | cases hl
      rw [this]
      exact .tup (SqT.of upd_same) (.cons (.str _) (.cons (.int _) .nil))
  · rintro σ H' ⟨zs, y2, rfl, S, h1, hz⟩
    rw [List.take_of_length_le (by rw [flat_len, sz_mark, hxl, flat_len]; exact Nat.le_refl _)] at hz
    refine ⟨_, rfl, p1, zs, rfl, .inl ⟨SqL.of h1, fun l nl => ?_⟩⟩
    exact q _ _ (S.trans (same_upd nl)) (.tup (SqT.of upd_same) (dpa_mono (same_upd nl) hz))
/-! ### mark_at -/
def spMarkAt (K : PySem.W.Frag) : Sp := fun vs H Q _ => ∃ (v : V) (tg : Bool) (t t1 : Tm) (p : Pl) (k : Nat), vs = [v, .str (plS p)] ∧ Dp K H v (tmD tg t) ∧ Stp t p (some k) t1 ∧ Q (.int (k : Nat)) H
theorem ok_mark_at (F : At K mg "mark_at" s_mark_at ["nodes", "place"]) (B : Blt mg) (D1 : Has P w K mg base CX0 2 "index_of" ["nodes", "place"] (spIndex K)) (D2 : Has P w K mg base CX0 1 "is_redex" ["nodes", "at"] (spRedex K)) :
    Has P w K mg base CX0 3 "mark_at" ["nodes", "place"] (spMarkAt K) := F.has fun f fd F => by
  obtain ⟨f1, fd1, G_index_of, m_index_of, k_index_of, b_index_of⟩ := D1.ex
  obtain ⟨f2, fd2, G_is_redex, m_is_redex, k_is_redex, b_is_redex⟩ := D2.ex
  refine F.ok sc_mark_at (fun vs H Q E h => ?_) (fun cdv A outer s H vs Q E hr h => ?_)
  · obtain ⟨_, _, _, _, _, _, rfl, _⟩ := h
    rfl
  obtain ⟨v, tg, t, t1, p, k, rfl, hv, hst, q⟩ := h
  refine ⟨_, (pss_cons (ps_set (i := 2) sc_mark_at.nd rfl (Or.inl rfl) (pe_call G_index_of (hr.mono (by first | decide | omega)) (by rfl) m_index_of k_index_of b_index_of .nil pass0 (pa_cons (pv 0) (pa_cons (pv 1) pa_nil))))
    (pss_cons (ps_if (PW.pt (pw_or (pt_cmpR op_lt (pv 2) pe_int (nomark _)) (pw_or1 (pt_not (pt_val (pe_call G_is_redex (hr.mono (by first | decide | omega)) (by rfl) m_is_redex k_is_redex b_is_redex .nil pass0 (pa_cons (pv 0) (pa_cons (pv 2) pa_nil))))))))
      (pss_one (ps_ret pe_non))
      pss_nil)
    (pss_one (ps_ret (pe_mk (mo_nth (mo_var 0) (mo_I0 (mo_var 2) (mo_c _))) (pe_ix ix_tup (pe_nth (mo_var 0) (mo_I0 (mo_var 2) (mo_c _)) (pe_ix ix_tup (pv 0) (pe_op op_add (pv 2) pe_int) (fun _ _ => rfl))) pe_int (fun _ _ => rfl))))))), ?_⟩
  obtain ⟨c, hc⟩ := hst.stpC
  obtain ⟨b, u, pre, post, Z⟩ := hc.pieces
  have hv' : Dp K H v (.tuple ((pre ++ (flat (.app (.lam (some k) b) u) ++ post)).map (ndD tg))) := by rw [← Z.et]; exact hv
  refine ⟨_, rfl, _, rfl, v, tg, t, _, p, rfl, hv, Z.sb, ?_⟩
  rw [← Z.len]
  refine ⟨_, rfl, _, _, rfl, rfl, _, rfl, ?_⟩
  refine iteN (decide_eq_false (by omega)) ?_
  refine ⟨_, rfl, _, rfl, v, tg, pre, post, _, rfl, hv', _, rfl, iteF ?_⟩
  have hget2 : (pre ++ (flat (.app (.lam (some k) b) u) ++ post))[pre.length + 1]? = some (.lam (some k)) := by
    rw [List.getElem?_append_right (by omega), Nat.add_sub_cancel_left]
    simp [flat]
  exact ⟨_, rfl, _, rfl, _, _, rfl, rfl, tg, _, pre.length + 1, _, hv', rfl, hget2, fun x hx => ⟨tg, k, hx, q⟩⟩
/-! ### marks -/
def redD (x : Pl × Mk) : PyData := .tuple [.str (plS x.1), .int (((x.2.getD 0 : Nat)))]
def redO (t : Tm) (p : Pl) : Option (Pl × Mk) := ((sub t p).bind redm).map fun m => (p, m)
theorem pls_at {t : Tm} {i : Nat} {p : Pl} (h : (pls t)[i]? = some p) : ∃ s, sub t p = some s ∧ idx t p = i := by
  obtain ⟨s, hs⟩ := pls_sub (List.mem_of_getElem? h)
  have hi := pls_idx hs
  obtain ⟨l1, e1⟩ := List.getElem?_eq_some_iff.mp h
  obtain ⟨l2, e2⟩ := List.getElem?_eq_some_iff.mp hi
  exact ⟨s, hs, (List.getElem_inj (pls_nodup t)).mp (e2.trans e1.symm)⟩
theorem noL_red (x : Pl × Mk) : noL (redD x) = true := by simp [redD, noL, noLs]
theorem noL_reds (l : List (Pl × Mk)) : noLs (l.map redD) = true := by
  induction l with
  | nil => simp [noLs]
  | cons x l ih => simp [noLs, noL_red, ih]
def spMarks (K : PySem.W.Frag) : Sp := fun vs H Q _ => ∃ (v : V) (tg : Bool) (t : Tm), vs = [v] ∧ Dp K H v (tmD tg t) ∧ sz t ≤ 30000 ∧ cnt none t = 0 ∧
  ∀ H' p xs, Same H H' → H p = none → H' p = some (.lst xs) → DpAll K H' xs ((reds t).map redD) → Q (.ref p) H'
theorem ok_marks (F : At K mg "marks" s_marks ["nodes"]) (B : Blt mg) (D1 : Has P w K mg base CX0 1 "placed_nodes" ["nodes"] (spPlaces K)) (D2 : Has P w K mg base CX0 1 "is_redex" ["nodes", "at"] (spRedex K)) :
    Has P w K mg base CX0 2 "marks" ["nodes"] (spMarks K) := F.has fun f fd F => by
  obtain ⟨f1, fd1, G_placed_nodes, m_placed_nodes, k_placed_nodes, b_placed_nodes⟩ := D1.ex
  obtain ⟨f2, fd2, G_is_redex, m_is_redex, k_is_redex, b_is_redex⟩ := D2.ex
  refine F.ok sc_marks (fun vs H Q E h => ?_) (fun cdv A outer s H vs Q E hr h => ?_)
  · obtain ⟨_, _, _, rfl, _⟩ := h
    rfl
  obtain ⟨v, tg, t, rfl, hv, hsz, hc0, q⟩ := h
  refine ⟨_, (pss_cons (ps_set (i := 1) sc_marks.nd rfl (Or.inl rfl) (pe_lst pa_nil))
    (pss_cons (ps_for PassesOwn.never rfl (pi_enumK (by rfl) B.m_enumerate (pa_cons (pe_call G_placed_nodes (hr.mono (by first | decide | omega)) (by rfl) m_placed_nodes k_placed_nodes b_placed_nodes .nil pass0 (pa_cons (pv 0) pa_nil)) pa_nil)) (pg_tup rfl (pgs_cons (pg_name (i := 2) sc_marks.nd rfl (Or.inl rfl)) (pgs_cons (pg_name (i := 3) sc_marks.nd rfl (Or.inl rfl)) pgs_nil)))
      (pss_one (ps_if (pt_val (pe_call G_is_redex (hr.mono (by first | decide | omega)) (by rfl) m_is_redex k_is_redex b_is_redex .nil pass0 (pa_cons (pv 0) (pa_cons (pv 2) pa_nil))))
        (pss_one (ps_expr (pe_bm PySem.F.plainAttrs_list PySem.F.slot_list_append PySem.F.type_list_append mt_append (pv 1) (pa_cons (pe_tup (pa_cons (pv 3) (pa_cons (pe_mk (mo_nth (mo_var 0) (mo_I0 (mo_var 2) (mo_c _))) (pe_ix ix_tup (pe_nth (mo_var 0) (mo_I0 (mo_var 2) (mo_c _)) (pe_ix ix_tup (pv 0) (pe_op op_add (pv 2) pe_int) (fun _ _ => rfl))) pe_int (fun _ _ => rfl))) pa_nil))) pa_nil))))
        pss_nil)))
    (pss_one (ps_ret (pv 1))))), ?_⟩
  refine ⟨Nat.zero_le _, fun p1 n1 => ?_⟩
  have S0 : Same H (upd H p1 (.lst [])) := same_upd n1
  refine ⟨_, rfl, v, tg, t, rfl, dp_mono S0 hv, hsz, fun H2 pd S2 nd2 h2 => ?_⟩
  have n12 : pd ≠ p1 := fun e => by rw [e, upd_same] at nd2; cases nd2
  have S02 := S0.trans S2
  refine ⟨.lst pd, pL (pls t), rfl, SqL.of h2, for_it (walk_enumK (xs := pL (pls t))) (fun i σ H' => ∃ (zs : List V) (y2 y3 : Option V), σ = [some v, some (.ref p1), y2, y3] ∧ Same H H' ∧ H' p1 = some (.lst zs) ∧
    H' pd = some (.lst (pL (pls t))) ∧ DpAll K H' zs ((((pls t).take i).filterMap (redO t)).map redD)) ?_ ?_ ?_ ?_⟩
  · exact ⟨[], none, none, rfl, S02, S2 _ _ upd_same, h2, .nil⟩
  · rintro i σ H' _ ⟨_, _, _, _, S, _, hd, _⟩
    exact SqL.of hd
  · rintro i x σ H' H3 hi ⟨zs, y2, y3, rfl, S, h1, hd, hz⟩ ⟨T, x, y, rfl, hT, rfl, hx, hy⟩
    simp only [Option.some.injEq] at hx
    subst hx
    obtain ⟨p, hp, rfl⟩ := pL_get hy
    obtain ⟨s, hs, hi2⟩ := pls_at hp
    obtain ⟨pre, post, et, el⟩ := sub_flat hs
    have ST := same_upd (o := .tup [V.int (i : Nat), .str (plS p)]) hT
    have S3 := S.trans ST
    have hzl : zs.length ≤ 30000 := by
      rw [dpa_len hz, List.length_map]
      have h1 : (((pls t).take i).filterMap (redO t)).length ≤ ((pls t).take i).length := List.length_filterMap_le _ _
      rw [List.length_take, pls_len] at h1; omega
    rw [take_one hp, List.filterMap_append]
    refine ⟨T, [.int (i : Nat), .str (plS p)], rfl, SqT.of upd_same, rfl, .int (i : Nat), [.str (plS p)], rfl, _, [], rfl, rfl, ?_⟩
    have g1 := ST _ _ h1
    have gd := ST _ _ hd
    have hz3 := dpa_mono ST hz
    have hv3 := dp_mono S3 hv
    generalize upd H' T (.tup [V.int (i : Nat), .str (plS p)]) = H3 at S3 g1 gd hz3 hv3 ⊢
    have hv' : Dp K H3 v (.tuple ((pre ++ (flat s ++ post)).map (ndD tg))) := by rw [← et]; exact hv3
    have ei : i = pre.length := by omega
    subst ei
    refine ⟨_, rfl, _, rfl, v, tg, pre, post, s, rfl, hv', _, rfl, ?_⟩
    have er : redO t p = (redm s).map fun m => (p, m) := by simp [redO, hs]
    cases hm : redm s with
    | none =>
      refine iteF ?_
      refine ⟨zs, some (.int (pre.length : Nat)), some (.str (plS p)), rfl, S3, g1, gd, ?_⟩
      simpa [er, hm] using hz3
    | some m =>
      obtain ⟨b, u, rfl⟩ : ∃ b u, s = .app (.lam m b) u := by
        cases s with
        | var n => cases hm
        | lam _ _ => cases hm
        | app g u =>
          cases g with
          | var n => cases hm
          | app _ _ => cases hm
          | lam k b => cases hm; exact ⟨b, u, rfl⟩
      obtain ⟨t', hst⟩ := sub_stp hs hm
      obtain ⟨k, rfl⟩ : ∃ k, m = some k := by
        cases m with
        | some k => exact ⟨k, rfl⟩
        | none => have := hst.cnt_pos; omega
      refine iteT ?_
      have hget2 : (pre ++ (flat (.app (.lam (some k) b) u) ++ post))[pre.length + 1]? = some (.lam (some k)) := by
        rw [List.getElem?_append_right (by omega), Nat.add_sub_cancel_left]
        simp [flat]
      refine ⟨_, rfl, lty g1, _, rfl, _, rfl, _, rfl, _, _, rfl, rfl, tg, _, pre.length + 1, _, hv', rfl, hget2, fun x hx => ⟨tg, k, hx, ?_⟩⟩
      refine ⟨sl_ok (show 2 ≤ 4000000 by decide), fun l nl => ?_⟩
      have S4 := same_upd (o := .tup [V.str (plS p), .int (k : Nat)]) nl
      refine ⟨p1, _, _, rfl, rfl, S4 _ _ g1, sl_lt (by omega), ?_⟩
      refine ⟨zs ++ [.ref l], some (.int (pre.length : Nat)), some (.str (plS p)), rfl, same_mut (S3.trans S4) n1, upd_same, by rw [upd_ne n12]; exact S4 _ _ gd, ?_⟩
      rw [List.map_append]
      refine dpa_app (dpa_upd (S4 _ _ g1) (noL_reds _) (dpa_mono S4 hz3)) ?_
      have e1 : ([p].filterMap (redO t)).map redD = [redD (p, some k)] := by simp [er, hm]
      rw [e1]
      exact .cons (dp_upd (S4 _ _ g1) (noL_red _) (.tup (SqT.of upd_same) (.cons (.str _) (.cons (.int _) .nil)))) .nil
  · rintro σ H' ⟨zs, y2, y3, rfl, S, h1, hd, hz⟩
    have e : (pls t).take (pL (pls t)).length = pls t := List.take_of_length_le (by simp [pL])
    rw [e] at hz
    refine ⟨_, rfl, ?_⟩
    refine q _ _ zs S n1 h1 ?_
    rw [reds_pls]; exact hz
/-! ### with_mark -/
def spWithMark (K : PySem.W.Frag) : Sp := fun vs H Q _ => ∃ (v : V) (tg : Bool) (t : Tm) (k : Nat), vs = [v, .int (k : Nat)] ∧ Dp K H v (tmD tg t) ∧ sz t ≤ 30000 ∧ cnt none t = 0 ∧
  ∀ H' p, Same H H' → H p = none → H' p = some (.lst (pL (withm (some k) t))) → Q (.ref p) H'
theorem red_mk {t : Tm} {x : Pl × Mk} (h0 : cnt none t = 0) (h : x ∈ reds t) : ∃ k, x.2 = some k := by
  obtain ⟨t', hst⟩ := mem_reds.mp (show (x.1, x.2) ∈ _ from h)
  cases e : x.2 with
  | some k => exact ⟨k, rfl⟩
  | none => rw [e] at hst; have := hst.cnt_pos; omega
theorem dp_red {H : Hp} {x : Pl × Mk} {v : V} (h : Dp K H v (redD x)) : ∃ a, v = .ref a ∧ SqT K H a [.str (plS x.1), .int ((x.2.getD 0 : Nat))] := by
  obtain ⟨a, xs, rfl, hs, ha⟩ := dp_tup h
  cases ha with
  | cons h1 h2 =>
    cases h1
    cases h2 with
    | cons h3 h4 =>
      cases h3
      cases h4
      exact ⟨a, rfl, hs⟩
theorem reds_len (t : Tm) : (reds t).length ≤ sz t := by rw [reds_pls, ← pls_len]; exact List.length_filterMap_le _ _
theorem ok_with_mark (F : At K mg "with_mark" s_with_mark ["nodes", "mark"]) (B : Blt mg) (D1 : Has P w K mg base CX0 2 "marks" ["nodes"] (spMarks K)) :
    Has P w K mg base CX0 3 "with_mark" ["nodes", "mark"] (spWithMark K) := F.has fun f fd F => by
  obtain ⟨f1, fd1, G_marks, m_marks, k_marks, b_marks⟩ := D1.ex
  refine F.ok sc_with_mark (fun vs H Q E h => ?_) (fun cdv A outer s H vs Q E hr h => ?_)
  · obtain ⟨_, _, _, _, rfl, _⟩ := h
    rfl
  obtain ⟨v, tg, t, k, rfl, hv, hsz, hc0, q⟩ := h
  refine ⟨_, (pss_one (ps_ret (pe_lc (own := [("place", 2), ("other", 3)]) (g := gTup K 2 (gCons (gName 2) (gCons (gName 3) gNil))) (tt := tTest (tOp rEq (tVar 3) (tVar 1))) (te := tVar 2) (by rfl) sc_with_mark.nd (pi_list (pe_call G_marks (hr.mono (by first | decide | omega)) (by rfl) m_marks k_marks b_marks .nil pass0 (pa_cons (pv 0) pa_nil))) (blkOk_by (own := [("place", 2), ("other", 3)]) (N := ["nodes", "mark", "place", "other"]) (sc := defScope s_with_mark) (by decide +kernel)) (fun _ _ _ _ _ => by exact (pg_tup rfl (pgs_cons (pg_name (i := 2) sc_with_mark.nd rfl (Or.inl rfl)) (pgs_cons (pg_name (i := 3) sc_with_mark.nd rfl (Or.inl rfl)) pgs_nil)))) (fun _ _ _ _ _ => by exact (pts_one (pt_cmpR op_eq (pv 3) (pv 1) (nomark _)))) (fun _ _ _ _ _ => by exact (pv 2))))), ?_⟩
  refine ⟨_, rfl, v, tg, t, rfl, hv, hsz, hc0, fun H2 pd xs S2 nd2 h2 hx2 => ?_⟩
  have hxl : xs.length = (reds t).length := by rw [dpa_len hx2]; simp
  have hrl := reds_len t
  refine ⟨pd, rfl, ⟨xs, SqL.of h2⟩, fun D nD => lc_list (xs := xs) (fun i H' => Same H2 H' ∧ H' D = some (.lst (pL ((((reds t).take i).filter (fun x => decide (x.2 = some k))).map (·.1))))) ?_ ?_ ?_ ?_⟩
  · exact ⟨same_upd nD, upd_same⟩
  · intro i H' _ ⟨S, _⟩
    exact SqL.of (S _ _ h2)
  · intro i x H' hx ⟨S, hD⟩
    obtain ⟨d, hd, hxd⟩ := dpa_get hx2 hx
    rw [List.getElem?_map] at hd
    obtain ⟨y, hy, rfl⟩ := Option.map_eq_some_iff.mp hd
    obtain ⟨j, hj⟩ := red_mk hc0 (List.mem_of_getElem? hy)
    obtain ⟨a, rfl, ha⟩ := dp_red (dp_mono S hxd)
    rw [take_one hy, List.filter_append, List.map_append]
    have hvl : ((((reds t).take i).filter (fun x => decide (x.2 = some k))).map (·.1)).length ≤ 30000 := by
      have h1 : (((reds t).take i).filter (fun x => decide (x.2 = some k))).length ≤ ((reds t).take i).length := List.length_filter_le _ _
      rw [List.length_take] at h1; rw [List.length_map]; omega
    have hin : y.2.getD 0 = j := by rw [hj]; rfl
    rw [hin] at ha
    refine ⟨a, _, rfl, ha, rfl, .str (plS y.1), [.int (j : Nat)], rfl, .int (j : Nat), [], rfl, rfl, rfl, ?_⟩
    refine ⟨_, rfl, _, rfl, rfl, _, rfl, ?_⟩
    by_cases e : j = k
    · subst e
      refine iteP (by simp) ?_
      refine ⟨_, rfl, _, hD, sl_lt (by simpa [pL] using Nat.le_trans hvl (by decide)), same_mut S nD, ?_⟩
      rw [upd_same]; simp [pL, hj]
    · refine iteN (decide_eq_false fun z => e (by injection z with z; omega)) ?_
      refine ⟨S, ?_⟩
      rw [hD]; simp [pL, hj, e]
  · intro H' ⟨S, hD⟩
    rw [hxl, List.take_length, ← withm_eq] at hD
    exact q _ _ (S2.trans S) (S2.free nD) hD
end
end Ly

/-! W10: first_of. -/
namespace Ly
open PySem PySem.Spec PyProof.Rows L2
section
variable {P : Program} {w : World} {K : PySem.W.Frag} {mg : Str → Option Value} {base : Heap}
/-! ### tables of marks -/
def isK (kvs : List (Key × V)) (f : Nat → Bool) : Prop := ∀ k : Nat, (valV kvs (.inl (k : Int))).isSome = f k
theorem isK_nil : isK [] fun _ => false := fun _ => rfl
theorem isK_put {kvs : List (Key × V)} {f : Nat → Bool} (h : isK kvs f) (j : Nat) (v : V) : isK (putK kvs (.inl (j : Int)) v) fun k => f k || decide (k = j) := fun k => by
  rw [valV_put]
  by_cases e : k = j
  · subst e; simp
  · rw [if_neg (by intro z; injection z with z; omega), h k]; simp [e]
theorem isK.to {kvs : List (Key × V)} {f g : Nat → Bool} (h : isK kvs f) (e : ∀ k, f k = g k) : isK kvs g := fun k => by rw [h k, e k]
theorem sqt_updK {H : Hp} {p a : Addr} {kvs : List (Key × V)} {o : HO} {zs : List V} (hp : H p = some (.dK kvs)) (h : SqT K H a zs) : SqT K (upd H p o) a zs := by
  rcases h with (h | ⟨o, h⟩) | h
  · exact .inl (.inl (by rw [upd_ne (ne_of h hp (fun e => by cases e))]; exact h))
  · exact .inl (.inr ⟨o, by rw [upd_ne (ne_of h hp (fun e => by cases e))]; exact h⟩)
  · exact .inr h
mutual
theorem dp_updK {H : Hp} {p : Addr} {kvs : List (Key × V)} {o : HO} (hp : H p = some (.dK kvs)) : ∀ {d : PyData} {v : V}, noL d = true → Dp K H v d → Dp K (upd H p o) v d
  | .none, _, _, h => by cases h; exact .non
  | .bool b, _, _, h => by cases h; exact .bl b
  | .int i, _, _, h => by cases h; exact .int i
  | .str x, _, _, h => by cases h; exact .str x
  | .list ds, _, n, h => by simp [noL] at n
  | .tuple ds, _, n, h => by cases h with | tup hs ha => exact .tup (sqt_updK hp hs) (dpa_updK hp (by simpa [noL] using n) ha)
  | .dict _, _, _, h => by cases h
theorem dpa_updK {H : Hp} {p : Addr} {kvs : List (Key × V)} {o : HO} (hp : H p = some (.dK kvs)) : ∀ {ds : List PyData} {vs : List V}, noLs ds = true → DpAll K H vs ds → DpAll K (upd H p o) vs ds
  | [], _, _, h => by cases h; exact .nil
  | d :: ds, _, n, h => by
    simp only [noLs, Bool.and_eq_true] at n
    cases h with | cons h1 h2 => exact .cons (dp_updK hp n.1 h1) (dpa_updK hp n.2 h2)
end
/-! ### first_of -/
def spFirst (K : PySem.W.Frag) (C : Addr) : Sp := fun vs H Q E => ∃ (v : V) (a : Addr) (tg : Bool) (t t' : Tm) (r : Pl) (rs : List Pl) (ms : List Mk), vs = [v, .ref a] ∧ Dp K H v (tmD tg t) ∧ SqL K H a (pL (r :: rs)) ∧ Steps t (r :: rs) ms t' ∧ sz t ≤ 1000 ∧ rs.length ≤ 30000 ∧
  (firstM t (r :: rs) = none → ∀ H', Same H H' → E (.ref C) none H') ∧ (∀ p, firstM t (r :: rs) = some p → ∀ H', Same H H' → Q (.str (plS p)) H')
theorem runC_step {t : Tm} {p : Pl} {r : List Pl} {m : Mk} {t1 : Tm} (h : stepC t p = some (m, t1)) : runC t (p :: r) = (runC t1 r).map fun y => (m :: y.1, y.2) := by
  simp only [runC, h, Option.bind_some]
theorem runC_stop {t : Tm} {p : Pl} {r : List Pl} (h : stepC t p = none) : runC t (p :: r) = none := by
  simp only [runC, h, Option.bind_none]
theorem ok_first_of {CT CN : Addr} (F : At K mg "first_of" s_first_of ["term", "road"]) (B : Blt mg) (XN : Exc K mg "NoRedex" CN)
    (D1 : Has P w K mg base CX0 1 "marked" ["nodes"] (spMarked K false)) (D2 : Has P w K mg base CX0 3 "mark_at" ["nodes", "place"] (spMarkAt K)) (D3 : Has P w K mg base CX0 2 "marks" ["nodes"] (spMarks K))
    (D4 : Has P w K mg base (L2.CX P w) 4 "stepped" ["nodes", "place"] (spStepped K CT)) : Has P w K mg base (L2.CX P w) 5 "first_of" ["term", "road"] (spFirst K CT) := F.has fun f fd F => by
  obtain ⟨f1, fd1, G_marked, m_marked, k_marked, b_marked⟩ := D1.ex
  obtain ⟨f2, fd2, G_mark_at, m_mark_at, k_mark_at, b_mark_at⟩ := D2.ex
  obtain ⟨f3, fd3, G_marks, m_marks, k_marks, b_marks⟩ := D3.ex
  obtain ⟨f4, fd4, G_stepped, m_stepped, k_stepped, b_stepped⟩ := D4.ex
  refine F.okX sc_first_of (fun vs H Q E h => ?_) (fun cdv A outer s H vs Q E hr h => ?_)
  · obtain ⟨_, _, _, _, _, _, _, _, rfl, _⟩ := h
    rfl
  obtain ⟨v, a, tg, t, t', r, rs, ms, rfl, hv, ha, hst, hsz, hrl, hbad, hgood⟩ := h
  refine ⟨_, (pss_cons (ps_set (i := 2) sc_first_of.nd rfl (Or.inl rfl) (pe_call G_marked (hr.mono (by first | decide | omega)) (by rfl) m_marked k_marked b_marked .nil pass0 (pa_cons (pv 0) pa_nil)))
    (pss_cons (ps_set (i := 3) sc_first_of.nd rfl (Or.inl rfl) (pv 2))
    (pss_cons (ps_set (i := 4) sc_first_of.nd rfl (Or.inr rfl) pe_dnewK)
    (pss_cons (ps_for (passes_of rfl) rfl (pi_list (pv 1)) (pg_name (i := 5) sc_first_of.nd rfl (Or.inl rfl))
      (pss_cons (ps_set (i := 6) sc_first_of.nd rfl (Or.inl rfl) (pe_call G_mark_at (hr.mono (by first | decide | omega)) (by rfl) m_mark_at k_mark_at b_mark_at .nil pass0 (pa_cons (pv 3) (pa_cons (pv 5) pa_nil))))
      (pss_cons (ps_if (pt_cmp (pc_isN (pv 6)) rfl)
        (pss_one (ps_raise rfl (takes_of rfl rfl rfl rfl) (pmk_own PySem.F.excBase_ValueError XN.x XN.g XN.k (raises_own XN.b XN.t) (by rfl))))
        pss_nil)
      (pss_cons (ps_dput (hu_of hr) (pv 4) (pv 6) pe_bl rfl)
      (pss_one (ps_set (i := 3) sc_first_of.nd rfl (Or.inl rfl) (pe_call G_stepped (hr.mono (by first | decide | omega)) (by rfl) m_stepped k_stepped b_stepped .nil (passes_call (takes_of rfl rfl rfl rfl) (fun _ _ _ _ h => h)) (pa_cons (pv 3) (pa_cons (pv 5) pa_nil)))))))))
    (pss_one (ps_ret (pe_ix ix_list (pe_lc (own := [("place", 5), ("mark", 6)]) (g := gTup K 2 (gCons (gName 5) (gCons (gName 6) gNil))) (tt := tB (tDIn (tVar 6) (tVar 4))) (te := tVar 5) (by rfl) sc_first_of.nd (pi_list (pe_call G_marks (hr.mono (by first | decide | omega)) (by rfl) m_marks k_marks b_marks .nil pass0 (pa_cons (pv 2) pa_nil))) (blkOk_by (own := [("place", 5), ("mark", 6)]) (N := ["term", "road", "start", "nodes", "stepped_marks", "place", "mark"]) (sc := defScope s_first_of) (by decide +kernel)) (fun _ _ _ _ _ => by exact (pg_tup rfl (pgs_cons (pg_name (i := 5) sc_first_of.nd rfl (Or.inl rfl)) (pgs_cons (pg_name (i := 6) sc_first_of.nd rfl (Or.inl rfl)) pgs_nil)))) (fun _ _ _ _ _ => by exact (pts_one (pt_cmp (pc_din (hu_of hr) (pv 6) (pv 4))))) (fun _ _ _ _ _ => by exact (pv 5))) pe_int (fun _ _ => rfl)))))))), ?_⟩
  refine ⟨_, rfl, v, tg, t, rfl, hv, by omega, fun H1 v1 S1 hv1 => ?_⟩
  refine ⟨_, rfl, fun d nd => ?_⟩
  have Sd := same_upd (o := .dK []) nd
  have S01 := S1.trans Sd
  obtain ⟨ms0, T0', hst0, _, _⟩ := hst.toMark
  have nd' : H d = none := S1.free nd
  generalize hroad : r :: rs = road at *
  refine ⟨_, rfl, a, rfl, ⟨_, S01.seq ha⟩, for_list (xs := pL road) (fun i σ H' => ∃ (r0 r1 : List Pl) (T0 : Tm) (ks ms1 : List Mk) (vn : V) (kvs : List (Key × V)) (y5 y6 : Option V), σ = [some v, some (.ref a), some v1, some vn, some (.ref d), y5, y6] ∧ Same H H' ∧ H' d = some (.dK kvs) ∧ kvs.length ≤ i ∧
    isK kvs (fun k => ks.contains (some k)) ∧ Dp K H' v1 (tmD false (mark 0 t)) ∧ Dp K H' vn (tmD false T0) ∧ sz T0 ≤ 1000 ∧ cnt none T0 = 0 ∧ road = r0 ++ r1 ∧ r0.length = i ∧ Steps T0 r1 ms1 T0' ∧ runC (mark 0 t) road = (runC T0 r1).map (fun y => (ks ++ y.1, y.2))) ?_ ?_ ?_ ?_⟩
  · refine ⟨[], road, mark 0 t, [], ms0, v1, [], none, none, rfl, S01, upd_same, Nat.le_refl _, isK_nil, dp_mono Sd hv1, dp_mono Sd hv1, by rw [sz_mark]; exact hsz, cnt_mark_none _ _, rfl, rfl, hst0, ?_⟩
    cases runC (mark 0 t) road <;> rfl
  · rintro i σ H' hi ⟨_, _, _, _, _, _, _, _, _, _, S, _⟩
    exact S.seq ha
  · rintro i z σ H' hz ⟨r0, r1, T0, ks, ms1, vn, kvs, y5, y6, rfl, S, hd, hl, hk, hv1', hvn, hs0, hc0, e, rfl, hs1, hrun⟩
    obtain ⟨p, hp, rfl⟩ := pL_get hz
    rw [e, List.getElem?_append_right (Nat.le_refl _), Nat.sub_self] at hp
    cases r1 with
    | nil => simp at hp
    | cons p' r1 =>
      simp only [List.getElem?_cons_zero, Option.some.injEq] at hp
      subst hp
      cases hs1 with
      | @cons _ _ m T1 _ ms1 _ s1 hs1 =>
        obtain ⟨k, rfl⟩ : ∃ k, m = some k := by
          cases m with
          | some k => exact ⟨k, rfl⟩
          | none => have := s1.cnt_pos; omega
        have hrl0 : r0.length ≤ 30000 := by
          have := congrArg List.length e
          rw [← hroad] at this
          simp at this; omega
        refine ⟨_, rfl, _, rfl, vn, false, T0, T1, p', k, rfl, hvn, s1, ?_⟩
        refine ⟨_, rfl, _, rfl, iteN (decide_eq_false (by intro z; cases z)) ?_⟩
        refine ⟨_, rfl, _, rfl, d, _, rfl, DPut.k (k := .inl (k : Int)) hd (sl_lt (by omega)), ?_⟩
        have S' := same_mut (o := .dK (putK kvs (.inl (k : Int)) (.bl true))) S nd'
        have g1 := dp_updK (o := .dK (putK kvs (.inl (k : Int)) (.bl true))) hd (noL_tm _ _) hv1'
        have gn := dp_updK (o := .dK (putK kvs (.inl (k : Int)) (.bl true))) hd (noL_tm _ _) hvn
        refine ⟨_, rfl, _, rfl, vn, false, T0, T1, p', some k, rfl, gn, s1, hs0, fun hn H2 S2 => ?_, fun hn H2 r2 S2 hr2 => ?_⟩
        · refine hbad ?_ _ (S'.trans S2)
          have : runC (mark 0 t) road = none := by rw [hrun, runC_stop hn]; rfl
          subst hroad
          cases ef : firstM t (r :: rs) with
          | none => rfl
          | some q => obtain ⟨_, _, _, _, z, _⟩ := firstM_some ef; rw [this] at z; cases z
        · refine ⟨r0 ++ [p'], r1, T1, ks ++ [some k], ms1, r2, _, some (.str (plS p')), some (.int (k : Nat)), rfl, S'.trans S2, S2 _ _ upd_same, Nat.le_trans (length_putK _ _ _) (by omega), (isK_put hk k _).to fun j => ?_,
            dp_mono S2 g1, hr2, (stepC_some hn).2, s1.cnt0 hc0, by rw [e]; simp, by simp, hs1, ?_⟩
          · rw [List.contains_append]
            congr 1
            simp [eq_comm]
          · rw [hrun, runC_step hn]
            cases runC T1 r1 <;> simp
  · rintro σ H' ⟨r0, r1, T0, ks, ms1, vn, kvs, y5, y6, rfl, S, hd, hl, hk, hv1', hvn, hs0, hc0, e, el, hs1, hrun⟩
    have hle := congrArg List.length e
    simp [pL] at el hle
    have : r1 = [] := List.length_eq_zero_iff.mp (by omega)
    subst this
    have hrun' : runC (mark 0 t) road = some (ks, T0) := by rw [hrun]; simp [runC]
    have hf : firstM t road = ((reds (mark 0 t)).find? fun y => ks.contains y.2).map (·.1) := by unfold firstM; rw [hrun']; rfl
    subst hroad
    obtain ⟨p, hp⟩ := firstM_ex hrun'
    have hq := hgood p hp
    refine ⟨_, rfl, v1, false, mark 0 t, rfl, hv1', by rw [sz_mark]; omega, cnt_mark_none _ _, fun H2 pd xs S2 nd2 h2 hx2 => ?_⟩
    have hxl : xs.length = (reds (mark 0 t)).length := by rw [dpa_len hx2]; simp
    have hrl2 := reds_len (mark 0 t)
    rw [sz_mark] at hrl2
    have hd2 := S2 _ _ hd
    refine ⟨pd, rfl, ⟨xs, SqL.of h2⟩, fun D nD => lc_list (xs := xs) (fun i H' => Same H2 H' ∧ H' D = some (.lst (pL ((((reds (mark 0 t)).take i).filter (fun x => ks.contains x.2)).map (·.1))))) ?_ ?_ ?_ ?_⟩
    · exact ⟨same_upd nD, upd_same⟩
    · intro i H' _ ⟨S, _⟩
      exact SqL.of (S _ _ h2)
    · intro i x H' hx ⟨S, hD⟩
      obtain ⟨dd, hdd, hxd⟩ := dpa_get hx2 hx
      rw [List.getElem?_map] at hdd
      obtain ⟨y, hy, rfl⟩ := Option.map_eq_some_iff.mp hdd
      obtain ⟨j, hj⟩ := red_mk (cnt_mark_none t 0) (List.mem_of_getElem? hy)
      obtain ⟨a', rfl, ha'⟩ := dp_red (dp_mono S hxd)
      rw [take_one hy, List.filter_append, List.map_append]
      have hvl : ((((reds (mark 0 t)).take i).filter (fun x => ks.contains x.2)).map (·.1)).length ≤ 30000 := by
        have h1 : (((reds (mark 0 t)).take i).filter (fun x => ks.contains x.2)).length ≤ ((reds (mark 0 t)).take i).length := List.length_filter_le _ _
        rw [List.length_take] at h1; rw [List.length_map]; omega
      have hin : y.2.getD 0 = j := by rw [hj]; rfl
      rw [hin] at ha'
      refine ⟨a', _, rfl, ha', rfl, .str (plS y.1), [.int (j : Nat)], rfl, .int (j : Nat), [], rfl, rfl, rfl, ?_⟩
      refine ⟨_, rfl, _, rfl, d, _, rfl, DGet.k (k := .inl (j : Int)) (S _ _ hd2), _, rfl, ?_⟩
      rw [hk j]
      have e2 : [y].filter (fun x => ks.contains x.2) = if ks.contains (some j) = true then [y] else [] := by simp only [List.filter_cons, List.filter_nil, hj]
      rw [e2]
      refine ite2 (fun c => ?_) (fun c => ?_)
      · refine ⟨_, rfl, _, hD, sl_lt (by simpa [pL] using Nat.le_trans hvl (by decide)), same_mut S nD, ?_⟩
        rw [upd_same, if_pos c]; simp [pL]
      · refine ⟨S, ?_⟩
        rw [hD, if_neg c]; simp [pL]
    · intro H3 ⟨S3, hD⟩
      rw [hxl, List.take_length] at hD
      rw [hf, ← List.head?_filter] at hp
      obtain ⟨y, hy, rfl⟩ := Option.map_eq_some_iff.mp hp
      cases el : (reds (mark 0 t)).filter (fun x => ks.contains x.2) with
      | nil => rw [el] at hy; cases hy
      | cons z zs =>
        rw [el] at hy hD
        cases hy
        exact ⟨D, _, 0, .str (plS y.1), rfl, rfl, SqL.of hD, atI_nat (j := 0) (by simp [pL]), hq _ ((S.trans S2).trans S3)⟩
end
end Ly

/-! W11: without, standard. -/
namespace Ly
open PySem PySem.Spec PyProof.Rows L2
section
variable {P : Program} {w : World} {K : PySem.W.Frag} {mg : Str → Option Value} {base : Heap}
theorem cut_tail (xs : List V) (k : Nat) (h : k ≤ xs.length) : cutV xs (some ((k : Nat) : Int)) none = xs.drop k := by
  unfold cutV
  rw [sIx0 _ _ h]
  rw [List.take_of_length_le]
  simp [HT.sIx_none]
theorem resid_mark (t : Tm) (p r : Pl) : resid (mark 0 t) p r = resid t p r := by
  have := resid_rel (lmk t) (mark 0 t) p r
  rw [rel_mark] at this; exact this.symm
theorem withm_len (m : Mk) (t : Tm) : (withm m t).length ≤ sz t := by
  rw [withm_eq, List.length_map]
  exact Nat.le_trans (List.length_filter_le _ _) (reds_len t)
def spWithout (K : PySem.W.Frag) (C : Addr) : Sp := fun vs H Q E => ∃ (v : V) (a : Addr) (tg : Bool) (t : Tm) (p : Pl) (road : List Pl), vs = [v, .str (plS p), .ref a] ∧ Dp K H v (tmD tg t) ∧ SqL K H a (pL road) ∧ WOk t p road ∧ sz t ≤ 1000 ∧ road.length ≤ 30000 ∧
  (withoutM t p road [] = none → ∀ H', Same H H' → E (.ref C) none H') ∧ (∀ out, withoutM t p road [] = some out → ∀ H' q, Same H H' → H q = none → H' q = some (.lst (pL out)) → Q (.ref q) H')
theorem ok_without {CT CN : Addr} {t1 t2 t3 : Tok} (F : At K mg "without" s_without ["term", "place", "road"]) (B : Blt mg) (C : Cst mg t1 t2 t3) (XT : Exc K mg "TooLarge" CT)
    (D1 : Has P w K mg base CX0 1 "marked" ["nodes"] (spMarked K false)) (D2 : Has P w K mg base CX0 3 "mark_at" ["nodes", "place"] (spMarkAt K)) (D3 : Has P w K mg base CX0 3 "with_mark" ["nodes", "mark"] (spWithMark K))
    (D4 : Has P w K mg base (L2.CX P w) 4 "stepped" ["nodes", "place"] (spStepped K CT)) : Has P w K mg base (L2.CX P w) 5 "without" ["term", "place", "road"] (spWithout K CT) := F.has fun f fd F => by
  obtain ⟨f1, fd1, G_marked, m_marked, k_marked, b_marked⟩ := D1.ex
  obtain ⟨f2, fd2, G_mark_at, m_mark_at, k_mark_at, b_mark_at⟩ := D2.ex
  obtain ⟨f3, fd3, G_with_mark, m_with_mark, k_with_mark, b_with_mark⟩ := D3.ex
  obtain ⟨f4, fd4, G_stepped, m_stepped, k_stepped, b_stepped⟩ := D4.ex
  refine F.okX sc_without (fun vs H Q E h => ?_) (fun cdv A outer s H vs Q E hr h => ?_)
  · obtain ⟨_, _, _, _, _, _, rfl, _⟩ := h
    rfl
  obtain ⟨v, a, tg, t, p, road, rfl, hv, ha, hw, hsz, hrl, hbad, hgood⟩ := h
  refine ⟨_, (pss_cons (ps_set (i := 3) sc_without.nd rfl (Or.inl rfl) (pe_lst pa_nil))
    (pss_cons (ps_for (passes_of rfl) rfl (pi_range1 (by rfl) B.m_range (pa_cons (pe_callB call_len_seq (by rfl) B.m_len (by decide +kernel) (pa_cons (pv 2) pa_nil)) pa_nil)) (pg_name (i := 4) sc_without.nd rfl (Or.inl rfl))
      (pss_cons (ps_if (pt_cmpR op_eq (pe_ix ix_list (pv 2) (pv 4) (fun _ _ => rfl)) (pv 1) (nomark _))
        (pss_one (ps_ret (pe_op op_cat (pv 3) (pe_slice sl_list (pv 2) (po_some (pe_op op_add (pv 4) pe_int)) po_none))))
        pss_nil)
      (pss_cons (ps_set (i := 5) sc_without.nd rfl (Or.inl rfl) (pe_call G_marked (hr.mono (by first | decide | omega)) (by rfl) m_marked k_marked b_marked .nil pass0 (pa_cons (pv 0) pa_nil)))
      (pss_cons (ps_set (i := 6) sc_without.nd rfl (Or.inl rfl) (pe_call G_with_mark (hr.mono (by first | decide | omega)) (by rfl) m_with_mark k_with_mark b_with_mark .nil pass0 (pa_cons (pe_call G_stepped (hr.mono (by first | decide | omega)) (by rfl) m_stepped k_stepped b_stepped .nil (passes_call (takes_of rfl rfl rfl rfl) (fun _ _ _ _ h => h)) (pa_cons (pv 5) (pa_cons (pv 1) pa_nil))) (pa_cons (pe_call G_mark_at (hr.mono (by first | decide | omega)) (by rfl) m_mark_at k_mark_at b_mark_at .nil pass0 (pa_cons (pv 5) (pa_cons (pe_ix ix_list (pv 2) (pv 4) (fun _ _ => rfl)) pa_nil))) pa_nil))))
      (pss_cons (ps_expr (pe_bm PySem.F.plainAttrs_list PySem.F.slot_list_extend PySem.F.type_list_extend mt_extend (pv 3) (pa_cons (pe_revL (pv 6)) pa_nil)))
      (pss_cons (ps_if (pt_cmpR op_gt (pe_callB call_len_seq (by rfl) B.m_len (by decide +kernel) (pa_cons (pv 3) pa_nil)) (pe_glob (v := .int 200) (by rfl) C.g_MOST_ROAD ⟨_, rfl⟩) (nomark _))
        (pss_one (ps_raise rfl (takes_of rfl rfl rfl rfl) (pmk_own PySem.F.excBase_ValueError XT.x XT.g XT.k (raises_own XT.b XT.t) (by rfl))))
        pss_nil)
      (pss_cons (ps_set (i := 7) sc_without.nd rfl (Or.inl rfl) (pe_call G_mark_at (hr.mono (by first | decide | omega)) (by rfl) m_mark_at k_mark_at b_mark_at .nil pass0 (pa_cons (pv 5) (pa_cons (pv 1) pa_nil))))
      (pss_cons (ps_set (i := 5) sc_without.nd rfl (Or.inl rfl) (pe_call G_stepped (hr.mono (by first | decide | omega)) (by rfl) m_stepped k_stepped b_stepped .nil (passes_call (takes_of rfl rfl rfl rfl) (fun _ _ _ _ h => h)) (pa_cons (pv 5) (pa_cons (pe_ix ix_list (pv 2) (pv 4) (fun _ _ => rfl)) pa_nil))))
      (pss_cons (ps_set (i := 1) sc_without.nd rfl (Or.inl rfl) (pe_ix ix_list (pe_call G_with_mark (hr.mono (by first | decide | omega)) (by rfl) m_with_mark k_with_mark b_with_mark .nil pass0 (pa_cons (pv 5) (pa_cons (pv 7) pa_nil))) pe_int (fun _ _ => rfl)))
      (pss_one (ps_set (i := 0) sc_without.nd rfl (Or.inl rfl) (pe_call G_stepped (hr.mono (by first | decide | omega)) (by rfl) m_stepped k_stepped b_stepped .nil (passes_call (takes_of rfl rfl rfl rfl) (fun _ _ _ _ h => h)) (pa_cons (pv 0) (pa_cons (pe_ix ix_list (pv 2) (pv 4) (fun _ _ => rfl)) pa_nil))))))))))))))
    (pss_one (ps_ret (pv 3))))), ?_⟩
  refine ⟨Nat.zero_le _, fun p1 n1 => ?_⟩
  have S0 : Same H (upd H p1 (.lst [])) := same_upd n1
  refine ⟨_, rfl, a, _, rfl, .inl (S0.seq ha), _, rfl, ?_, ?_, for_range (lo := 0) (n := (pL road).length) (fun i σ H' => ∃ (r0 r1 : List Pl) (T0 : Tm) (fd : List Pl) (v0 : V) (y4 y5 y6 y7 : Option V), σ = [some v0, some (.str (plS p)), some (.ref a), some (.ref p1), y4, y5, y6, y7] ∧ Same H H' ∧
    H' p1 = some (.lst (pL fd)) ∧ Dp K H' v0 (tmD tg T0) ∧ sz T0 ≤ 1000 ∧ WOk T0 p r1 ∧ road = r0 ++ r1 ∧ r0.length = i ∧ fd.length ≤ 200 ∧ withoutM t p road [] = withoutM T0 p r1 fd) ?_ ?_ ?_⟩
  · simp [pL]
  · simp [pL]; omega
  · exact ⟨[], road, t, [], v, none, none, none, none, rfl, S0, upd_same, dp_mono S0 hv, hsz, hw, rfl, rfl, by simp, rfl⟩
  · rintro i σ H' hi ⟨r0, r1, T0, fd, v0, y4, y5, y6, y7, rfl, S, g1, hv0, hs0, hw0, e, rfl, hfl, hwm⟩
    rw [show (0 : Int) + (r0.length : Int) = (r0.length : Int) by omega]
    have hlen : road.length = r0.length + r1.length := by rw [e]; simp
    cases r1 with
    | nil => simp [pL] at hi hlen; omega
    | cons r rs =>
      have hget : road[r0.length]? = some r := by rw [e]; simp
      have gat : ∀ H2, Same H H2 → SqL K H2 a (pL road) := fun H2 S2 => S2.seq ha
      have gix : atI (pL road) (r0.length : Int) = some (.str (plS r)) := atI_nat (pL_at hget)
      refine ⟨_, rfl, _, rfl, a, _, _, _, rfl, rfl, gat _ S, gix, _, rfl, rfl, _, rfl, ?_⟩
      by_cases er : r = p
      · subst er
        refine iteP (by simp) ?_
        have hout : withoutM t r road [] = some (fd ++ rs) := by rw [hwm]; simp [withoutM]
        refine ⟨_, rfl, _, rfl, _, rfl, _, _, rfl, rfl, _, rfl, ?_⟩
        unfold tNoPart
        refine ⟨a, _, rfl, gat _ S, fun q nq => ?_⟩
        have hc : cutV (pL road) (some ((r0.length : Int) + 1)) none = pL rs := by
          rw [show (r0.length : Int) + 1 = ((r0.length + 1 : Nat) : Int) by omega, cut_tail _ _ (by simp [pL, hlen])]
          rw [e, show r0 ++ r :: rs = (r0 ++ [r]) ++ rs by simp]
          unfold pL
          rw [List.map_append, List.drop_left' (by simp)]
        rw [hc]
        have nqp : p1 ≠ q := ne_of_none g1 nq
        have Sq := S.trans (same_upd (o := .lst (pL rs)) nq)
        refine ⟨p1, q, _, _, rfl, rfl, by rw [upd_ne nqp]; exact g1, upd_same, sl_ok (by simp [pL]; simp at hlen; omega), fun l nl => ?_⟩
        refine hgood _ hout _ l (Sq.trans (same_upd nl)) (Sq.free nl) ?_
        rw [upd_same]; simp [pL]
      · refine iteN (decide_eq_false fun z => er (plS_inj (by injection z))) ?_
        cases hw0 with
        | hit => exact absurd rfl er
        | @go _ _ _ m t2 n t1 _ hne lt s1 s2 hw1 =>
          obtain ⟨i1, M2, sm1, _, e2⟩ := s1.toMark
          obtain ⟨i2, M1, sm2, _, e1⟩ := s2.toMark
          have hwm' : withoutM t p road [] = (stepC T0 p).bind fun _ => if (fd ++ (resid T0 p r).reverse).length > 200 then none else (stepC T0 r).bind fun x => withoutM x.2 p rs (fd ++ (resid T0 p r).reverse) := by
            rw [hwm]; simp only [withoutM, if_neg er]
          refine ⟨_, rfl, v0, tg, T0, rfl, hv0, by omega, fun H1 v5 S1 hv5 => ?_⟩
          have hm0 : sz (mark 0 T0) ≤ 1000 := by rw [sz_mark]; exact hs0
          have c0 := cnt_mark_none T0 0
          refine ⟨_, rfl, _, rfl, v5, false, mark 0 T0, M2, p, some i1, rfl, hv5, sm1, hm0, fun hn H' S' => ?_, fun hn H3 r3 S3 hr3 => ?_⟩
          · refine hbad ?_ _ ((S.trans S1).trans S')
            rw [hwm', stepC_mark, hn]; rfl
          have hz2 := (stepC_some hn).2
          have hn1 : ∃ x, stepC T0 p = some x := by rw [stepC_mark, hn]; exact ⟨_, rfl⟩
          obtain ⟨x1, hx1⟩ := hn1
          rw [hx1, Option.bind_some] at hwm'
          have S03 := (S.trans S1).trans S3
          refine ⟨_, rfl, _, rfl, _, rfl, a, _, _, _, rfl, rfl, gat _ S03, gix, v5, false, mark 0 T0, M1, r, i2, rfl, dp_mono S3 hv5, sm2, ?_⟩
          refine ⟨r3, false, M2, i2, rfl, hr3, by omega, sm1.cnt0 c0, fun H4 pr S4 nd4 h4 => ?_⟩
          have hres : withm (some i2) M2 = resid T0 p r := by rw [withm_resid sm1 sm2 lt (fresh T0 0 _), resid_mark]
          have hresl : (resid T0 p r).length ≤ 1000 := by rw [← hres]; exact Nat.le_trans (withm_len _ _) hz2
          rw [hres] at h4
          have S04 := S03.trans S4
          have S14 := (S1.trans S3).trans S4
          have g14 := S14 _ _ g1
          refine ⟨_, rfl, lty g14, _, rfl, pr, _, rfl, SqL.of h4, fun q nq => ?_⟩
          have nqp : p1 ≠ q := ne_of_none g14 nq
          have S5 := same_upd (o := .lst (pL (resid T0 p r)).reverse) nq
          have g15 := S5 _ _ g14
          refine ⟨p1, q, _, _, rfl, rfl, g15, upd_same, sl_ok (by simp [pL]; omega), ?_⟩
          have erow : pL fd ++ (pL (resid T0 p r)).reverse = pL (fd ++ (resid T0 p r).reverse) := by simp [pL]
          rw [erow]
          have S6 := same_mut (o := .lst (pL (fd ++ (resid T0 p r).reverse))) (S04.trans S5) n1
          have hv6 := dp_upd (ys := pL (fd ++ (resid T0 p r).reverse)) g15 (noL_tm _ _) (dp_mono ((S3.trans S4).trans S5) hv5)
          have h06 := dp_upd (ys := pL (fd ++ (resid T0 p r).reverse)) g15 (noL_tm _ _) (dp_mono (S14.trans S5) hv0)
          have g16 : (upd (upd H4 q (.lst (pL (resid T0 p r)).reverse)) p1 (.lst (pL (fd ++ (resid T0 p r).reverse)))) p1 = some (.lst (pL (fd ++ (resid T0 p r).reverse))) := upd_same
          generalize upd (upd H4 q (.lst (pL (resid T0 p r)).reverse)) p1 (.lst (pL (fd ++ (resid T0 p r).reverse))) = H6 at S6 hv6 h06 g16 ⊢
          refine ⟨_, rfl, p1, _, rfl, .inl (SqL.of g16), _, _, rfl, rfl, _, rfl, ?_⟩
          have hpl : (pL (fd ++ (resid T0 p r).reverse)).length = (fd ++ (resid T0 p r).reverse).length := by simp [pL]
          rw [hpl]
          refine ite2 (fun c => ?_) (fun c => ?_)
          · have c' := of_decide_eq_true c
            refine hbad ?_ _ S6
            rw [hwm', if_pos (by omega)]
          have c' : ¬ (fd ++ (resid T0 p r).reverse).length > 200 := fun z => c (decide_eq_true (by omega))
          rw [if_neg c'] at hwm'
          refine ⟨_, rfl, _, rfl, v5, false, mark 0 T0, M2, p, i1, rfl, hv6, sm1, ?_⟩
          refine ⟨_, rfl, _, rfl, _, rfl, a, _, _, _, rfl, rfl, gat _ S6, gix, v5, false, mark 0 T0, M1, r, some i2, rfl, hv6, sm2, hm0, fun hn7 H' S' => ?_, fun hn7 H7 r7 S7 hr7 => ?_⟩
          · refine hbad ?_ _ (S6.trans S')
            rw [hwm', stepC_mark, hn7]; rfl
          have hz1 := (stepC_some hn7).2
          refine ⟨_, rfl, _, rfl, r7, false, M1, i1, rfl, hr7, by omega, sm2.cnt0 c0, fun H8 p8 S8 nd8 h8 => ?_⟩
          have hone : withm (some i1) M1 = [p] := by
            have hc1 : cnt (some i1) (mark 0 T0) = 1 := by have := fresh T0 0 (some i1); have := sm1.cnt_pos; omega
            obtain ⟨T3, d1, _⟩ := diagram sm1 sm2 lt
            exact withm_one d1 (by have := sm1.cnt_keep sm2 lt hc1; omega)
          rw [hone] at h8
          refine ⟨p8, _, 0, .str (plS p), rfl, rfl, SqL.of h8, atI_nat (j := 0) rfl, ?_⟩
          have S68 := S7.trans S8
          refine ⟨_, rfl, _, rfl, _, rfl, a, _, _, _, rfl, rfl, gat _ (S6.trans S68), gix, v0, tg, T0, t1, r, n, rfl, dp_mono S68 h06, s2, hs0, fun hn9 H' S' => ?_, fun hn9 H9 r9 S9 hr9 => ?_⟩
          · refine hbad ?_ _ ((S6.trans S68).trans S')
            rw [hwm', hn9]; rfl
          refine ⟨r0 ++ [r], rs, t1, fd ++ (resid T0 p r).reverse, r9, some (.int (r0.length : Int)), some r7, some (.ref pr), some (.int (i1 : Nat)), rfl, (S6.trans S68).trans S9, (S68.trans S9) _ _ g16, hr9, (stepC_some hn9).2, hw1, by rw [e]; simp, by simp, by omega, ?_⟩
          rw [hwm', hn9]; rfl
  · rintro σ H' ⟨r0, r1, T0, fd, v0, y4, y5, y6, y7, rfl, S, g1, hv0, hs0, hw0, e, el, hfl, hwm⟩
    have hlen : road.length = r0.length + r1.length := by rw [e]; simp
    simp [pL] at el
    have : r1 = [] := List.length_eq_zero_iff.mp (by omega)
    subst this
    refine ⟨_, rfl, hgood fd (by rw [hwm]; rfl) _ p1 S n1 g1⟩
end
end Ly

/-! W12: standard. -/
namespace Ly
open PySem PySem.Spec PyProof.Rows L2
section
variable {P : Program} {w : World} {K : PySem.W.Frag} {mg : Str → Option Value} {base : Heap}
def spStandard (K : PySem.W.Frag) (C : Addr) : Sp := fun vs H Q E => ∃ (v : V) (a : Addr) (tg : Bool) (t t' : Tm) (road : List Pl) (ms : List Mk), vs = [v, .ref a] ∧ Dp K H v (tmD tg t) ∧ SqL K H a (pL road) ∧ Steps t road ms t' ∧ sz t ≤ 1000 ∧ road.length ≤ 30000 ∧
  (stdM 201 t road [] = none → ∀ H', Same H H' → E (.ref C) none H') ∧ (∀ out, stdM 201 t road [] = some out → ∀ H' q, Same H H' → H q = none → H' q = some (.lst (pL out)) → Q (.ref q) H')
theorem ok_standard {CT : Addr} {t1 t2 t3 : Tok} (F : At K mg "standard" s_standard ["term", "road"]) (B : Blt mg) (C : Cst mg t1 t2 t3) (XT : Exc K mg "TooLarge" CT)
    (D1 : Has P w K mg base (L2.CX P w) 5 "first_of" ["term", "road"] (spFirst K CT)) (D2 : Has P w K mg base (L2.CX P w) 5 "without" ["term", "place", "road"] (spWithout K CT))
    (D4 : Has P w K mg base (L2.CX P w) 4 "stepped" ["nodes", "place"] (spStepped K CT)) : Has P w K mg base (L2.CX P w) 6 "standard" ["term", "road"] (spStandard K CT) := F.has fun f fd F => by
  obtain ⟨f1, fd1, G_first_of, m_first_of, k_first_of, b_first_of⟩ := D1.ex
  obtain ⟨f2, fd2, G_without, m_without, k_without, b_without⟩ := D2.ex
  obtain ⟨f4, fd4, G_stepped, m_stepped, k_stepped, b_stepped⟩ := D4.ex
  refine F.okX sc_standard (fun vs H Q E h => ?_) (fun cdv A outer s H vs Q E hr h => ?_)
  · obtain ⟨_, _, _, _, _, _, _, rfl, _⟩ := h
    rfl
  obtain ⟨v, a, tg, t, t', road, ms, rfl, hv, ha, hst, hsz, hrl, hbad, hgood⟩ := h
  refine ⟨_, (pss_cons (ps_set (i := 2) sc_standard.nd rfl (Or.inl rfl) (pe_lst pa_nil))
    (pss_cons (ps_set (i := 1) sc_standard.nd rfl (Or.inl rfl) (pe_callTy call_list_of (by rfl) B.m_list (by decide +kernel) (pa_cons (pv 1) pa_nil)))
    (pss_cons (ps_while (passes_of rfl) (pt_truth (pv 1) (by intro _; rfl))
      (pss_cons (ps_set (i := 3) sc_standard.nd rfl (Or.inl rfl) (pe_call G_first_of (hr.mono (by first | decide | omega)) (by rfl) m_first_of k_first_of b_first_of .nil (passes_call (takes_of rfl rfl rfl rfl) (fun _ _ _ _ h => h)) (pa_cons (pv 0) (pa_cons (pv 1) pa_nil))))
      (pss_cons (ps_set (i := 1) sc_standard.nd rfl (Or.inl rfl) (pe_call G_without (hr.mono (by first | decide | omega)) (by rfl) m_without k_without b_without .nil (passes_call (takes_of rfl rfl rfl rfl) (fun _ _ _ _ h => h)) (pa_cons (pv 0) (pa_cons (pv 3) (pa_cons (pv 1) pa_nil)))))
      (pss_cons (ps_expr (pe_bm PySem.F.plainAttrs_list PySem.F.slot_list_append PySem.F.type_list_append mt_append (pv 2) (pa_cons (pv 3) pa_nil)))
      (pss_cons (ps_if (PW.pt (pw_or (pt_cmpR op_gt (pe_callB call_len_seq (by rfl) B.m_len (by decide +kernel) (pa_cons (pv 1) pa_nil)) (pe_glob (v := .int 200) (by rfl) C.g_MOST_ROAD ⟨_, rfl⟩) (nomark _)) (pw_or1 (pt_cmpR op_gt (pe_callB call_len_seq (by rfl) B.m_len (by decide +kernel) (pa_cons (pv 2) pa_nil)) (pe_glob (v := .int 200) (by rfl) C.g_MOST_ROAD ⟨_, rfl⟩) (nomark _)))))
        (pss_one (ps_raise rfl (takes_of rfl rfl rfl rfl) (pmk_own PySem.F.excBase_ValueError XT.x XT.g XT.k (raises_own XT.b XT.t) (by rfl))))
        pss_nil)
      (pss_one (ps_set (i := 0) sc_standard.nd rfl (Or.inl rfl) (pe_call G_stepped (hr.mono (by first | decide | omega)) (by rfl) m_stepped k_stepped b_stepped .nil (passes_call (takes_of rfl rfl rfl rfl) (fun _ _ _ _ h => h)) (pa_cons (pv 0) (pa_cons (pv 3) pa_nil))))))))))
    (pss_one (ps_ret (pv 2)))))), ?_⟩
  refine ⟨Nat.zero_le _, fun p1 n1 => ?_⟩
  have S0 : Same H (upd H p1 (.lst [])) := same_upd n1
  refine ⟨_, rfl, a, _, rfl, .inl (S0.seq ha), fun l nl => ?_⟩
  have S01 := S0.trans (same_upd (o := .lst (pL road)) nl)
  have nlp : p1 ≠ l := ne_of_none upd_same nl
  refine ⟨fun m σ H' => ∃ (T T' : Tm) (road1 fd : List Pl) (ms1 : List Mk) (v0 : V) (q1 : Addr) (y3 : Option V), σ = [some v0, some (.ref q1), some (.ref p1), y3] ∧ Same H H' ∧ H' p1 = some (.lst (pL fd)) ∧ H' q1 = some (.lst (pL road1)) ∧ Dp K H' v0 (tmD tg T) ∧ sz T ≤ 1000 ∧
    Steps T road1 ms1 T' ∧ road1.length ≤ 30000 ∧ stdM 201 t road [] = stdM m T road1 fd ∧ m + fd.length = 201 ∧ fd.length ≤ 200,
    ⟨201, t, t', road, [], ms, v, l, none, rfl, S01, by rw [upd_ne nlp, upd_same]; rfl, upd_same, dp_mono S01 hv, hsz, hst, hrl, rfl, rfl, by simp⟩, fun m σ H' hW => ?_⟩
  obtain ⟨T, T', road1, fd, ms1, v0, q1, y3, rfl, S, g1, gq, hv0, hs0, hst0, hl0, hstd, hm, hfl⟩ := hW
  refine ⟨_, rfl, _, .inl ⟨_, SqL.of gq, rfl⟩, ?_⟩
  cases road1 with
  | nil =>
    refine iteF ?_
    refine ⟨_, rfl, hgood fd ?_ _ p1 S n1 g1⟩
    rw [hstd]; cases m <;> rfl
  | cons r rs =>
    refine iteT ?_
    obtain ⟨n, rfl⟩ : ∃ n, m = n + 1 := ⟨m - 1, by omega⟩
    refine ⟨fun σ' H'' => ∃ m', m' < n + 1 ∧ ∃ (T T' : Tm) (road1 fd : List Pl) (ms1 : List Mk) (v0 : V) (q1 : Addr) (y3 : Option V), σ' = [some v0, some (.ref q1), some (.ref p1), y3] ∧ Same H H'' ∧ H'' p1 = some (.lst (pL fd)) ∧ H'' q1 = some (.lst (pL road1)) ∧ Dp K H'' v0 (tmD tg T) ∧ sz T ≤ 1000 ∧
      Steps T road1 ms1 T' ∧ road1.length ≤ 30000 ∧ stdM 201 t road [] = stdM m' T road1 fd ∧ m' + fd.length = 201 ∧ fd.length ≤ 200, fun _ _ h => h, ?_⟩
    simp only [List.length_cons] at hl0
    refine ⟨_, rfl, _, rfl, v0, q1, tg, T, T', r, rs, ms1, rfl, hv0, SqL.of gq, hst0, hs0, by omega, fun hn H2 S2 => ?_, fun p hp H2 S2 => ?_⟩
    · refine hbad ?_ _ (S.trans S2)
      rw [hstd]; simp only [stdM, hn, Option.bind_none]
    obtain ⟨hw, ⟨m0, T2, s2⟩, hnext⟩ := std_turn hst0 hp
    refine ⟨_, rfl, _, rfl, _, rfl, v0, q1, tg, T, p, r :: rs, rfl, dp_mono S2 hv0, SqL.of (S2 _ _ gq), hw, hs0, by simp; omega, fun hn H3 S3 => ?_, fun out ho H3 q S3 nq hq => ?_⟩
    · refine hbad ?_ _ ((S.trans S2).trans S3)
      rw [hstd]; simp only [stdM, hp, hn, Option.bind_some, Option.bind_none]
    have S23 := S2.trans S3
    have g13 := S23 _ _ g1
    have nqp : q ≠ p1 := fun e => by rw [e, S2 _ _ g1] at nq; cases nq
    have hv3 := dp_mono S23 hv0
    refine ⟨_, rfl, lty g13, _, rfl, p1, _, _, rfl, rfl, g13, sl_lt (by simp [pL]; omega), ?_⟩
    have S4 := same_mut (o := .lst (pL fd ++ [V.str (plS p)])) (S.trans S23) n1
    have hv4 := dp_upd (ys := pL fd ++ [V.str (plS p)]) g13 (noL_tm _ _) hv3
    have g14 : (upd H3 p1 (.lst (pL fd ++ [V.str (plS p)]))) p1 = some (.lst (pL (fd ++ [p]))) := by rw [upd_same]; simp [pL]
    have gq4 : (upd H3 p1 (.lst (pL fd ++ [V.str (plS p)]))) q = some (.lst (pL out)) := by rw [upd_ne nqp]; exact hq
    generalize upd H3 p1 (.lst (pL fd ++ [V.str (plS p)])) = H4 at S4 hv4 g14 gq4 ⊢
    have hstd' : stdM 201 t road [] = if out.length > 200 ∨ fd.length + 1 > 200 then none else (stepC T p).bind fun x => stdM n x.2 out (fd ++ [p]) := by
      rw [hstd]; simp only [stdM, hp, ho, Option.bind_some]
    have l1 : (pL out).length = out.length := by simp [pL]
    have l2 : (pL (fd ++ [p])).length = fd.length + 1 := by simp [pL]
    refine ⟨_, rfl, q, _, rfl, .inl (SqL.of gq4), _, _, rfl, rfl, _, rfl, ?_⟩
    rw [l1]
    refine ite2 (fun c => iteT ?_) (fun c => ?_)
    · have c' := of_decide_eq_true c
      refine hbad ?_ _ S4
      rw [hstd', if_pos (.inl (by omega))]
    refine ⟨_, rfl, p1, _, rfl, .inl (SqL.of g14), _, _, rfl, rfl, _, rfl, ?_⟩
    rw [l2]
    have c1 : ¬ out.length > 200 := fun z => c (decide_eq_true (by omega))
    refine ite2 (fun c2 => ?_) (fun c2 => ?_)
    · have c2' := of_decide_eq_true c2
      refine hbad ?_ _ S4
      rw [hstd', if_pos (.inr (by omega))]
    have c2' : ¬ fd.length + 1 > 200 := fun z => c2 (decide_eq_true (by omega))
    rw [if_neg (by omega)] at hstd'
    refine ⟨_, rfl, _, rfl, v0, tg, T, T2, p, m0, rfl, hv4, s2, hs0, fun hn H5 S5 => ?_, fun hn H5 r5 S5 hr5 => ?_⟩
    · refine hbad ?_ _ (S4.trans S5)
      rw [hstd', hn]; rfl
    obtain ⟨ks, t'', hst2⟩ := hnext out ho m0 T2 s2
    refine ⟨n, by omega, T2, t'', out, fd ++ [p], ks, r5, q, some (.str (plS p)), rfl, S4.trans S5, S5 _ _ g14, S5 _ _ gq4, hr5, (stepC_some hn).2, hst2, by omega, ?_, by simp; omega, by simp; omega⟩
    rw [hstd', hn]; rfl
end
end Ly

/-! W13: is_standard. -/
namespace Ly
open PySem PySem.Spec PyProof.Rows L2
section
variable {P : Program} {w : World} {K : PySem.W.Frag} {mg : Str → Option Value} {base : Heap}
theorem now0_big {t : Tm} {fr : Nat → Bool} {k : Nat} (h : sz t ≤ k) : now0 t fr k = false := by
  have h1 : (flat t)[k]? = none := List.getElem?_eq_none (by rw [flat_len]; exact h)
  simp only [now0, lmk, h1]
def frN (fr : Nat → Bool) : Nd → Bool
  | .lam (some j) => fr j
  | _ => false
theorem now0_at {t : Tm} {fr : Nat → Bool} {k : Nat} {nd : Nd} (h : (flat t)[k]? = some nd) : now0 t fr k = frN fr nd := by
  simp only [now0, lmk, h]
  cases nd with
  | var n => rfl
  | app => rfl
  | lam m => cases m <;> rfl
theorem isStdM_cons {t : Tm} {fr : Nat → Bool} {p : Pl} {rs : List Pl} {i : Nat} {T1 : Tm} (h : stepC (mark 0 t) p = some (some i, T1)) :
    isStdM t fr (p :: rs) = if now0 t fr i = true then false else isStdM T1 (fun k => now0 t fr k || befM (mark 0 t) p k) rs := by
  simp only [isStdM, h]
theorem Stp.short {t : Tm} {p : Pl} {m : Mk} {t1 : Tm} (h : Stp t p m t1) : p.length ≤ sz t := by
  obtain ⟨c, hc⟩ := h.stpC
  obtain ⟨b, u, pre, post, Z⟩ := hc.pieces
  exact pls_short (List.mem_of_getElem? (pls_idx Z.sb))
def spIsStd (K : PySem.W.Frag) : Sp := fun vs H Q _ => ∃ (v : V) (a : Addr) (tg : Bool) (t : Tm) (road : List Pl) (x : List Mk × Tm), vs = [v, .ref a] ∧ Dp K H v (tmD tg t) ∧ SqL K H a (pL road) ∧ runC t road = some x ∧ sz t ≤ 1000 ∧ road.length ≤ 30000 ∧
  ∀ H', Same H H' → Q (.bl (isStdM t (fun _ => false) road)) H'
theorem ok_is_standard {CT : Addr} (F : At K mg "is_standard" s_is_standard ["term", "road"]) (B : Blt mg)
    (D0 : Has P w K mg base (L2.CX P w) 5 "follow" ["term", "road"] (spFollow K)) (D1 : Has P w K mg base CX0 1 "marked" ["nodes"] (spMarked K false)) (D2 : Has P w K mg base CX0 3 "mark_at" ["nodes", "place"] (spMarkAt K))
    (D3 : Has P w K mg base CX0 2 "marks" ["nodes"] (spMarks K)) (D5 : Has P w K mg base CX0 1 "comes_before" ["first", "second"] spBefore)
    (D4 : Has P w K mg base (L2.CX P w) 4 "stepped" ["nodes", "place"] (spStepped K CT)) : Has P w K mg base (L2.CX P w) 6 "is_standard" ["term", "road"] (spIsStd K) := F.has fun f fd F => by
  obtain ⟨f0, fd0, G_follow, m_follow, k_follow, b_follow⟩ := D0.ex
  obtain ⟨f1, fd1, G_marked, m_marked, k_marked, b_marked⟩ := D1.ex
  obtain ⟨f2, fd2, G_mark_at, m_mark_at, k_mark_at, b_mark_at⟩ := D2.ex
  obtain ⟨f3, fd3, G_marks, m_marks, k_marks, b_marks⟩ := D3.ex
  obtain ⟨f5, fd5, G_comes_before, m_comes_before, k_comes_before, b_comes_before⟩ := D5.ex
  obtain ⟨f4, fd4, G_stepped, m_stepped, k_stepped, b_stepped⟩ := D4.ex
  refine F.okX sc_is_standard (fun vs H Q E h => ?_) (fun cdv A outer s H vs Q E hr h => ?_)
  · obtain ⟨_, _, _, _, _, _, rfl, _⟩ := h
    rfl
  obtain ⟨v, a, tg, t, road, x, rfl, hv, ha, hrun, hsz, hrl, hgood⟩ := h
  refine ⟨_, (pss_cons (ps_expr (pe_call G_follow (hr.mono (by first | decide | omega)) (by rfl) m_follow k_follow b_follow .nil (passes_call (takes_of rfl rfl rfl rfl) (fun _ _ _ _ h => h)) (pa_cons (pv 0) (pa_cons (pv 1) pa_nil))))
    (pss_cons (ps_set (i := 2) sc_is_standard.nd rfl (Or.inl rfl) pe_dnewK)
    (pss_cons (ps_set (i := 3) sc_is_standard.nd rfl (Or.inl rfl) (pv 0))
    (pss_cons (ps_for (passes_of rfl) rfl (pi_list (pv 1)) (pg_name (i := 4) sc_is_standard.nd rfl (Or.inl rfl))
      (pss_cons (ps_set (i := 5) sc_is_standard.nd rfl (Or.inl rfl) (pe_call G_marked (hr.mono (by first | decide | omega)) (by rfl) m_marked k_marked b_marked .nil pass0 (pa_cons (pv 3) pa_nil)))
      (pss_cons (ps_set (i := 6) sc_is_standard.nd rfl (Or.inl rfl) pe_dnewK)
      (pss_cons (ps_for (passes_of rfl) rfl (pi_zipK (by rfl) B.m_zip (pa_cons (pv 3) (pa_cons (pv 5) pa_nil))) (pg_tup rfl (pgs_cons (pg_name (i := 7) sc_is_standard.nd rfl (Or.inl rfl)) (pgs_cons (pg_name (i := 8) sc_is_standard.nd rfl (Or.inl rfl)) pgs_nil)))
        (pss_one (ps_if (PW.pt (pw_and (pt_val (pe_isTup (mo_var 7) (pe_callB call_isi (by rfl) B.m_isinstance (by decide +kernel) (pa_cons (pv 7) (pa_cons (pe_bltn (v := .ty "tuple") (by rfl) B.m_tuple (by decide +kernel) rfl) pa_nil))))) (pw_and1 (pt_cmp (pc_din (hu_of hr) (pe_mk (mo_var 7) (pe_ix ix_tup (pv 7) pe_int (fun _ _ => rfl))) (pv 2))))))
          (pss_one (ps_dput (hu_of hr) (pv 6) (pe_mk (mo_var 8) (pe_ix ix_tup (pv 8) pe_int (fun _ _ => rfl))) pe_bl rfl))
          pss_nil)))
      (pss_cons (ps_if (pt_cmp (pc_din (hu_of hr) (pe_call G_mark_at (hr.mono (by first | decide | omega)) (by rfl) m_mark_at k_mark_at b_mark_at .nil pass0 (pa_cons (pv 5) (pa_cons (pv 4) pa_nil))) (pv 6)))
        (pss_one (ps_ret pe_bl))
        pss_nil)
      (pss_cons (ps_for (passes_of rfl) rfl (pi_list (pe_call G_marks (hr.mono (by first | decide | omega)) (by rfl) m_marks k_marks b_marks .nil pass0 (pa_cons (pv 5) pa_nil))) (pg_tup rfl (pgs_cons (pg_name (i := 9) sc_is_standard.nd rfl (Or.inl rfl)) (pgs_cons (pg_name (i := 10) sc_is_standard.nd rfl (Or.inl rfl)) pgs_nil)))
        (pss_one (ps_if (pt_val (pe_call G_comes_before (hr.mono (by first | decide | omega)) (by rfl) m_comes_before k_comes_before b_comes_before .nil pass0 (pa_cons (pv 9) (pa_cons (pv 4) pa_nil))))
          (pss_one (ps_dput (hu_of hr) (pv 6) (pv 10) pe_bl rfl))
          pss_nil)))
      (pss_cons (ps_set (i := 3) sc_is_standard.nd rfl (Or.inl rfl) (pe_call G_stepped (hr.mono (by first | decide | omega)) (by rfl) m_stepped k_stepped b_stepped .nil (passes_call (takes_of rfl rfl rfl rfl) (fun _ _ _ _ h => h)) (pa_cons (pv 5) (pa_cons (pv 4) pa_nil))))
      (pss_one (ps_set (i := 2) sc_is_standard.nd rfl (Or.inl rfl) (pv 6))))))))))
    (pss_one (ps_ret pe_bl)))))), ?_⟩
  refine ⟨_, rfl, _, rfl, v, a, tg, t, road, x, rfl, hv, ha, hrun, hsz, fun H1 _ S1 _ => ?_⟩
  refine fun d0 nd0 => ?_
  have S01 := S1.trans (same_upd (o := .dK []) nd0)
  refine ⟨_, rfl, ?_⟩
  refine ⟨_, rfl, a, rfl, ⟨_, S01.seq ha⟩, for_list (xs := pL road) (fun i σ H' => ∃ (r0 r1 : List Pl) (T0 : Tm) (fr : Nat → Bool) (y : List Mk × Tm) (tgn : Bool) (vn : V) (d0 : Addr) (kvs : List (Key × V)) (y4 y5 y6 y7 y8 y9 y10 : Option V),
    σ = [some v, some (.ref a), some (.ref d0), some vn, y4, y5, y6, y7, y8, y9, y10] ∧ Same H H' ∧ H' d0 = some (.dK kvs) ∧ isK kvs fr ∧ Dp K H' vn (tmD tgn T0) ∧ sz T0 ≤ 1000 ∧ road = r0 ++ r1 ∧ r0.length = i ∧ runC T0 r1 = some y ∧
    isStdM t (fun _ => false) road = isStdM T0 fr r1) ?_ ?_ ?_ ?_⟩
  · exact ⟨[], road, t, fun _ => false, x, tg, v, d0, [], none, none, none, none, none, none, none, rfl, S01, upd_same, isK_nil, dp_mono S01 hv, hsz, rfl, rfl, hrun, rfl⟩
  · rintro i σ H' hi ⟨_, _, _, _, _, _, _, _, _, _, _, _, _, _, _, _, _, S, _⟩
    exact S.seq ha
  · rintro i z σ H' hz ⟨r0, r1, T0, fr, y, tgn, vn, d0, kvs, y4, y5, y6, y7, y8, y9, y10, rfl, S, hd0, hk0, hvn, hs0, e, rfl, hr1, hstd⟩
    obtain ⟨p, hp, rfl⟩ := pL_get hz
    rw [e, List.getElem?_append_right (Nat.le_refl _), Nat.sub_self] at hp
    cases r1 with
    | nil => simp at hp
    | cons p' r1 =>
      simp only [List.getElem?_cons_zero, Option.some.injEq] at hp
      subst hp
      obtain ⟨m, t1, y', h1, h2, rfl⟩ := runC_cons hr1
      rw [stepC_mark] at h1
      obtain ⟨z, hz1, ez⟩ := Option.map_eq_some_iff.mp h1
      obtain ⟨mi, M1⟩ := z
      obtain ⟨sm, hszM⟩ := stepC_some hz1
      obtain ⟨i, rfl⟩ : ∃ i, mi = some i := by
        cases mi with
        | some i => exact ⟨i, rfl⟩
        | none => have := sm.cnt_pos; rw [cnt_mark_none] at this; omega
      have et1 : t1 = rel (lmk T0) M1 := by simpa using (congrArg Prod.snd ez).symm
      have hr2 : ∃ y2, runC M1 r1 = some y2 := by
        rw [et1, runC_rel] at h2
        obtain ⟨y2, hy2, _⟩ := Option.map_eq_some_iff.mp h2
        exact ⟨y2, hy2⟩
      obtain ⟨y2, hy2⟩ := hr2
      have hplen : p'.length ≤ 1000 := by have := sm.short; rw [sz_mark] at this; omega
      rw [isStdM_cons hz1] at hstd
      have hm0 : sz (mark 0 T0) ≤ 1000 := by rw [sz_mark]; exact hs0
      have c0 := cnt_mark_none T0 0
      refine ⟨_, rfl, vn, tgn, T0, rfl, hvn, by omega, fun H2 v5 S2 hv5 => ?_⟩
      refine fun d6 nd6 => ?_
      have S02 := S.trans S2
      have nd6' : H d6 = none := S02.free nd6
      have Sd := same_upd (o := .dK []) nd6
      obtain ⟨an, xn, rfl, sqn, han⟩ := dp_tup hvn
      obtain ⟨aa, xa, rfl, sqa, haa⟩ := dp_tup hv5
      have lxn := dp_nodes_len han
      have lxa := dp_nodes_len haa
      rw [flat_len] at lxn lxa
      rw [sz_mark] at lxa
      refine ⟨_, rfl, _, rfl, .tup an, .tup aa, xn, xa, rfl, Same.sqt (S2.trans Sd) sqn, Same.sqt Sd sqa, for_it (walk_zipK (xs := xn) (ys := xa) (n := sz T0) (by omega)) (fun j σ H' => ∃ (kvs6 : List (Key × V)) (z7 z8 : Option V),
        σ = [some v, some (.ref a), some (.ref d0), some (.ref an), some (.str (plS p')), some (.ref aa), some (.ref d6), z7, z8, y9, y10] ∧ Same H2 H' ∧ H' d6 = some (.dK kvs6) ∧ kvs6.length ≤ j ∧ isK kvs6 (fun k => decide (k < j) && now0 T0 fr k)) ?_ ?_ ?_ ?_⟩
      · exact ⟨[], _, _, rfl, Sd, upd_same, Nat.le_refl _, fun k => by simp [valV_nil]⟩
      · rintro j σ H' _ ⟨_, _, _, _, S3, _⟩
        exact ⟨Same.sqt (S2.trans S3) sqn, Same.sqt S3 sqa⟩
      · rintro j x σ H3 H4 hj ⟨kvs6, z7, z8, rfl, S3, h6, hl6, hk6⟩ ⟨T, x, yy, rfl, hT, rfl, hx, hy⟩
        obtain ⟨nd, hn, hxd⟩ := dp_node han hx
        obtain ⟨nd2, hn2, hyd⟩ := dp_node haa hy
        rw [mark_at0 hn] at hn2
        cases hn2
        have ST := same_upd (o := .tup [x, yy]) hT
        have S4 := S3.trans ST
        have en := now0_at (fr := fr) hn
        refine ⟨T, [x, yy], rfl, SqT.of upd_same, rfl, x, [yy], rfl, yy, [], rfl, rfl, ?_⟩
        have g6 := ST _ _ h6
        have gd0 := S4 _ _ (S2 _ _ hd0)
        have hx4 := dp_mono (S2.trans S4) hxd
        have hy4 := dp_mono S4 hyd
        generalize upd H3 T (.tup [x, yy]) = H4 at S4 g6 gd0 hx4 hy4 ⊢
        have keep : now0 T0 fr j = false → isK kvs6 (fun k => decide (k < j + 1) && now0 T0 fr k) := fun e0 => hk6.to fun k => by
          by_cases ek : k = j
          · subst ek; simp [e0]
          · congr 1; exact decide_eq_decide.mpr (by omega)
        refine ⟨_, rfl, tgn, nd, hx4, _, rfl, ?_⟩
        cases nd with
        | var n => exact iteF (iteF ⟨kvs6, _, _, rfl, S4, g6, by omega, keep en⟩)
        | app => exact iteF (iteF ⟨kvs6, _, _, rfl, S4, g6, by omega, keep en⟩)
        | lam mm =>
          cases mm with
          | none => exact iteF (iteF ⟨kvs6, _, _, rfl, S4, g6, by omega, keep en⟩)
          | some q =>
            refine iteT ?_
            refine ⟨_, rfl, tgn, q, hx4, _, rfl, d0, _, rfl, DGet.k (k := .inl (q : Int)) gd0, _, rfl, ?_⟩
            rw [hk0 q]
            refine ite2 (fun c => ?_) (fun c => ?_)
            · refine ⟨_, rfl, _, rfl, false, j, hy4, d6, _, rfl, DPut.k (k := .inl (j : Int)) g6 (sl_lt (by omega)), ?_⟩
              refine ⟨_, _, _, rfl, same_mut S4 nd6, upd_same, Nat.le_trans (length_putK _ _ _) (by omega), (isK_put hk6 j _).to fun k => ?_⟩
              by_cases ek : k = j
              · subst ek; simp [en, frN, c]
              · have e5 : decide (k < j + 1) = decide (k < j) := decide_eq_decide.mpr (by omega)
                simp [ek, e5]
            · exact ⟨kvs6, _, _, rfl, S4, g6, by omega, keep (by rw [en]; simpa [frN] using c)⟩
      · rintro σ H3 ⟨kvs6, z7, z8, rfl, S3, h6, hl6, hk6⟩
        have hk6' : isK kvs6 (now0 T0 fr) := hk6.to fun k => by
          by_cases ek : k < sz T0
          · simp [ek]
          · rw [now0_big (by omega)]; simp
        have hv53 := dp_mono S3 hv5
        refine ⟨_, rfl, _, rfl, .ref aa, false, mark 0 T0, M1, p', i, rfl, hv53, sm, _, rfl, d6, _, rfl, DGet.k (k := .inl (i : Int)) h6, _, rfl, ?_⟩
        rw [hk6' i]
        refine ite2 (fun c => ?_) (fun c => ?_)
        · rw [if_pos c] at hstd
          have := hgood H3 (S02.trans S3)
          rw [hstd] at this
          exact this
        rw [if_neg c] at hstd
        refine ⟨_, rfl, .ref aa, false, mark 0 T0, rfl, hv53, by omega, c0, fun H4 pm xs S4 nd4 h4 hx4 => ?_⟩
        have lxs : xs.length = (reds (mark 0 T0)).length := by rw [dpa_len hx4]; simp
        have hrl2 := reds_len (mark 0 T0)
        refine ⟨pm, rfl, ⟨xs, SqL.of h4⟩, for_list (xs := xs) (fun j σ H' => ∃ (kvs7 : List (Key × V)) (z9 z10 : Option V),
          σ = [some v, some (.ref a), some (.ref d0), some (.ref an), some (.str (plS p')), some (.ref aa), some (.ref d6), z7, z8, z9, z10] ∧ Same H2 H' ∧ H' pm = some (.lst xs) ∧ DpAll K H' xs ((reds (mark 0 T0)).map redD) ∧ H' d6 = some (.dK kvs7) ∧ kvs7.length ≤ sz T0 + j ∧
          isK kvs7 (fun k => now0 T0 fr k || ((reds (mark 0 T0)).take j).any (fun x => beforeB x.1 p' && decide (x.2 = some k)))) ?_ ?_ ?_ ?_⟩
        · exact ⟨kvs6, y9, y10, rfl, S3.trans S4, h4, hx4, S4 _ _ h6, by omega, hk6'.to fun k => by simp⟩
        · rintro j σ H' _ ⟨_, _, _, _, _, h5, _⟩
          exact SqL.of h5
        · rintro j x σ H5 hx ⟨kvs7, z9, z10, rfl, S5, h5, hx5, h7, hl7, hk7⟩
          obtain ⟨dd, hdd, hxd⟩ := dpa_get hx5 hx
          rw [List.getElem?_map] at hdd
          obtain ⟨yr, hyr, rfl⟩ := Option.map_eq_some_iff.mp hdd
          have hmem := List.mem_of_getElem? hyr
          obtain ⟨jj, hjj⟩ := red_mk c0 hmem
          obtain ⟨tr, hsr⟩ := mem_reds.mp (show (yr.1, yr.2) ∈ _ from hmem)
          have hylen : yr.1.length ≤ 1000 := by have := hsr.short; omega
          obtain ⟨a', rfl, ha'⟩ := dp_red hxd
          have hin : yr.2.getD 0 = jj := by rw [hjj]; rfl
          rw [hin] at ha'
          have hjl : j < xs.length := (List.getElem?_eq_some_iff.mp hx).1
          refine ⟨a', _, rfl, ha', rfl, .str (plS yr.1), [.int (jj : Nat)], rfl, .int (jj : Nat), [], rfl, rfl, ?_⟩
          refine ⟨_, rfl, _, rfl, yr.1, p', rfl, by omega, by omega, fun H6 S6 => ⟨_, rfl, ?_⟩⟩
          have hany : ∀ k, ((reds (mark 0 T0)).take (j + 1)).any (fun x => beforeB x.1 p' && decide (x.2 = some k)) = (((reds (mark 0 T0)).take j).any (fun x => beforeB x.1 p' && decide (x.2 = some k)) || (beforeB yr.1 p' && decide (k = jj))) := fun k => by
            rw [take_one hyr, List.any_append]
            simp [hjj, eq_comm]
          cases hb : beforeB yr.1 p' with
          | true =>
            refine iteT ?_
            refine ⟨_, rfl, _, rfl, d6, _, rfl, DPut.k (k := .inl (jj : Int)) (S6 _ _ h7) (sl_lt (by omega)), ?_⟩
            have npd : pm ≠ d6 := ne_of (S6 _ _ h5) (S6 _ _ h7) (fun e => by cases e)
            refine ⟨_, _, _, rfl, same_mut (S5.trans S6) nd6, by rw [upd_ne npd]; exact S6 _ _ h5, dpa_updK (S6 _ _ h7) (noL_reds _) (dpa_mono S6 hx5), upd_same, Nat.le_trans (length_putK _ _ _) (by omega), (isK_put hk7 jj _).to fun k => ?_⟩
            rw [hany, hb]; simp [Bool.or_assoc]
          | false =>
            refine iteF ?_
            refine ⟨kvs7, _, _, rfl, S5.trans S6, S6 _ _ h5, dpa_mono S6 hx5, S6 _ _ h7, by omega, hk7.to fun k => ?_⟩
            rw [hany, hb]; simp
        · rintro σ H5 ⟨kvs7, z9, z10, rfl, S5, h5, hx5, h7, hl7, hk7⟩
          rw [lxs, List.take_length] at hk7
          refine ⟨_, rfl, _, rfl, .ref aa, false, mark 0 T0, M1, p', some i, rfl, dp_mono S5 hv5, sm, hm0, fun hn => ?_, fun hn H6 r6 S6 hr6 => ?_⟩
          · rw [hz1] at hn; cases hn
          refine ⟨_, rfl, ?_⟩
          exact ⟨r0 ++ [p'], r1, M1, _, y2, false, r6, d6, kvs7, some (.str (plS p')), some (.ref aa), some (.ref d6), z7, z8, z9, z10, rfl, (S02.trans S5).trans S6, S6 _ _ h7, hk7, hr6, hszM, by rw [e]; simp, by simp, hy2, hstd⟩
  · rintro σ H' ⟨r0, r1, T0, fr, y, tgn, vn, d0, kvs, y4, y5, y6, y7, y8, y9, y10, rfl, S, hd0, hk0, hvn, hs0, e, el, hr1, hstd⟩
    have hle := congrArg List.length e
    simp [pL] at el hle
    have : r1 = [] := List.length_eq_zero_iff.mp (by omega)
    subst this
    have := hgood H' S
    rw [hstd] at this
    exact this
end
end Ly

/-! W14: tuple * 1; the law's stream and draws; its redexes and marks. -/
namespace Ly
open PySem PySem.Spec PyProof.Rows L2
/-! ### t * 1 is t -/
theorem tuple_mulW1 (l : Addr) (items : Array Value) (n : Nat) (dd : Option Addr) (sl : Array (Option Value)) (u : Tok) :
    Meets (Builtin.«tuple.__mul__» ⟨[.ref l, .int 1 u], []⟩) (fun _ R s => s.heap.get? l = some { cls := .type "tuple", dict := dd, data := .seq items n, slots := sl } ∧ R (.ok (.ret (Value.ref l))) s) :=
  .of_wp fun prog w A R s h => by
    obtain ⟨hp, g, d, tk, os⟩ := s
    obtain ⟨hl, h⟩ := h
    have f1 := AutoSeq1.idx_int
    have c1 : (items.isEmpty || (1 : Int) == 1) = true := by simp
    wp_walk using wpAny_loadPart' hl
    repeat (first
      | (refine wpAny_ite_true (decide_eq_true c1) ?_; wp_walk using wpAny_loadPart' hl)
      | (refine wpAny_ite_false (decide_eq_false (by decide)) ?_; wp_walk using wpAny_loadPart' hl))
    exact ⟨_, rfl, h⟩
def rRepA (K : PySem.W.Frag) : R2 := fun x y H Q => ∃ l k xs, x = .ref l ∧ y = .int k ∧ SqT K H l xs ∧ xs ≠ [] ∧ 1 ≤ k ∧ k ≤ 1000 ∧ xs.length ≤ 1000 ∧ (k = 1 → Q (.ref l) H) ∧ (k ≠ 1 → ∀ p, H p = none → Q (.ref p) (upd H p (.tup (List.replicate k.toNat xs).flatten)))
theorem op_repA {X : Cx} : OpR X (binaryOp .Mult) (rRepA X.K) := by
  intro pins s σ H x y v u Q I rx ry h
  obtain ⟨l, k, xs, rfl, rfl, hT, hne, h1, h2, hz, q1, q2⟩ := h
  by_cases e : k = 1
  · subst e
    cases rx
    obtain ⟨t, rfl⟩ := ry
    obtain ⟨its, r, ⟨⟨cls, dd, data, sl⟩, ho, hc, n, hd⟩, hs⟩ := I.tuple hT
    simp only at hc hd
    subst hc hd
    exact wpAny_binaryOp_repeat_ref (T := "tuple") (U := "int") (by decide) ⟨_, ho, rfl⟩ (fun s' => typeIs_int s' 1 t) noFill_tuple_mul F.fills_int_mul F.slot_int_rmul repeat_tuple F.slot_int_index.lookup
      (call_meets F.slot_int_rmul (typeIs_int s 1 t) F.entry_int_rmul (F.args_int_rmul_2 _ _) (int_rmul_tuple 1 t l its.toArray n dd sl)
        ⟨ho, rfl, ⟨_, ho, rfl⟩, call_meets F.slot_tuple_mul ⟨_, ho, rfl⟩ F.entry_tuple_mul (F.args_tuple_mul_2 _ _) (tuple_mulW1 l its.toArray n dd sl t) ⟨ho, ⟨.ref l, H, I, rfl, q1 rfl⟩⟩⟩)
  · exact op_repT pins s σ H _ _ v u Q I rx ry ⟨l, k, xs, rfl, rfl, hT, hne, by omega, h2, hz, q2 e⟩
section
variable {P : Program} {w : World} {K : PySem.W.Frag} {mg : Str → Option Value} {base : Heap}
/-! ### the stream -/
def SmX (p : Addr) (H H' : Hp) : Prop := ∀ b x, b ≠ p → H b = some x → H' b = some x
theorem SmX.refl (p : Addr) (H : Hp) : SmX p H H := fun _ _ _ h => h
theorem SmX.trans {p : Addr} {H1 H2 H3 : Hp} (h : SmX p H1 H2) (h' : SmX p H2 H3) : SmX p H1 H3 := fun b x e hb => h' b x e (h b x e hb)
theorem Same.smx {p : Addr} {H H' : Hp} (h : Same H H') : SmX p H H' := fun b x _ hb => h b x hb
theorem smx_upd {p : Addr} {H : Hp} {o : HO} : SmX p H (upd H p o) := fun b x e hb => by rw [upd_ne e]; exact hb
structure StI where
  p : Addr
  l : Addr
  ns : List Int
structure StO (K : PySem.W.Frag) (z : StI) (H : Hp) : Prop where
  ex : ∃ (a b c : Nat), H z.p = some (.lst [.ref z.l, .int (a : Nat), .int (b : Nat), .int (c : Nat)]) ∧ SqL K H z.l (z.ns.map V.int) ∧ z.ns.length ≤ 63
theorem sql_upd {H : Hp} {p l : Addr} {xs zs : List V} {o : HO} (hp : H p = some (.lst xs)) (h : SqL K H l zs) (ne : xs ≠ zs) : SqL K (upd H p o) l zs := by
  rcases h with (h | ⟨o, h⟩) | h
  · exact .inl (.inl (by rw [upd_ne (ne_of h hp (fun e => ne (by injection e with e; exact e.symm)))]; exact h))
  · exact .inl (.inr ⟨o, by rw [upd_ne (ne_of h hp (fun e => by cases e))]; exact h⟩)
  · exact .inr h
theorem StO.same {p : StI} {H H' : Hp} (h : StO K p H) (S : Same H H') : StO K p H' := by
  obtain ⟨a, b, c, h1, h2, h3⟩ := h.ex
  exact ⟨a, b, c, S _ _ h1, S.seq h2, h3⟩
/-- a list that the stream's own heap did not know may change -/
theorem StO.mut {p : StI} {H H' : Hp} {q : Addr} {o : HO} (h' : StO K p H') (h : StO K p H) (n : H q = none) : StO K p (upd H' q o) := by
  obtain ⟨a, b, c, h1, h2, h3⟩ := h'.ex
  obtain ⟨a0, b0, c0, k1, k2, k3⟩ := h.ex
  refine ⟨a, b, c, by rw [upd_ne (ne_of_none k1 n)]; exact h1, ?_, h3⟩
  rcases k2 with k2 | k2
  · have ne : p.l ≠ q := by
      rcases k2 with k2 | ⟨o, k2⟩
      · exact ne_of_none k2 n
      · exact ne_of_none k2 n
    rcases h2 with (h2 | ⟨o, h2⟩) | h2
    · exact .inl (.inl (by rw [upd_ne ne]; exact h2))
    · exact .inl (.inr ⟨o, by rw [upd_ne ne]; exact h2⟩)
    · exact .inr h2
  · exact .inr k2
theorem smx_mut {p q : Addr} {H H' : Hp} {o : HO} (S : SmX p H H') (n : H q = none) : SmX p H (upd H' q o) := fun b x e hb => by
  rw [upd_ne (ne_of_none hb n)]; exact S b x e hb
theorem SmX.sqt {p a : Addr} {H H' : Hp} {xs zs : List V} (S : SmX p H H') (hp : H p = some (.lst xs)) (h : SqT K H a zs) : SqT K H' a zs := by
  rcases h with (h | ⟨o, h⟩) | h
  · exact .inl (.inl (S _ _ (ne_of h hp (fun e => by cases e)) h))
  · exact .inl (.inr ⟨o, S _ _ (ne_of h hp (fun e => by cases e)) h⟩)
  · exact .inr h
mutual
theorem dp_smx {H H' : Hp} {p : Addr} {xs : List V} (S : SmX p H H') (hp : H p = some (.lst xs)) : ∀ {d : PyData} {v : V}, noL d = true → Dp K H v d → Dp K H' v d
  | .none, _, _, h => by cases h; exact .non
  | .bool b, _, _, h => by cases h; exact .bl b
  | .int i, _, _, h => by cases h; exact .int i
  | .str x, _, _, h => by cases h; exact .str x
  | .list ds, _, n, h => by simp [noL] at n
  | .tuple ds, _, n, h => by cases h with | tup hs ha => exact .tup (SmX.sqt S hp hs) (dpa_smx S hp (by simpa [noL] using n) ha)
  | .dict _, _, _, h => by cases h
theorem dpa_smx {H H' : Hp} {p : Addr} {xs : List V} (S : SmX p H H') (hp : H p = some (.lst xs)) : ∀ {ds : List PyData} {vs : List V}, noLs ds = true → DpAll K H vs ds → DpAll K H' vs ds
  | [], _, _, h => by cases h; exact .nil
  | d :: ds, _, n, h => by
    simp only [noLs, Bool.and_eq_true] at n
    cases h with | cons h1 h2 => exact .cons (dp_smx S hp n.1 h1) (dpa_smx S hp n.2 h2)
end
theorem StO.tm {p : StI} {H H' : Hp} {v : V} {tg : Bool} {t : Tm} (h : StO K p H) (S : SmX p.p H H') (hv : Dp K H v (tmD tg t)) : Dp K H' v (tmD tg t) := by
  obtain ⟨a, b, c, h1, h2, h3⟩ := h.ex
  exact dp_smx S h1 (noL_tm _ _) hv
def spStream (K : PySem.W.Frag) : Sp := fun vs H Q _ => ∃ (a : Addr) (ns : List Int), vs = [.ref a] ∧ SqL K H a (ns.map V.int) ∧ ns.length ≤ 63 ∧ ∀ H' (z : StI), Same H H' → H z.p = none → H z.l = none → StO K z H' → Q (.ref z.p) H'
theorem ok_law_stream (F : At K mg "_law_stream" s__law_stream ["_law_script"]) (B : Blt mg) : Has P w K mg base CX0 1 "_law_stream" ["_law_script"] (spStream K) := F.has fun f fd F => by
  refine F.ok sc__law_stream (fun vs H Q E h => ?_) (fun cdv A outer s H vs Q E hr h => ?_)
  · obtain ⟨_, _, rfl, _⟩ := h
    rfl
  obtain ⟨a, ns, rfl, ha, hl, q⟩ := h
  refine ⟨_, (pss_cons (ps_set (i := 1) sc__law_stream.nd rfl (Or.inl rfl) pe_int)
    (pss_cons (ps_for PassesOwn.never rfl (pi_list (pv 0)) (pg_name (i := 2) sc__law_stream.nd rfl (Or.inl rfl))
      (pss_one (ps_set (i := 1) sc__law_stream.nd rfl (Or.inl rfl) (pe_op op_mod (pe_callTy call_int1 (by rfl) B.m_int (by decide +kernel) (pa_cons (pe_op op_add (pe_op op_add (pe_op op_mul (pv 1) pe_int) (pe_op op_mod (pe_callTy call_int1 (by rfl) B.m_int (by decide +kernel) (pa_cons (pv 2) pa_nil)) pe_int)) pe_int) pa_nil)) pe_int))))
    (pss_one (ps_ret (pe_lst (pa_cons (pe_callTy call_list_of (by rfl) B.m_list (by decide +kernel) (pa_cons (pv 0) pa_nil)) (pa_cons pe_int (pa_cons pe_int (pa_cons (pv 1) pa_nil))))))))), ?_⟩
  refine ⟨_, rfl, a, rfl, ⟨_, ha⟩, for_list (xs := ns.map V.int) (fun i σ H' => ∃ (c : Nat) (y2 : Option V), H' = H ∧ σ = [some (.ref a), some (.int (c : Nat)), y2]) ?_ ?_ ?_ ?_⟩
  · exact ⟨17, none, rfl, rfl⟩
  · rintro i σ H' _ ⟨_, _, rfl, _⟩
    exact ha
  · rintro i x σ H' hx ⟨c, y2, rfl, rfl⟩
    rw [List.getElem?_map] at hx
    obtain ⟨n, hn, rfl⟩ := Option.map_eq_some_iff.mp hx
    refine ⟨_, rfl, _, _, rfl, rfl, .inr (by decide), _, rfl, .inl ⟨_, rfl, _, _, rfl, rfl, (show (0 : Int) < 65521 by decide), _, _, rfl, rfl, _, _, rfl, rfl, .inl ⟨_, rfl, _, _, rfl, rfl, (show (0 : Int) < 2147483647 by decide), ?_⟩⟩⟩
    have h0 : 0 ≤ ((c : Int) * 48271 + n % 65521 + 1) % 2147483647 := Int.emod_nonneg _ (by decide)
    exact ⟨(((c : Int) * 48271 + n % 65521 + 1) % 2147483647).toNat, some (.int n), rfl, by rw [Int.toNat_of_nonneg h0]; rfl⟩
  · rintro σ H' ⟨c, y2, rfl, rfl⟩
    refine ⟨_, rfl, a, _, rfl, .inl ha, fun l nl => ?_⟩
    refine ⟨_, rfl, sl_ok (show 4 ≤ 4000000 by decide), fun p np => ?_⟩
    have S1 := same_upd (o := .lst (ns.map V.int)) nl
    have S2 := same_upd (o := .lst [.ref l, .int 0, .int 0, .int (c : Nat)]) np
    exact q _ ⟨p, l, ns⟩ (S1.trans S2) (S1.free np) nl ⟨0, 0, c, upd_same, SqL.of (S2 _ _ upd_same), hl⟩
def spDraw (K : PySem.W.Frag) : Sp := fun vs H Q _ => ∃ (z : StI) (m : Nat), vs = [.ref z.p, .int (m : Nat)] ∧ StO K z H ∧ 1 ≤ m ∧ m ≤ 100000 ∧ ∀ H' (r : Nat), SmX z.p H H' → StO K z H' → r < m → Q (.int (r : Nat)) H'
theorem ok_law_draw (F : At K mg "_law_draw" s__law_draw ["_law_stream_here", "_law_many"]) (B : Blt mg) : Has P w K mg base CX0 1 "_law_draw" ["_law_stream_here", "_law_many"] (spDraw K) := F.has fun f fd F => by
  refine F.ok sc__law_draw (fun vs H Q E h => ?_) (fun cdv A outer s H vs Q E hr h => ?_)
  · obtain ⟨_, _, rfl, _⟩ := h
    rfl
  obtain ⟨⟨p, l, ns⟩, m, rfl, hS, hm1, hm2, q⟩ := h
  refine ⟨_, (pss_cons (ps_if (PW.pt (pw_and (pt_cmpR op_eq (pe_ix ix_list (pv 0) pe_int (fun _ _ => rfl)) pe_int (nomark _)) (pw_and1 (pt_cmpR op_lt (pe_ix ix_list (pv 0) pe_int (fun _ _ => rfl)) (pe_callB call_len_seq (by rfl) B.m_len (by decide +kernel) (pa_cons (pe_ix ix_list (pv 0) pe_int (fun _ _ => rfl)) pa_nil)) (nomark _)))))
      (pss_cons (ps_asg (pe_callB call_abs (by rfl) B.m_abs (by decide +kernel) (pa_cons (pe_callTy call_int1 (by rfl) B.m_int (by decide +kernel) (pa_cons (pe_ix ix_list (pe_ix ix_list (pv 0) pe_int (fun _ _ => rfl)) (pe_ix ix_list (pv 0) pe_int (fun _ _ => rfl)) (fun _ _ => rfl)) pa_nil)) pa_nil)) (pg_sub (pv 0) pe_int set_list))
      (pss_one (ps_asg (pe_op op_add (pe_ix ix_list (pv 0) pe_int (fun _ _ => rfl)) pe_int) (pg_sub (pv 0) pe_int set_list))))
      pss_nil)
    (pss_cons (ps_if (pt_cmpR op_eq (pe_ix ix_list (pv 0) pe_int (fun _ _ => rfl)) pe_int (nomark _))
      (pss_cons (ps_asg (pe_op op_mod (pe_callTy call_int1 (by rfl) B.m_int (by decide +kernel) (pa_cons (pe_op op_add (pe_op op_mul (pe_ix ix_list (pv 0) pe_int (fun _ _ => rfl)) pe_int) pe_int) pa_nil)) pe_int) (pg_sub (pv 0) pe_int set_list))
      (pss_one (ps_ret (pe_op op_mod (pe_callTy call_int1 (by rfl) B.m_int (by decide +kernel) (pa_cons (pe_op op_fdiv (pe_ix ix_list (pv 0) pe_int (fun _ _ => rfl)) pe_int) pa_nil)) (pv 1)))))
      pss_nil)
    (pss_cons (ps_set (i := 2) sc__law_draw.nd rfl (Or.inl rfl) (pe_op op_mod (pe_callTy call_int1 (by rfl) B.m_int (by decide +kernel) (pa_cons (pe_ix ix_list (pv 0) pe_int (fun _ _ => rfl)) pa_nil)) (pv 1)))
    (pss_cons (ps_asg (pe_op op_fdiv (pe_ix ix_list (pv 0) pe_int (fun _ _ => rfl)) (pv 1)) (pg_sub (pv 0) pe_int set_list))
    (pss_one (ps_ret (pv 2))))))), ?_⟩
  obtain ⟨a, b, c, h1, h2, h3⟩ := hS.ex
  simp only at h1 h2 h3 q
  have ne : ∀ (a b c : Nat), [V.ref l, .int (a : Nat), .int (b : Nat), .int (c : Nat)] ≠ ns.map V.int := fun a b c e => by
    cases ns with
    | nil => cases e
    | cons n ns => simp at e
  -- the last parts
  have finZ : ∀ (H2 : Hp) (a b c : Nat), SmX p H H2 → H2 p = some (.lst [.ref l, .int (a : Nat), .int (b : Nat), .int (c : Nat)]) → SqL K H2 l (ns.map V.int) → ∀ z : Int, 0 ≤ z →
      Q (.int (z % 2147483647 / 97 % (m : Int))) (upd H2 p (.lst [.ref l, .int (a : Nat), .int (b : Nat), .int (z % 2147483647)])) := fun H2 a b c S g1 g2 z hz => by
    have e1 : z % 2147483647 = ((z % 2147483647).toNat : Int) := (Int.toNat_of_nonneg (Int.emod_nonneg _ (by decide))).symm
    generalize (z % 2147483647).toNat = k at e1
    rw [e1, show ((k : Int) / 97 % (m : Int)) = ((k / 97 % m : Nat) : Int) by simp]
    exact q _ _ (S.trans smx_upd) ⟨a, b, k, upd_same, sql_upd g1 g2 (ne _ _ _), h3⟩ (Nat.mod_lt _ hm1)
  have finV : ∀ (H2 : Hp) (a b c : Nat), SmX p H H2 → H2 p = some (.lst [.ref l, .int (a : Nat), .int (b : Nat), .int (c : Nat)]) → SqL K H2 l (ns.map V.int) →
      Q (.int ((a : Int) % (m : Int))) (upd H2 p (.lst [.ref l, .int ((a : Int) / (m : Int)), .int (b : Nat), .int (c : Nat)])) := fun H2 a b c S g1 g2 => by
    rw [show ((a : Int) % (m : Int)) = ((a % m : Nat) : Int) by simp, show ((a : Int) / (m : Int)) = ((a / m : Nat) : Int) by simp]
    exact q _ _ (S.trans smx_upd) ⟨a / m, b, c, upd_same, sql_upd g1 g2 (ne _ _ _), h3⟩ (Nat.mod_lt _ hm1)
  have at0 : ∀ (a b c : Nat), atI [V.ref l, .int (a : Nat), .int (b : Nat), .int (c : Nat)] 0 = some (.ref l) := fun a b c => atI_nat (j := 0) rfl
  have at1 : ∀ (a b c : Nat), atI [V.ref l, .int (a : Nat), .int (b : Nat), .int (c : Nat)] 1 = some (.int (a : Nat)) := fun a b c => atI_nat (j := 1) rfl
  have at2 : ∀ (a b c : Nat), atI [V.ref l, .int (a : Nat), .int (b : Nat), .int (c : Nat)] 2 = some (.int (b : Nat)) := fun a b c => atI_nat (j := 2) rfl
  have at3 : ∀ (a b c : Nat), atI [V.ref l, .int (a : Nat), .int (b : Nat), .int (c : Nat)] 3 = some (.int (c : Nat)) := fun a b c => atI_nat (j := 3) rfl
  by_cases ha : a = 0
  · subst ha
    refine ⟨_, rfl, p, _, 1, _, rfl, rfl, SqL.of h1, at1 _ _ _, rfl, _, rfl, iteP (by simp) ?_⟩
    refine ⟨_, rfl, p, _, 2, _, rfl, rfl, SqL.of h1, at2 _ _ _, _, rfl, p, _, 0, _, rfl, rfl, SqL.of h1, at0 _ _ _, l, _, rfl, .inl h2, _, _, rfl, rfl, _, rfl, ?_⟩
    refine ite2 (fun c1 => ?_) (fun c1 => ?_)
    · have hb : b < ns.length := by have := of_decide_eq_true c1; rw [List.length_map] at this; omega
      have hget : (ns.map V.int)[b]? = some (.int ns[b]) := by simp [hb]
      refine ⟨_, rfl, p, _, 0, _, rfl, rfl, SqL.of h1, at0 _ _ _, _, rfl, p, _, 2, _, rfl, rfl, SqL.of h1, at2 _ _ _, l, _, _, _, rfl, rfl, h2, atI_nat (j := b) hget, .inl ⟨_, rfl, _, rfl, _, rfl, p, _, 1, 1, rfl, rfl, h1, rfl, ?_⟩⟩
      have habs : (if ns[b] < 0 then -ns[b] else ns[b]) = ((ns[b].natAbs : Nat) : Int) := by split <;> omega
      rw [habs]
      have g2 := sql_upd (o := .lst [V.ref l, .int (ns[b].natAbs : Nat), .int (b : Nat), .int (c : Nat)]) h1 h2 (ne _ _ _)
      have g1 : (upd H p (.lst [V.ref l, .int (ns[b].natAbs : Nat), .int (b : Nat), .int (c : Nat)])) p = _ := upd_same
      have SA : SmX p H (upd H p (.lst [V.ref l, .int (ns[b].natAbs : Nat), .int (b : Nat), .int (c : Nat)])) := smx_upd
      show _
      refine ⟨_, rfl, p, _, 2, _, rfl, rfl, SqL.of upd_same, at2 _ _ _, _, _, rfl, rfl, _, rfl, p, _, 2, 2, rfl, rfl, upd_same, rfl, ?_⟩
      have g2' := sql_upd (o := .lst [V.ref l, .int (ns[b].natAbs : Nat), .int ((b + 1 : Nat) : Int), .int (c : Nat)]) g1 g2 (ne _ _ _)
      have SB := SA.trans (smx_upd (o := .lst [V.ref l, .int (ns[b].natAbs : Nat), .int ((b + 1 : Nat) : Int), .int (c : Nat)]))
      have g1' : (upd (upd H p (.lst [V.ref l, .int (ns[b].natAbs : Nat), .int (b : Nat), .int (c : Nat)])) p (.lst [V.ref l, .int (ns[b].natAbs : Nat), .int ((b + 1 : Nat) : Int), .int (c : Nat)])) p = _ := upd_same
      generalize ns[b].natAbs = a at *
      by_cases ha : a = 0
      · subst ha
        refine ⟨_, rfl, p, _, 1, _, rfl, rfl, SqL.of g1', at1 _ _ _, rfl, _, rfl, iteP (by simp) ?_⟩
        refine ⟨_, rfl, p, _, 3, _, rfl, rfl, SqL.of g1', at3 _ _ _, _, _, rfl, rfl, .inr (by decide), _, _, rfl, rfl, .inl ⟨_, rfl, _, _, rfl, rfl, (show (0 : Int) < 2147483647 by decide), _, rfl, p, _, 3, 3, rfl, rfl, g1', rfl, ?_⟩⟩
        refine ⟨_, rfl, p, _, 3, _, rfl, rfl, SqL.of upd_same, atI_nat (j := 3) rfl, _, _, rfl, rfl, (show CDiv _ 97 from ⟨by decide, by decide⟩), .inl ⟨_, rfl, _, rfl, _, _, rfl, rfl, by omega, ?_⟩⟩
        exact finZ _ 0 (b + 1) c SB g1' g2' _ (by omega)
      · refine ⟨_, rfl, p, _, 1, _, rfl, rfl, SqL.of g1', at1 _ _ _, rfl, _, rfl, iteN (decide_eq_false fun e => ha (by injection e with e; omega)) ?_⟩
        refine ⟨_, rfl, p, _, 1, _, rfl, rfl, SqL.of g1', at1 _ _ _, .inl ⟨_, rfl, _, rfl, _, _, rfl, rfl, by omega, ?_⟩⟩
        refine ⟨_, rfl, p, _, 1, _, rfl, rfl, SqL.of g1', at1 _ _ _, _, rfl, _, _, rfl, rfl, ⟨by omega, by omega⟩, _, rfl, p, _, 1, 1, rfl, rfl, g1', rfl, ?_⟩
        exact ⟨_, rfl, finV _ a (b + 1) c SB g1' g2'⟩
    · refine ⟨_, rfl, p, _, 1, _, rfl, rfl, SqL.of h1, at1 _ _ _, rfl, _, rfl, iteP (by simp) ?_⟩
      refine ⟨_, rfl, p, _, 3, _, rfl, rfl, SqL.of h1, at3 _ _ _, _, _, rfl, rfl, .inr (by decide), _, _, rfl, rfl, .inl ⟨_, rfl, _, _, rfl, rfl, (show (0 : Int) < 2147483647 by decide), _, rfl, p, _, 3, 3, rfl, rfl, h1, rfl, ?_⟩⟩
      refine ⟨_, rfl, p, _, 3, _, rfl, rfl, SqL.of upd_same, atI_nat (j := 3) rfl, _, _, rfl, rfl, (show CDiv _ 97 from ⟨by decide, by decide⟩), .inl ⟨_, rfl, _, rfl, _, _, rfl, rfl, by omega, ?_⟩⟩
      exact finZ _ 0 b c (SmX.refl _ _) h1 h2 _ (by omega)
  · refine ⟨_, rfl, p, _, 1, _, rfl, rfl, SqL.of h1, at1 _ _ _, rfl, _, rfl, iteN (decide_eq_false fun e => ha (by injection e with e; omega)) ?_⟩
    refine iteF ?_
    refine ⟨_, rfl, p, _, 1, _, rfl, rfl, SqL.of h1, at1 _ _ _, rfl, _, rfl, iteN (decide_eq_false fun e => ha (by injection e with e; omega)) ?_⟩
    refine ⟨_, rfl, p, _, 1, _, rfl, rfl, SqL.of h1, at1 _ _ _, .inl ⟨_, rfl, _, rfl, _, _, rfl, rfl, by omega, ?_⟩⟩
    refine ⟨_, rfl, p, _, 1, _, rfl, rfl, SqL.of h1, at1 _ _ _, _, rfl, _, _, rfl, rfl, ⟨by omega, by omega⟩, _, rfl, p, _, 1, 1, rfl, rfl, h1, rfl, ?_⟩
    exact ⟨_, rfl, finV _ a b c (SmX.refl _ _) h1 h2⟩
end
end Ly

/-! W15: the law's redexes and marks. -/
namespace Ly
open PySem PySem.Spec PyProof.Rows L2
section
variable {P : Program} {w : World} {K : PySem.W.Frag} {mg : Str → Option Value} {base : Heap}
def rps (t : Tm) : List Pl := (reds t).map (·.1)
def spRedexes (K : PySem.W.Frag) : Sp := fun vs H Q _ => ∃ (v : V) (tg : Bool) (t : Tm), vs = [v] ∧ Dp K H v (tmD tg t) ∧ sz t ≤ 30000 ∧ ∀ H' p, Same H H' → H p = none → H' p = some (.lst (pL (rps t))) → Q (.ref p) H'
theorem redm_hd {s : Tm} : (redm s).isSome = match s with | .app (.lam _ _) _ => true | _ => false := by
  cases s with
  | var n => rfl
  | lam _ _ => rfl
  | app g u => cases g <;> rfl
theorem ok_law_redexes (F : At K mg "_law_redexes" s__law_redexes ["_law_term_here"]) (B : Blt mg) (D1 : Has P w K mg base CX0 2 "_law_places" ["_law_term_here"] (spPlaces K)) (D2 : Has P w K mg base CX0 1 "_law_is_lam" ["_law_node"] (spIsLam K)) :
    Has P w K mg base CX0 3 "_law_redexes" ["_law_term_here"] (spRedexes K) := F.has fun f fd F => by
  obtain ⟨f1, fd1, G__law_places, m__law_places, k__law_places, b__law_places⟩ := D1.ex
  obtain ⟨f2, fd2, G__law_is_lam, m__law_is_lam, k__law_is_lam, b__law_is_lam⟩ := D2.ex
  refine F.ok sc__law_redexes (fun vs H Q E h => ?_) (fun cdv A outer s H vs Q E hr h => ?_)
  · obtain ⟨_, _, _, rfl, _⟩ := h
    rfl
  obtain ⟨v, tg, t, rfl, hv, hsz, q⟩ := h
  refine ⟨_, (pss_cons (ps_set (i := 1) sc__law_redexes.nd rfl (Or.inr rfl) (pe_call G__law_places (hr.mono (by first | decide | omega)) (by rfl) m__law_places k__law_places b__law_places .nil pass0 (pa_cons (pv 0) pa_nil)))
    (pss_one (ps_ret (pe_lc (own := [("_law_k", 2)]) (g := gName 2) (tt := tAnd (tNdT K (tNth K (tVar 0) (tVar 2)) Nd.isApp) (tB (tCall (spIsLam K) [] E0 (tCons (tNth K (tVar 0) (tOp (rI0 fun i j => .int (i + j)) (tVar 2) (tC (.int 1)))) tNil)))) (te := tOp (rIxL K) (tVar 1) (tVar 2)) (by rfl) sc__law_redexes.nd (pi_range1 (by rfl) B.m_range (pa_cons (pe_callB call_len_seq (by rfl) B.m_len (by decide +kernel) (pa_cons (pv 0) pa_nil)) pa_nil)) (blkOk_by (own := [("_law_k", 2)]) (N := ["_law_term_here", "_law_places_here", "_law_k"]) (sc := defScope s__law_redexes) (by decide +kernel)) (fun _ _ _ _ _ => by exact (pg_name (i := 2) sc__law_redexes.nd rfl (Or.inl rfl))) (fun _ _ _ _ _ => by exact (pts_one (PW.pt (pw_and (pt_eqApp (mo_nth (mo_var 0) (mo_var 2)) (pt_cmpR (op_eqD hr.units) (pe_nth (mo_var 0) (mo_var 2) (pe_ix ix_tup (pv 0) (pv 2) (fun _ _ => rfl))) pe_str (nomark _))) (pw_and1 (pt_val (pe_call G__law_is_lam (hr.mono (by first | decide | omega)) (by rfl) m__law_is_lam k__law_is_lam b__law_is_lam .nil pass0 (pa_cons (pe_nth (mo_var 0) (mo_I0 (mo_var 2) (mo_c _)) (pe_ix ix_tup (pv 0) (pe_op op_add (pv 2) pe_int) (fun _ _ => rfl))) pa_nil)))))))) (fun _ _ _ _ _ => by exact (pe_ix ix_list (pv 1) (pv 2) (fun _ _ => rfl))))))), ?_⟩
  refine ⟨_, rfl, v, tg, t, rfl, hv, hsz, fun H1 pa S1 nd1 h1 => ?_⟩
  have hv1 := dp_mono S1 hv
  obtain ⟨a, xs, rfl, hs, ha⟩ := dp_tup hv1
  have hxl := dp_nodes_len ha
  rw [flat_len] at hxl
  refine ⟨_, rfl, a, xs, rfl, .inr hs, _, rfl, ?_, ?_, fun D nD => lc_range (lo := 0) (n := xs.length) (fun i H' => Same H1 H' ∧ H' D = some (.lst (pL (((((pls t).take i).filterMap (redO t)).map (·.1)))))) ?_ ?_ ?_⟩
  · omega
  · omega
  · exact ⟨same_upd nD, upd_same⟩
  · intro i H' hi ⟨S, hD⟩
    rw [show (0 : Int) + (i : Int) = (i : Int) by omega]
    obtain ⟨p, hp⟩ : ∃ p, (pls t)[i]? = some p := ⟨_, List.getElem?_eq_getElem (by rw [pls_len]; omega)⟩
    obtain ⟨s, hsb, hi2⟩ := pls_at hp
    obtain ⟨pre, post, et, el⟩ := sub_flat hsb
    have ei : i = pre.length := by omega
    have hget : (flat t)[i]? = some (hdN s) := by
      rw [et, ei, List.getElem?_append_right (Nat.le_refl _), Nat.sub_self, flat_cons]; rfl
    have hv2 := dp_mono S hv1
    have er : redO t p = (redm s).map fun m => (p, m) := by simp [redO, hsb]
    rw [take_one hp, List.filterMap_append, List.map_append]
    have hvl : (((((pls t).take i).filterMap (redO t)).map (·.1))).length ≤ 30000 := by
      have h1 : (((pls t).take i).filterMap (redO t)).length ≤ ((pls t).take i).length := List.length_filterMap_le _ _
      rw [List.length_take, pls_len] at h1; rw [List.length_map]; omega
    have no : (redm s) = none → Same H1 H' ∧ H' D = some (.lst (pL ((((pls t).take i).filterMap (redO t)).map (·.1) ++ ([p].filterMap (redO t)).map (·.1)))) := fun e => ⟨S, by rw [hD]; simp [er, e]⟩
    refine ⟨rfl, _, rfl, _, rfl, tg, _, i, _, hv2, rfl, hget, fun x hx => ⟨tg, _, hx, ?_⟩⟩
    cases s with
    | var n => exact iteF (iteF (no rfl))
    | lam _ _ => exact iteF (iteF (no rfl))
    | app g u =>
      refine iteT ?_
      have hget2 : (flat t)[i + 1]? = some (hdN g) := by
        rw [et, ei, List.getElem?_append_right (by omega), Nat.add_sub_cancel_left]
        simp [flat, flat_cons g]
      refine ⟨_, rfl, _, rfl, _, _, rfl, rfl, tg, _, i + 1, _, hv2, rfl, hget2, fun x hx => ⟨x, tg, _, rfl, hx, _, rfl, ?_⟩⟩
      cases g with
      | var n => exact iteF (no rfl)
      | app _ _ => exact iteF (no rfl)
      | lam m b =>
        refine iteT ?_
        refine ⟨_, rfl, _, rfl, pa, _, _, _, rfl, rfl, SqL.of (S _ _ h1), atI_nat (pL_at hp), ?_⟩
        refine ⟨_, hD, sl_lt (by simpa [pL] using Nat.le_trans hvl (by decide)), same_mut S nD, ?_⟩
        rw [upd_same]; simp [pL, er, redm]
  · intro H' ⟨S, hD⟩
    refine q _ D (S1.trans S) (S1.free nD) ?_
    rw [hD, List.take_of_length_le (by rw [pls_len]; omega)]
    show some (HO.lst (pL (((pls t).filterMap (redO t)).map (·.1)))) = _
    rw [rps, reds_pls]; rfl
/-! ### _law_mark -/
def spLawMark (K : PySem.W.Frag) : Sp := fun vs H Q _ => ∃ (v : V) (tg : Bool) (t t1 : Tm) (p : Pl) (m : Mk), vs = [v, .str (plS p)] ∧ Dp K H v (tmD tg t) ∧ Stp t p m t1 ∧ sz t ≤ 30000 ∧ ∀ H' x, Same H H' → Dp K H' x (ndD tg (.lam m)) → Q x H'
theorem ok_law_mark (F : At K mg "_law_mark" s__law_mark ["_law_term_here", "_law_place"]) (B : Blt mg) (D1 : Has P w K mg base CX0 2 "_law_places" ["_law_term_here"] (spPlaces K)) :
    Has P w K mg base CX0 3 "_law_mark" ["_law_term_here", "_law_place"] (spLawMark K) := F.has fun f fd F => by
  obtain ⟨f1, fd1, G__law_places, m__law_places, k__law_places, b__law_places⟩ := D1.ex
  refine F.ok sc__law_mark (fun vs H Q E h => ?_) (fun cdv A outer s H vs Q E hr h => ?_)
  · obtain ⟨_, _, _, _, _, _, rfl, _⟩ := h
    rfl
  obtain ⟨v, tg, t, t1, p, m, rfl, hv, hst, hsz, q⟩ := h
  refine ⟨_, (pss_one (ps_ret (pe_ix ix_tup (pv 0) (pe_op op_add (pe_bm PySem.F.plainAttrs_list PySem.F.slot_list_index PySem.F.type_list_index mt_index (pe_call G__law_places (hr.mono (by first | decide | omega)) (by rfl) m__law_places k__law_places b__law_places .nil pass0 (pa_cons (pv 0) pa_nil)) (pa_cons (pv 1) pa_nil)) pe_int) (fun _ _ => rfl)))), ?_⟩
  obtain ⟨c, hc⟩ := hst.stpC
  obtain ⟨b, u, pre, post, Z⟩ := hc.pieces
  refine ⟨_, rfl, _, rfl, v, tg, t, rfl, hv, hsz, fun H0 pa S0 nd0 h0 => ⟨lty h0, _, rfl, pa, _, _, idx t p, .str (plS p), rfl, rfl, SqL.of h0, rfl, pL_flat _, pL_at (pls_idx Z.sb), eqV_refl p, idx_no Z.sb, ?_⟩⟩
  have hv0 := dp_mono S0 hv
  obtain ⟨a, xs, rfl, hs, ha⟩ := dp_tup hv0
  have hget : ((flat t).map (ndD tg))[idx t p + 1]? = some (ndD tg (.lam m)) := by
    rw [List.getElem?_map, Z.et, ← Z.len, List.getElem?_append_right (by omega), Nat.add_sub_cancel_left]
    simp [flat]
  obtain ⟨x, hx, hxd⟩ := dpa_at ha hget
  exact ⟨_, _, rfl, rfl, a, xs, _, x, rfl, rfl, hs, atI_nat (j := idx t p + 1) hx, q _ _ S0 hxd⟩
end
end Ly

/-! W16: the law's terms. -/
namespace Ly
open PySem PySem.Spec PyProof.Rows L2
section
variable {P : Program} {w : World} {K : PySem.W.Frag} {mg : Str → Option Value} {base : Heap}
theorem FnOk_never {k : Nat} {f : Addr} {fd : FuncData} {ps : List Str} {CX : CXT} {sp : Sp} (h : ∀ vs H Q E, ¬ sp vs H Q E) : FnOk P w K mg base CX k f fd ps sp :=
  ⟨fun vs H Q E q => absurd q (h vs H Q E), fun _ _ _ _ _ _ _ _ _ _ _ _ _ q => absurd q (h _ _ _ _)⟩
theorem dp_tm1 {H : Hp} {a : Addr} {x : V} {nd : Nd} (h : Dp K H x (ndD false nd)) (hs : SqT K H a [x]) : Dp K H (.ref a) (.tuple ([nd].map (ndD false))) := .tup hs (.cons h .nil)
theorem dp_int {H : Hp} (n : Nat) : Dp K H (.int (n : Nat)) (ndD false (.var n)) := .int _
theorem StO.nds {p : StI} {H H' : Hp} {v : V} {ns : List Nd} (h : StO K p H) (S : SmX p.p H H') (hv : Dp K H v (.tuple (ns.map (ndD false)))) : Dp K H' v (.tuple (ns.map (ndD false))) := by
  obtain ⟨a, b, c, h1, h2, h3⟩ := h.ex
  exact dp_smx S h1 (by simp [noL, noL_nds]) hv
/-! ### _law_term -/
def spTerm (K : PySem.W.Frag) (n : Nat) : Sp := fun vs H Q _ => ∃ (p : StI) (s d : Nat), vs = [.ref p.p, .int (s : Nat), .int (d : Nat)] ∧ StO K p H ∧ 1 ≤ s ∧ s ≤ n ∧ d + s ≤ 100 ∧
  ∀ H' r t, SmX p.p H H' → StO K p H' → Dp K H' r (tmD false t) → sz t + 2 ≤ 3 * s → Q r H'
theorem ok_law_term (Fa : At K mg "_law_term" s__law_term ["_law_stream_here", "_law_size", "_law_depth"]) (B : Blt mg) (D1 : Has P w K mg base CX0 1 "_law_draw" ["_law_stream_here", "_law_many"] (spDraw K)) :
    ∀ n, Has P w K mg base CX0 (n + 1) "_law_term" ["_law_stream_here", "_law_size", "_law_depth"] (spTerm K n)
  | 0 => Fa.has fun f fd F => FnOk_never fun vs H Q E h => by obtain ⟨_, s, _, _, _, h1, h2, _⟩ := h; omega
  | n + 1 => Fa.has fun f fd F => by
    obtain ⟨f1, fd1, G__law_draw, m__law_draw, k__law_draw, b__law_draw⟩ := D1.ex
    obtain ⟨f2, fd2, G__law_term, m__law_term, k__law_term, b__law_term⟩ := (ok_law_term Fa B D1 n).ex
    refine F.ok sc__law_term (fun vs H Q E h => ?_) (fun cdv A outer s H vs Q E hr h => ?_)
    · obtain ⟨_, _, _, rfl, _⟩ := h
      rfl
    obtain ⟨p, s, d, rfl, hS, hs1, hs2, hd, q⟩ := h
    refine ⟨_, (pss_cons (ps_if (pt_cmpR op_lt (pv 1) pe_int (nomark _))
      (pss_one (ps_ret (pe_tup (pa_cons (pe_call G__law_draw (hr.mono (by first | decide | omega)) (by rfl) m__law_draw k__law_draw b__law_draw .nil pass0 (pa_cons (pv 0) (pa_cons (pe_op op_add (pv 2) pe_int) pa_nil))) pa_nil))))
      pss_nil)
    (pss_cons (ps_set (i := 3) sc__law_term.nd rfl (Or.inl rfl) (pe_call G__law_draw (hr.mono (by first | decide | omega)) (by rfl) m__law_draw k__law_draw b__law_draw .nil pass0 (pa_cons (pv 0) (pa_cons pe_int pa_nil))))
    (pss_cons (ps_if (pt_cmpR op_lt (pv 3) pe_int (nomark _))
      (pss_one (ps_ret (pe_op op_catA (pe_tup (pa_cons pe_str pa_nil)) (pe_call G__law_term (hr.mono (by first | decide | omega)) (by rfl) m__law_term k__law_term b__law_term .nil pass0 (pa_cons (pv 0) (pa_cons (pe_op op_sub (pv 1) pe_int) (pa_cons (pe_op op_add (pv 2) pe_int) pa_nil)))))))
      pss_nil)
    (pss_cons (ps_set (i := 4) sc__law_term.nd rfl (Or.inl rfl) (pe_op op_add pe_int (pe_call G__law_draw (hr.mono (by first | decide | omega)) (by rfl) m__law_draw k__law_draw b__law_draw .nil pass0 (pa_cons (pv 0) (pa_cons (pe_op op_sub (pv 1) pe_int) pa_nil)))))
    (pss_cons (ps_if (pt_cmpR op_eq (pv 3) pe_int (nomark _))
      (pss_one (ps_ret (pe_op op_catA (pe_op op_catA (pe_tup (pa_cons pe_str (pa_cons pe_str pa_nil))) (pe_call G__law_term (hr.mono (by first | decide | omega)) (by rfl) m__law_term k__law_term b__law_term .nil pass0 (pa_cons (pv 0) (pa_cons (pv 4) (pa_cons (pe_op op_add (pv 2) pe_int) pa_nil))))) (pe_call G__law_term (hr.mono (by first | decide | omega)) (by rfl) m__law_term k__law_term b__law_term .nil pass0 (pa_cons (pv 0) (pa_cons (pe_op op_sub (pv 1) (pv 4)) (pa_cons (pv 2) pa_nil)))))))
      pss_nil)
    (pss_one (ps_ret (pe_op op_catA (pe_op op_catA (pe_tup (pa_cons pe_str pa_nil)) (pe_call G__law_term (hr.mono (by first | decide | omega)) (by rfl) m__law_term k__law_term b__law_term .nil pass0 (pa_cons (pv 0) (pa_cons (pv 4) (pa_cons (pv 2) pa_nil))))) (pe_call G__law_term (hr.mono (by first | decide | omega)) (by rfl) m__law_term k__law_term b__law_term .nil pass0 (pa_cons (pv 0) (pa_cons (pe_op op_sub (pv 1) (pv 4)) (pa_cons (pv 2) pa_nil)))))))))))), ?_⟩
    refine ⟨_, rfl, _, _, rfl, rfl, _, rfl, ?_⟩
    refine ite2 (fun c => ?_) (fun c => ?_)
    · have c' := of_decide_eq_true c
      refine ⟨_, rfl, _, rfl, _, _, rfl, rfl, p, d + 2, rfl, hS, by omega, by omega, fun H1 r S1 hS1 hr1 => ?_⟩
      refine ⟨sl_ok (show 1 ≤ 4000000 by decide), fun l nl => ?_⟩
      have S2 := same_upd (o := .tup [V.int (r : Nat)]) nl
      exact q _ _ (.var r) (S1.trans (Same.smx S2)) (hS1.same S2) (dp_tm1 (dp_int r) (SqT.of upd_same)) (by simp only [sz]; omega)
    have c' : 2 ≤ s := by
      have : ¬ (s : Int) < 2 := fun z => c (decide_eq_true z)
      omega
    refine ⟨_, rfl, p, 5, rfl, hS, by decide, by decide, fun H1 r S1 hS1 hr1 => ?_⟩
    refine ⟨_, rfl, _, _, rfl, rfl, _, rfl, ?_⟩
    refine ite2 (fun c1 => ?_) (fun c1 => ?_)
    · refine ⟨sl_ok (show 1 ≤ 4000000 by decide), fun l nl => ?_⟩
      have S2 := same_upd (o := .tup [V.str (Str.ofString "lam")]) nl
      have hl : Dp K (upd H1 l (.tup [V.str (Str.ofString "lam")])) (.ref l) (.tuple ([Nd.lam none].map (ndD false))) := dp_tm1 (.str _) (SqT.of upd_same)
      have hS2 := hS1.same S2
      refine ⟨_, rfl, _, rfl, _, _, rfl, rfl, _, rfl, _, _, rfl, rfl, p, s - 1, d + 1, by simp; omega, hS2, by omega, by omega, by omega, fun H3 r3 t3 S3 hS3 hr3 hz3 => ?_⟩
      refine catN (hS2.nds S3 hl) hr3 (by simp [flat_len]; omega) fun H4 r4 S4 hr4 => ?_
      exact q _ _ (.lam none t3) (((S1.trans (Same.smx S2)).trans S3).trans (Same.smx S4)) (hS3.same S4) hr4 (by simp only [sz]; omega)
    refine ⟨_, rfl, _, rfl, _, _, rfl, rfl, p, s - 1, by simp; omega, hS1, by omega, by omega, fun H2 h S2 hS2 hh => ?_⟩
    refine ⟨_, _, rfl, rfl, ?_⟩
    have S02 := S1.trans S2
    refine ⟨_, rfl, rfl, _, rfl, ?_⟩
    refine ite2 (fun c2 => ?_) (fun c2 => ?_)
    · refine ⟨sl_ok (show 2 ≤ 4000000 by decide), fun l nl => ?_⟩
      have S3 := same_upd (o := .tup [V.str (Str.ofString "app"), V.str (Str.ofString "lam")]) nl
      have hl : Dp K (upd H2 l (.tup [V.str (Str.ofString "app"), V.str (Str.ofString "lam")])) (.ref l) (.tuple ([Nd.app, Nd.lam none].map (ndD false))) := .tup (SqT.of upd_same) (.cons (.str _) (.cons (.str _) .nil))
      have hS3 := hS2.same S3
      refine ⟨_, rfl, _, rfl, _, rfl, _, _, rfl, rfl, p, 1 + h, d + 1, by simp, hS3, by omega, by omega, by omega, fun H4 r4 t4 S4 hS4 hr4 hz4 => ?_⟩
      refine catN (hS3.nds S4 hl) hr4 (by simp [flat_len]; omega) fun H5 r5 S5 hr5 => ?_
      have hS5 := hS4.same S5
      refine ⟨_, rfl, _, rfl, _, rfl, _, _, rfl, rfl, _, rfl, p, s - (1 + h), d, by simp; omega, hS5, by omega, by omega, by omega, fun H6 r6 t6 S6 hS6 hr6 hz6 => ?_⟩
      refine catN (a := [Nd.app, Nd.lam none] ++ flat t4) (b := flat t6) (hS5.nds S6 hr5) hr6 (by simp [flat_len]; omega) fun H7 r7 S7 hr7 => ?_
      exact q _ _ (.app (.lam none t4) t6) ((((((S02.trans (Same.smx S3)).trans S4).trans (Same.smx S5)).trans S6)).trans (Same.smx S7)) (hS6.same S7) (by have h7 : Dp K H7 r7 _ := hr7; simpa [tmD, flat] using h7) (by simp only [sz]; omega)
    · refine ⟨sl_ok (show 1 ≤ 4000000 by decide), fun l nl => ?_⟩
      have S3 := same_upd (o := .tup [V.str (Str.ofString "app")]) nl
      have hl : Dp K (upd H2 l (.tup [V.str (Str.ofString "app")])) (.ref l) (.tuple ([Nd.app].map (ndD false))) := dp_tm1 (.str _) (SqT.of upd_same)
      have hS3 := hS2.same S3
      refine ⟨_, rfl, _, rfl, _, rfl, p, 1 + h, d, by simp, hS3, by omega, by omega, by omega, fun H4 r4 t4 S4 hS4 hr4 hz4 => ?_⟩
      refine catN (hS3.nds S4 hl) hr4 (by simp [flat_len]; omega) fun H5 r5 S5 hr5 => ?_
      have hS5 := hS4.same S5
      refine ⟨_, rfl, _, rfl, _, rfl, _, _, rfl, rfl, _, rfl, p, s - (1 + h), d, by simp; omega, hS5, by omega, by omega, by omega, fun H6 r6 t6 S6 hS6 hr6 hz6 => ?_⟩
      refine catN (a := [Nd.app] ++ flat t4) (b := flat t6) (hS5.nds S6 hr5) hr6 (by simp [flat_len]; omega) fun H7 r7 S7 hr7 => ?_
      exact q _ _ (.app t4 t6) ((((((S02.trans (Same.smx S3)).trans S4).trans (Same.smx S5)).trans S6)).trans (Same.smx S7)) (hS6.same S7) (by have h7 : Dp K H7 r7 _ := hr7; simpa [tmD, flat] using h7) (by simp only [sz]; omega)
end
end Ly

/-! W17: closed and rich terms. -/
namespace Ly
open PySem PySem.Spec PyProof.Rows L2
section
variable {P : Program} {w : World} {K : PySem.W.Frag} {mg : Str → Option Value} {base : Heap}
def lamN : Nat → Tm → Tm
  | 0, t => t
  | k + 1, t => .lam none (lamN k t)
theorem flat_lamN (k : Nat) (t : Tm) : flat (lamN k t) = List.replicate k (Nd.lam none) ++ flat t := by
  induction k with
  | zero => rfl
  | succ k ih => simp only [lamN, flat, ih, List.replicate_succ, List.cons_append]
theorem sz_lamN (k : Nat) (t : Tm) : sz (lamN k t) = k + sz t := by
  induction k with
  | zero => simp [lamN]
  | succ k ih => simp only [lamN, sz, ih]; omega
theorem dpa_lams {H : Hp} (k : Nat) : DpAll K H (List.replicate k [V.str (Str.ofString "lam")]).flatten ((List.replicate k (Nd.lam none)).map (ndD false)) := by
  induction k with
  | zero => exact .nil
  | succ k ih =>
    rw [List.replicate_succ, List.replicate_succ, List.flatten_cons, List.map_cons]
    exact .cons (.str _) ih
def spClosed (K : PySem.W.Frag) : Sp := fun vs H Q _ => ∃ (p : StI), vs = [.ref p.p] ∧ StO K p H ∧ ∀ H' r t, SmX p.p H H' → StO K p H' → Dp K H' r (tmD false t) → sz t ≤ 10 → Q r H'
theorem ok_law_closed_term (F : At K mg "_law_closed_term" s__law_closed_term ["_law_stream_here"]) (B : Blt mg) (D1 : Has P w K mg base CX0 1 "_law_draw" ["_law_stream_here", "_law_many"] (spDraw K)) :
    Has P w K mg base CX0 2 "_law_closed_term" ["_law_stream_here"] (spClosed K) := F.has fun f fd F => by
  obtain ⟨f1, fd1, G__law_draw, m__law_draw, k__law_draw, b__law_draw⟩ := D1.ex
  refine F.ok sc__law_closed_term (fun vs H Q E h => ?_) (fun cdv A outer s H vs Q E hr h => ?_)
  · obtain ⟨_, rfl, _⟩ := h
    rfl
  obtain ⟨p, rfl, hS, q⟩ := h
  refine ⟨_, (pss_cons (ps_if (pt_cmpR op_eq (pe_call G__law_draw (hr.mono (by first | decide | omega)) (by rfl) m__law_draw k__law_draw b__law_draw .nil pass0 (pa_cons (pv 0) (pa_cons pe_int pa_nil))) pe_int (nomark _))
      (pss_one (ps_ret (pe_tup (pa_cons (pe_call G__law_draw (hr.mono (by first | decide | omega)) (by rfl) m__law_draw k__law_draw b__law_draw .nil pass0 (pa_cons (pv 0) (pa_cons pe_int pa_nil))) pa_nil))))
      pss_nil)
    (pss_cons (ps_set (i := 1) sc__law_closed_term.nd rfl (Or.inl rfl) (pe_op op_add pe_int (pe_call G__law_draw (hr.mono (by first | decide | omega)) (by rfl) m__law_draw k__law_draw b__law_draw .nil pass0 (pa_cons (pv 0) (pa_cons pe_int pa_nil)))))
    (pss_cons (ps_set (i := 2) sc__law_closed_term.nd rfl (Or.inl rfl) (pe_tup (pa_cons (pe_call G__law_draw (hr.mono (by first | decide | omega)) (by rfl) m__law_draw k__law_draw b__law_draw .nil pass0 (pa_cons (pv 0) (pa_cons (pv 1) pa_nil))) pa_nil)))
    (pss_cons (ps_for PassesOwn.never rfl (pi_range1 (by rfl) B.m_range (pa_cons (pe_call G__law_draw (hr.mono (by first | decide | omega)) (by rfl) m__law_draw k__law_draw b__law_draw .nil pass0 (pa_cons (pv 0) (pa_cons pe_int pa_nil))) pa_nil)) (pg_name (i := 3) sc__law_closed_term.nd rfl (Or.inl rfl))
      (pss_cons (ps_set (i := 4) sc__law_closed_term.nd rfl (Or.inl rfl) (pe_tup (pa_cons (pe_call G__law_draw (hr.mono (by first | decide | omega)) (by rfl) m__law_draw k__law_draw b__law_draw .nil pass0 (pa_cons (pv 0) (pa_cons (pv 1) pa_nil))) pa_nil)))
      (pss_one (ps_if (pt_cmpR op_eq (pe_call G__law_draw (hr.mono (by first | decide | omega)) (by rfl) m__law_draw k__law_draw b__law_draw .nil pass0 (pa_cons (pv 0) (pa_cons pe_int pa_nil))) pe_int (nomark _))
        (pss_one (ps_set (i := 2) sc__law_closed_term.nd rfl (Or.inl rfl) (pe_op op_catA (pe_op op_catA (pe_tup (pa_cons pe_str pa_nil)) (pv 2)) (pv 4))))
        (pss_one (ps_set (i := 2) sc__law_closed_term.nd rfl (Or.inl rfl) (pe_op op_catA (pe_op op_catA (pe_tup (pa_cons pe_str pa_nil)) (pv 4)) (pv 2))))))))
    (pss_one (ps_ret (pe_op op_catA (pe_op op_repA (pe_tup (pa_cons pe_str pa_nil)) (pv 1)) (pv 2)))))))), ?_⟩
  refine ⟨_, rfl, p, 8, rfl, hS, by decide, by decide, fun H1 r S1 hS1 hr1 => ⟨rfl, _, rfl, ?_⟩⟩
  refine ite2 (fun c => ?_) (fun c => ?_)
  · refine ⟨_, rfl, p, 8, rfl, hS1, by decide, by decide, fun H2 r2 S2 hS2 hr2 => ⟨sl_ok (show 1 ≤ 4000000 by decide), fun l nl => ?_⟩⟩
    have S3 := same_upd (o := .tup [V.int (r2 : Nat)]) nl
    exact q _ _ (.var r2) ((S1.trans S2).trans (Same.smx S3)) (hS2.same S3) (dp_tm1 (dp_int r2) (SqT.of upd_same)) (by simp only [sz]; omega)
  refine ⟨_, rfl, p, 3, rfl, hS1, by decide, by decide, fun H2 m S2 hS2 hm => ⟨_, _, rfl, rfl, ?_⟩⟩
  refine ⟨_, rfl, _, rfl, p, 1 + m, by simp, hS2, by omega, by omega, fun H3 r3 S3 hS3 hr3 => ⟨sl_ok (show 1 ≤ 4000000 by decide), fun l nl => ?_⟩⟩
  have S4 := same_upd (o := .tup [V.int (r3 : Nat)]) nl
  have hv4 : Dp K (upd H3 l (.tup [V.int (r3 : Nat)])) (.ref l) (tmD false (.var r3)) := dp_tm1 (dp_int r3) (SqT.of upd_same)
  have hS4 := hS3.same S4
  have S04 := ((S1.trans S2).trans S3).trans (Same.smx S4)
  generalize upd H3 l (.tup [V.int (r3 : Nat)]) = H4 at hv4 hS4 S04 ⊢
  refine ⟨_, rfl, p, 4, rfl, hS4, by decide, by decide, fun H5 n S5 hS5 hn => ⟨_, rfl, by omega, by omega, for_range (lo := 0) (n := ((n : Int)).toNat) (fun i σ H' => ∃ (t : Tm) (v2 : V) (y3 y4 : Option V), σ = [some (.ref p.p), some (.int (1 + (m : Int))), some v2, y3, y4] ∧
    SmX p.p H H' ∧ StO K p H' ∧ Dp K H' v2 (tmD false t) ∧ sz t ≤ 1 + 2 * i) ?_ ?_ ?_⟩⟩
  · exact ⟨.var r3, .ref l, none, none, rfl, S04.trans S5, hS5, hS4.tm S5 hv4, by simp [sz]⟩
  · rintro i σ H' hi ⟨t, v2, y3, y4, rfl, S, hS', hv, hz⟩
    refine ⟨_, rfl, _, rfl, p, 1 + m, by simp, hS', by omega, by omega, fun H6 r6 S6 hS6 hr6 => ⟨sl_ok (show 1 ≤ 4000000 by decide), fun l nl => ?_⟩⟩
    have S7 := same_upd (o := .tup [V.int (r6 : Nat)]) nl
    have ho : Dp K (upd H6 l (.tup [V.int (r6 : Nat)])) (.ref l) (tmD false (.var r6)) := dp_tm1 (dp_int r6) (SqT.of upd_same)
    have hS7 := hS6.same S7
    have S07 := (S.trans S6).trans (Same.smx S7)
    have hv7 := dp_mono S7 (hS'.tm S6 hv)
    generalize upd H6 l (.tup [V.int (r6 : Nat)]) = H7 at ho hS7 S07 hv7 ⊢
    refine ⟨_, rfl, p, 2, rfl, hS7, by decide, by decide, fun H8 r8 S8 hS8 hr8 => ⟨rfl, _, rfl, ?_⟩⟩
    have S08 := S07.trans S8
    have ho8 := hS7.tm S8 ho
    have hv8 := hS7.tm S8 hv7
    refine ite2 (fun c => ?_) (fun c => ?_)
    · refine ⟨sl_ok (show 1 ≤ 4000000 by decide), fun l2 nl2 => ?_⟩
      have S9 := same_upd (o := .tup [V.str (Str.ofString "app")]) nl2
      have ha : Dp K (upd H8 l2 (.tup [V.str (Str.ofString "app")])) (.ref l2) (.tuple ([Nd.app].map (ndD false))) := dp_tm1 (.str _) (SqT.of upd_same)
      refine ⟨_, rfl, ?_⟩
      refine catN ha (dp_mono S9 hv8) (by simp [flat_len]; omega) fun H10 r10 S10 hr10 => ?_
      refine ⟨_, rfl, ?_⟩
      refine catN (a := [Nd.app] ++ flat t) (b := flat (.var r6)) hr10 (dp_mono (S9.trans S10) ho8) (by simp [flat_len, sz]; omega) fun H11 r11 S11 hr11 => ?_
      have h11 : Dp K H11 r11 (.tuple (([Nd.app] ++ flat t ++ flat (.var r6)).map (ndD false))) := hr11
      exact ⟨.app t (.var r6), r11, some (.int (0 + (i : Int))), some (.ref l), rfl, S08.trans (Same.smx ((S9.trans S10).trans S11)), hS8.same ((S9.trans S10).trans S11), by simpa [tmD, flat] using h11, by simp only [sz]; omega⟩
    · refine ⟨sl_ok (show 1 ≤ 4000000 by decide), fun l2 nl2 => ?_⟩
      have S9 := same_upd (o := .tup [V.str (Str.ofString "app")]) nl2
      have ha : Dp K (upd H8 l2 (.tup [V.str (Str.ofString "app")])) (.ref l2) (.tuple ([Nd.app].map (ndD false))) := dp_tm1 (.str _) (SqT.of upd_same)
      refine ⟨_, rfl, ?_⟩
      refine catN (b := flat (.var r6)) ha (dp_mono S9 ho8) (by simp [flat_len, sz]) fun H10 r10 S10 hr10 => ?_
      refine ⟨_, rfl, ?_⟩
      refine catN (a := [Nd.app] ++ flat (.var r6)) (b := flat t) hr10 (dp_mono (S9.trans S10) hv8) (by simp [flat_len, sz]; omega) fun H11 r11 S11 hr11 => ?_
      have h11 : Dp K H11 r11 (.tuple (([Nd.app] ++ flat (.var r6) ++ flat t).map (ndD false))) := hr11
      exact ⟨.app (.var r6) t, r11, some (.int (0 + (i : Int))), some (.ref l), rfl, S08.trans (Same.smx ((S9.trans S10).trans S11)), hS8.same ((S9.trans S10).trans S11), by simpa [tmD, flat] using h11, by simp only [sz]; omega⟩
  · rintro σ H' ⟨t, v2, y3, y4, rfl, S, hS', hv, hz⟩
    have hz' : sz t ≤ 7 := by omega
    refine ⟨sl_ok (show 1 ≤ 4000000 by decide), fun l nl => ?_⟩
    have S9 := same_upd (o := .tup [V.str (Str.ofString "lam")]) nl
    have ek : (1 + (m : Int)).toNat = 1 + m := by omega
    refine ⟨_, rfl, l, _, [.str (Str.ofString "lam")], rfl, rfl, SqT.of upd_same, by simp, by omega, by omega, by simp, fun e => ?_, fun e p2 np2 => ?_⟩
    · have em : m = 0 := by omega
      subst em
      refine ⟨_, rfl, ?_⟩
      refine catN (a := [Nd.lam none]) (b := flat t) (dp_tm1 (.str _) (SqT.of upd_same)) (dp_mono S9 hv) (by simp [flat_len]; omega) fun H10 r10 S10 hr10 => ?_
      exact q _ _ (.lam none t) (S.trans (Same.smx (S9.trans S10))) (hS'.same (S9.trans S10)) hr10 (by simp only [sz]; omega)
    · rw [ek]
      have S10 := same_upd (o := .tup (List.replicate (1 + m) [V.str (Str.ofString "lam")]).flatten) np2
      refine ⟨_, rfl, ?_⟩
      refine catN (a := List.replicate (1 + m) (Nd.lam none)) (b := flat t) (.tup (SqT.of upd_same) (dpa_lams _)) (dp_mono (S9.trans S10) hv) (by simp [flat_len]; omega) fun H11 r11 S11 hr11 => ?_
      have h11 : Dp K H11 r11 (tmD false (lamN (1 + m) t)) := by rw [tmD, flat_lamN]; exact hr11
      exact q _ _ (lamN (1 + m) t) (S.trans (Same.smx ((S9.trans S10).trans S11))) (hS'.same ((S9.trans S10).trans S11)) h11 (by rw [sz_lamN]; omega)
/-! ### _law_rich -/
def spRich (K : PySem.W.Frag) (n : Nat) : Sp := fun vs H Q _ => ∃ (p : StI) (s : Nat), vs = [.ref p.p, .int (s : Nat)] ∧ StO K p H ∧ 1 ≤ s ∧ s ≤ n ∧ s ≤ 20 ∧
  ∀ H' r t, SmX p.p H H' → StO K p H' → Dp K H' r (tmD false t) → sz t + 1 ≤ 36 * s → Q r H'
theorem ok_law_rich (Fa : At K mg "_law_rich" s__law_rich ["_law_stream_here", "_law_size"]) (B : Blt mg) (D1 : Has P w K mg base CX0 1 "_law_draw" ["_law_stream_here", "_law_many"] (spDraw K))
    (D2 : Has P w K mg base CX0 2 "_law_closed_term" ["_law_stream_here"] (spClosed K)) (D3 : Has P w K mg base CX0 13 "_law_term" ["_law_stream_here", "_law_size", "_law_depth"] (spTerm K 12)) :
    ∀ n, Has P w K mg base CX0 (n + 13) "_law_rich" ["_law_stream_here", "_law_size"] (spRich K n)
  | 0 => Fa.has fun f fd F => FnOk_never fun vs H Q E h => by obtain ⟨_, s, _, _, h1, h2, _⟩ := h; omega
  | n + 1 => Fa.has fun f fd F => by
    obtain ⟨f1, fd1, G__law_draw, m__law_draw, k__law_draw, b__law_draw⟩ := D1.ex
    obtain ⟨f2, fd2, G__law_closed_term, m__law_closed_term, k__law_closed_term, b__law_closed_term⟩ := D2.ex
    obtain ⟨f3, fd3, G__law_term, m__law_term, k__law_term, b__law_term⟩ := D3.ex
    obtain ⟨f4, fd4, G__law_rich, m__law_rich, k__law_rich, b__law_rich⟩ := (ok_law_rich Fa B D1 D2 D3 n).ex
    refine F.ok sc__law_rich (fun vs H Q E h => ?_) (fun cdv A outer s H vs Q E hr h => ?_)
    · obtain ⟨_, _, rfl, _⟩ := h
      rfl
    obtain ⟨p, s, rfl, hS, hs1, hs2, hs3, q⟩ := h
    refine ⟨_, (pss_cons (ps_set (i := 2) sc__law_rich.nd rfl (Or.inl rfl) (pe_call G__law_draw (hr.mono (by first | decide | omega)) (by rfl) m__law_draw k__law_draw b__law_draw .nil pass0 (pa_cons (pv 0) (pa_cons pe_int pa_nil))))
    (pss_cons (ps_if (PW.pt (pw_or (pt_cmpR op_lt (pv 1) pe_int (nomark _)) (pw_or1 (pt_cmpR op_eq (pv 2) pe_int (nomark _)))))
      (pss_one (ps_ret (pe_call G__law_closed_term (hr.mono (by first | decide | omega)) (by rfl) m__law_closed_term k__law_closed_term b__law_closed_term .nil pass0 (pa_cons (pv 0) pa_nil))))
      pss_nil)
    (pss_cons (ps_if (pt_cmpR op_eq (pv 2) pe_int (nomark _))
      (pss_one (ps_ret (pe_call G__law_term (hr.mono (by first | decide | omega)) (by rfl) m__law_term k__law_term b__law_term .nil pass0 (pa_cons (pv 0) (pa_cons (pe_op op_add pe_int (pe_call G__law_draw (hr.mono (by first | decide | omega)) (by rfl) m__law_draw k__law_draw b__law_draw .nil pass0 (pa_cons (pv 0) (pa_cons pe_int pa_nil)))) (pa_cons pe_int pa_nil))))))
      pss_nil)
    (pss_cons (ps_if (PW.pt (pw_and (pt_cmpR op_eq (pv 2) pe_int (nomark _)) (pw_and1 (pt_cmpR op_gt (pv 1) pe_int (nomark _)))))
      (pss_one (ps_ret (pe_op op_catA (pe_tup (pa_cons pe_str pa_nil)) (pe_call G__law_rich (hr.mono (by first | decide | omega)) (by rfl) m__law_rich k__law_rich b__law_rich .nil pass0 (pa_cons (pv 0) (pa_cons (pe_op op_sub (pv 1) pe_int) pa_nil))))))
      pss_nil)
    (pss_cons (ps_set (i := 3) sc__law_rich.nd rfl (Or.inl rfl) (pe_op op_add pe_int (pe_call G__law_draw (hr.mono (by first | decide | omega)) (by rfl) m__law_draw k__law_draw b__law_draw .nil pass0 (pa_cons (pv 0) (pa_cons (pe_op op_sub (pv 1) pe_int) pa_nil)))))
    (pss_one (ps_ret (pe_op op_catA (pe_op op_catA (pe_tup (pa_cons pe_str pa_nil)) (pe_call G__law_rich (hr.mono (by first | decide | omega)) (by rfl) m__law_rich k__law_rich b__law_rich .nil pass0 (pa_cons (pv 0) (pa_cons (pv 3) pa_nil)))) (pe_call G__law_rich (hr.mono (by first | decide | omega)) (by rfl) m__law_rich k__law_rich b__law_rich .nil pass0 (pa_cons (pv 0) (pa_cons (pe_op op_sub (pv 1) (pv 3)) pa_nil))))))))))), ?_⟩
    refine ⟨_, rfl, p, 4, rfl, hS, by decide, by decide, fun H1 r S1 hS1 hr1 => ?_⟩
    refine ⟨_, rfl, _, _, rfl, rfl, _, rfl, ?_⟩
    have closed : ∀ (vs : List V), vs = [V.ref p.p] → spClosed K vs H1 Q E0 := fun vs e => ⟨p, e, hS1, fun H2 r2 t2 S2 hS2 hr2 hz2 => q _ _ t2 (S1.trans S2) hS2 hr2 (by omega)⟩
    refine ite2 (fun c => ?_) (fun c => ?_)
    · exact iteT ⟨_, rfl, closed _ rfl⟩
    have c' : 2 ≤ s := by
      have : ¬ (s : Int) < 2 := fun z => c (decide_eq_true z)
      omega
    refine ⟨_, rfl, rfl, _, rfl, ?_⟩
    refine ite2 (fun c1 => ?_) (fun c1 => ?_)
    · exact ⟨_, rfl, closed _ rfl⟩
    refine ⟨_, rfl, rfl, _, rfl, ?_⟩
    refine ite2 (fun c2 => ?_) (fun c2 => ?_)
    · refine ⟨_, rfl, _, rfl, p, 12, rfl, hS1, by decide, by decide, fun H2 r2 S2 hS2 hr2 => ⟨_, _, rfl, rfl, p, 1 + r2, 0, by simp, hS2, by omega, by omega, by omega, fun H3 r3 t3 S3 hS3 hr3 hz3 => ?_⟩⟩
      exact q _ _ t3 ((S1.trans S2).trans S3) hS3 hr3 (by omega)
    have rest : ∀ (D : Ends), D.rt = Q → tSeq (tAsg (tOp (rI0 fun i j => .int (i + j)) (tC (.int 1)) (tCall (spDraw K) [] E0 (tCons (tVar 0) (tCons (tOp (rI0 fun i j => .int (i - j)) (tVar 1) (tC (.int 1))) tNil)))) (gName 3))
        (tRet (tOp (rCatA K) (tOp (rCatA K) (tTup (tCons (tC (.str (Str.ofString "app"))) tNil)) (tCall (spRich K n) [] E0 (tCons (tVar 0) (tCons (tVar 3) tNil)))) (tCall (spRich K n) [] E0 (tCons (tVar 0) (tCons (tOp (rI0 fun i j => .int (i - j)) (tVar 1) (tVar 3)) tNil))))) D
          [some (.ref p.p), some (.int (s : Nat)), some (.int (r : Nat)), none] H1 := fun D eD => by
      subst eD
      refine ⟨_, rfl, _, rfl, _, _, rfl, rfl, p, s - 1, by simp; omega, hS1, by omega, by omega, fun H2 h S2 hS2 hh => ⟨_, _, rfl, rfl, ?_⟩⟩
      refine ⟨sl_ok (show 1 ≤ 4000000 by decide), fun l nl => ?_⟩
      have S3 := same_upd (o := .tup [V.str (Str.ofString "app")]) nl
      have hl : Dp K (upd H2 l (.tup [V.str (Str.ofString "app")])) (.ref l) (.tuple ([Nd.app].map (ndD false))) := dp_tm1 (.str _) (SqT.of upd_same)
      have hS3 := hS2.same S3
      refine ⟨_, rfl, _, rfl, p, 1 + h, by simp, hS3, by omega, by omega, by omega, fun H4 r4 t4 S4 hS4 hr4 hz4 => ?_⟩
      refine catN (hS3.nds S4 hl) hr4 (by simp [flat_len]; omega) fun H5 r5 S5 hr5 => ?_
      have hS5 := hS4.same S5
      refine ⟨_, rfl, _, rfl, _, rfl, _, _, rfl, rfl, p, s - (1 + h), by simp; omega, hS5, by omega, by omega, by omega, fun H6 r6 t6 S6 hS6 hr6 hz6 => ?_⟩
      refine catN (a := [Nd.app] ++ flat t4) (b := flat t6) (hS5.nds S6 hr5) hr6 (by simp [flat_len]; omega) fun H7 r7 S7 hr7 => ?_
      have h7 : Dp K H7 r7 (.tuple (([Nd.app] ++ flat t4 ++ flat t6).map (ndD false))) := hr7
      exact q _ _ (.app t4 t6) ((((((S1.trans S2).trans (Same.smx S3)).trans S4).trans (Same.smx S5)).trans S6).trans (Same.smx S7)) (hS6.same S7) (by simpa [tmD, flat] using h7) (by simp only [sz]; omega)
    refine ⟨_, rfl, rfl, _, rfl, ?_⟩
    refine ite2 (fun c3 => ?_) (fun c3 => ?_)
    · refine ⟨_, rfl, _, _, rfl, rfl, _, rfl, ?_⟩
      refine ite2 (fun c4 => ?_) (fun c4 => ?_)
      · have c4' : 3 ≤ s := by have := of_decide_eq_true c4; omega
        refine ⟨sl_ok (show 1 ≤ 4000000 by decide), fun l nl => ?_⟩
        have S2 := same_upd (o := .tup [V.str (Str.ofString "lam")]) nl
        have hl : Dp K (upd H1 l (.tup [V.str (Str.ofString "lam")])) (.ref l) (.tuple ([Nd.lam none].map (ndD false))) := dp_tm1 (.str _) (SqT.of upd_same)
        have hS2 := hS1.same S2
        refine ⟨_, rfl, _, rfl, _, _, rfl, rfl, p, s - 1, by simp; omega, hS2, by omega, by omega, by omega, fun H3 r3 t3 S3 hS3 hr3 hz3 => ?_⟩
        refine catN (hS2.nds S3 hl) hr3 (by simp [flat_len]; omega) fun H4 r4 S4 hr4 => ?_
        exact q _ _ (.lam none t3) (((S1.trans (Same.smx S2)).trans S3).trans (Same.smx S4)) (hS3.same S4) hr4 (by simp only [sz]; omega)
      · exact rest _ rfl
    · exact iteF (rest _ rfl)
end
end Ly

/-! W18: the law's road, the terms it passes. -/
namespace Ly
open PySem PySem.Spec PyProof.Rows L2
section
variable {P : Program} {w : World} {K : PySem.W.Frag} {mg : Str → Option Value} {base : Heap}
theorem StpC.sz_up {t : Tm} {p : Pl} {m : Mk} {c t1 : Tm} (h : StpC t p m c t1) : sz t1 ≤ sz t * sz t + sz t := by
  obtain ⟨b, v, pre, post, Z⟩ := h.pieces
  have zs := Z.szs
  have h1 := sz_put_le v b 0
  rw [← Z.ec] at h1
  have h2 : sz b * sz v ≤ sz t * sz t := Nat.mul_le_mul (by omega) (by omega)
  have h3 := congrArg List.length Z.et1
  simp only [List.length_append, flat_len] at h3
  omega
theorem Stp.sz_up {t : Tm} {p : Pl} {m : Mk} {t1 : Tm} (h : Stp t p m t1) : sz t1 ≤ sz t * sz t + sz t := by
  obtain ⟨c, hc⟩ := h.stpC
  exact hc.sz_up
theorem mem_rps {t : Tm} {p : Pl} (h : p ∈ rps t) : ∃ m t1, Stp t p m t1 := by
  obtain ⟨x, hx, rfl⟩ := List.mem_map.mp h
  obtain ⟨t1, s⟩ := mem_reds.mp (show (x.1, x.2) ∈ _ from hx)
  exact ⟨_, _, s⟩
theorem rps_mem {t : Tm} {p : Pl} {m : Mk} {t1 : Tm} (h : Stp t p m t1) : p ∈ rps t := List.mem_map.mpr ⟨(p, m), mem_reds.mpr ⟨_, h⟩, rfl⟩
theorem rps_len (t : Tm) : (rps t).length ≤ sz t := by rw [rps, List.length_map]; exact reds_len t
def spRoad (K : PySem.W.Frag) : Sp := fun vs H Q _ => ∃ (z : StI) (v : V) (t : Tm) (n : Nat), vs = [.ref z.p, v, .int (n : Nat)] ∧ StO K z H ∧ Dp K H v (tmD false t) ∧ sz t ≤ 1000 ∧ n ≤ 8 ∧
  ∀ H' q road ms t', SmX z.p H H' → StO K z H' → H q = none → H' q = some (.lst (pL road)) → Steps t road ms t' → road.length ≤ 8 → Q (.ref q) H'
theorem ok_law_road (F : At K mg "_law_road" s__law_road ["_law_stream_here", "_law_term_here", "_law_many"]) (B : Blt mg) (D1 : Has P w K mg base CX0 1 "_law_draw" ["_law_stream_here", "_law_many"] (spDraw K))
    (D2 : Has P w K mg base CX0 3 "_law_redexes" ["_law_term_here"] (spRedexes K)) (D3 : Has P w K mg base CX0 5 "_law_step" ["_law_term_here", "_law_place"] (spLawStep K)) :
    Has P w K mg base CX0 6 "_law_road" ["_law_stream_here", "_law_term_here", "_law_many"] (spRoad K) := F.has fun f fd F => by
  obtain ⟨f1, fd1, G__law_draw, m__law_draw, k__law_draw, b__law_draw⟩ := D1.ex
  obtain ⟨f2, fd2, G__law_redexes, m__law_redexes, k__law_redexes, b__law_redexes⟩ := D2.ex
  obtain ⟨f3, fd3, G__law_step, m__law_step, k__law_step, b__law_step⟩ := D3.ex
  refine F.ok sc__law_road (fun vs H Q E h => ?_) (fun cdv A outer s H vs Q E hr h => ?_)
  · obtain ⟨_, _, _, _, rfl, _⟩ := h
    rfl
  obtain ⟨z, v, t, n, rfl, hS, hv, hsz, hn, q⟩ := h
  refine ⟨_, (pss_cons (ps_set (i := 3) sc__law_road.nd rfl (Or.inl rfl) (pe_lst pa_nil))
    (pss_cons (ps_for PassesOwn.never rfl (pi_range1 (by rfl) B.m_range (pa_cons (pv 2) pa_nil)) (pg_name (i := 4) sc__law_road.nd rfl (Or.inl rfl))
      (pss_cons (ps_set (i := 5) sc__law_road.nd rfl (Or.inl rfl) (pe_call G__law_redexes (hr.mono (by first | decide | omega)) (by rfl) m__law_redexes k__law_redexes b__law_redexes .nil pass0 (pa_cons (pv 1) pa_nil)))
      (pss_cons (ps_if (PW.pt (pw_or (pt_cmpR op_eq (pe_callB call_len_seq (by rfl) B.m_len (by decide +kernel) (pa_cons (pv 5) pa_nil)) pe_int (nomark _)) (pw_or1 (pt_cmpR op_gt (pe_callB call_len_seq (by rfl) B.m_len (by decide +kernel) (pa_cons (pv 1) pa_nil)) pe_int (nomark _)))))
        (pss_one (ps_ret (pv 3)))
        pss_nil)
      (pss_cons (ps_set (i := 6) sc__law_road.nd rfl (Or.inl rfl) (pe_ix ix_list (pv 5) (pe_call G__law_draw (hr.mono (by first | decide | omega)) (by rfl) m__law_draw k__law_draw b__law_draw .nil pass0 (pa_cons (pv 0) (pa_cons (pe_callB call_len_seq (by rfl) B.m_len (by decide +kernel) (pa_cons (pv 5) pa_nil)) pa_nil))) (fun _ _ => rfl)))
      (pss_cons (ps_expr (pe_bm PySem.F.plainAttrs_list PySem.F.slot_list_append PySem.F.type_list_append mt_append (pv 3) (pa_cons (pv 6) pa_nil)))
      (pss_one (ps_set (i := 1) sc__law_road.nd rfl (Or.inl rfl) (pe_call G__law_step (hr.mono (by first | decide | omega)) (by rfl) m__law_step k__law_step b__law_step .nil pass0 (pa_cons (pv 1) (pa_cons (pv 6) pa_nil))))))))))
    (pss_one (ps_ret (pv 3))))), ?_⟩
  refine ⟨Nat.zero_le _, fun q1 n1 => ?_⟩
  have S0 : Same H (upd H q1 (.lst [])) := same_upd n1
  have hzq : z.p ≠ q1 := by obtain ⟨a, b, c, h1, _⟩ := hS.ex; exact ne_of_none h1 n1
  refine ⟨_, rfl, _, rfl, by omega, by omega, for_range (lo := 0) (n := ((n : Int)).toNat) (fun i σ H' => ∃ (road : List Pl) (ms : List Mk) (t0 : Tm) (v0 : V) (y4 y5 y6 : Option V), σ = [some (.ref z.p), some v0, some (.int (n : Nat)), some (.ref q1), y4, y5, y6] ∧ SmX z.p H H' ∧ StO K z H' ∧
    H' q1 = some (.lst (pL road)) ∧ Dp K H' v0 (tmD false t0) ∧ Steps t road ms t0 ∧ road.length ≤ i ∧ sz t0 ≤ 30000) ?_ ?_ ?_⟩
  · exact ⟨[], [], t, v, none, none, none, rfl, Same.smx S0, hS.same S0, upd_same, dp_mono S0 hv, .nil _, Nat.le_refl _, by omega⟩
  · rintro i σ H' hi ⟨road, ms, t0, v0, y4, y5, y6, rfl, S, hS', g1, hv0, hst, hrl, hz0⟩
    refine ⟨_, rfl, v0, false, t0, rfl, hv0, hz0, fun H2 pr S2 nd2 h2 => ?_⟩
    have g2 := S2 _ _ g1
    have hS2 := hS'.same S2
    have hv2 := dp_mono S2 hv0
    have S02 := S.trans (Same.smx S2)
    have done : Q (.ref q1) H2 := q _ q1 road ms t0 S02 hS2 n1 g2 hst (by omega)
    refine ⟨_, rfl, pr, _, rfl, .inl (SqL.of h2), rfl, _, rfl, ?_⟩
    have hrl2 := rps_len t0
    have epl : (pL (rps t0)).length = (rps t0).length := by simp [pL]
    refine ite2 (fun c => iteT ⟨_, rfl, done⟩) (fun c => ?_)
    have c0 : 1 ≤ (rps t0).length := by
      rw [epl] at c
      have : ¬ (rps t0).length = 0 := fun e => c (decide_eq_true (by rw [e]; rfl))
      omega
    obtain ⟨a, xs, rfl, hs, ha⟩ := dp_tup hv2
    have hxl := dp_nodes_len ha
    rw [flat_len] at hxl
    refine ⟨_, rfl, a, xs, rfl, .inr hs, _, _, rfl, rfl, _, rfl, ?_⟩
    refine ite2 (fun c1 => ⟨_, rfl, done⟩) (fun c1 => ?_)
    have c1' : sz t0 ≤ 150 := by
      have : ¬ (150 : Int) < (xs.length : Int) := fun e => c1 (decide_eq_true e)
      omega
    have npr : pr ≠ z.p := fun e => by
      obtain ⟨a', b', c', h1, _⟩ := hS'.ex
      rw [e, h1] at nd2; cases nd2
    refine ⟨_, rfl, _, rfl, _, rfl, pr, _, rfl, .inl (SqL.of h2), z, (pL (rps t0)).length, rfl, hS2, by omega, by omega, fun H3 r S3 hS3 hr3 => ?_⟩
    rw [epl] at hr3
    obtain ⟨p, hp⟩ : ∃ p, (rps t0)[r]? = some p := ⟨_, List.getElem?_eq_getElem hr3⟩
    refine ⟨pr, _, r, .str (plS p), rfl, rfl, SqL.of (S3 _ _ npr h2), atI_nat (pL_at hp), ?_⟩
    obtain ⟨m, t1, s1⟩ := mem_rps (List.mem_of_getElem? hp)
    have g3 := S3 _ _ (Ne.symm hzq) g2
    have hv3 := hS2.tm S3 hv2
    refine ⟨_, rfl, lty g3, _, rfl, q1, _, _, rfl, rfl, g3, sl_lt (by simp [pL]; omega), ?_⟩
    have hv4 := dp_upd (ys := pL road ++ [V.str (plS p)]) g3 (noL_tm _ _) hv3
    have hS4 := hS3.mut (o := .lst (pL road ++ [V.str (plS p)])) hS n1
    have S04 := smx_mut (o := .lst (pL road ++ [V.str (plS p)])) (S02.trans S3) n1
    refine ⟨_, rfl, _, rfl, .ref a, false, t0, t1, p, m, rfl, hv4, s1, by omega, fun H5 r5 S5 hr5 => ?_⟩
    have hz1 : sz t1 ≤ 30000 := by
      have h1 := s1.sz_up
      have h2 : sz t0 * sz t0 ≤ 150 * 150 := Nat.mul_le_mul c1' c1'
      omega
    refine ⟨road ++ [p], ms ++ [m], t1, r5, some (.int (0 + (i : Int))), some (.ref pr), some (.str (plS p)), rfl, S04.trans (Same.smx S5), hS4.same S5, ?_, hr5, hst.append (.one s1), by simp; omega, hz1⟩
    rw [S5 _ _ upd_same]; simp [pL]
  · rintro σ H' ⟨road, ms, t0, v0, y4, y5, y6, rfl, S, hS', g1, hv0, hst, hrl, hz0⟩
    exact ⟨_, rfl, q _ q1 road ms t0 S hS' n1 g1 hst (by omega)⟩
/-! ### _law_passed -/
def passM : Tm → List Pl → Option (List Tm)
  | t, [] => some [t]
  | t, p :: ps =>
    match stepF t p with
    | some x => if sz x.2.2 > 1000 then none else (passM x.2.2 ps).map (t :: ·)
    | none => none
theorem passM_cons {t : Tm} {p : Pl} {ps : List Pl} {m : Mk} {t1 : Tm} (h : Stp t p m t1) : passM t (p :: ps) = if sz t1 > 1000 then none else (passM t1 ps).map (t :: ·) := by
  obtain ⟨c, hc⟩ := h.stpC
  simp only [passM, stepF_of hc]
theorem passM_run : ∀ {road : List Pl} {t : Tm} {x : List Mk × Tm}, runC t road = some x → ∃ L, passM t road = some (L ++ [x.2]) ∧ L.length = road.length
  | [], t, x, h => by cases h; exact ⟨[], rfl, rfl⟩
  | p :: ps, t, x, h => by
    obtain ⟨m, t1, y, h1, h2, rfl⟩ := runC_cons h
    obtain ⟨s1, hz⟩ := stepC_some h1
    obtain ⟨L, hL, hl⟩ := passM_run h2
    refine ⟨t :: L, ?_, by simp [hl]⟩
    rw [passM_cons s1, if_neg (by omega), hL]; rfl
theorem passM_steps : ∀ {road : List Pl} {t : Tm} {ms : List Mk} {t' : Tm} {L : List Tm}, Steps t road ms t' → passM t road = some L → ∃ L', L = L' ++ [t'] ∧ L'.length = road.length
  | [], t, _, _, L, h, hL => by cases h; cases hL; exact ⟨[], rfl, rfl⟩
  | p :: ps, t, _, _, L, h, hL => by
    cases h with
    | cons s h =>
      rw [passM_cons s] at hL
      split at hL
      · cases hL
      · obtain ⟨L1, h1, rfl⟩ := Option.map_eq_some_iff.mp hL
        obtain ⟨L', rfl, hl⟩ := passM_steps h h1
        exact ⟨t :: L', rfl, by simp [hl]⟩
def spPassed (K : PySem.W.Frag) : Sp := fun vs H Q _ => ∃ (v : V) (a : Addr) (t t' : Tm) (road : List Pl) (ms : List Mk), vs = [v, .ref a] ∧ Dp K H v (tmD false t) ∧ SqL K H a (pL road) ∧ Steps t road ms t' ∧ sz t ≤ 1000 ∧ road.length ≤ 30000 ∧
  (passM t road = none → ∀ H', Same H H' → Q (.str (Str.ofString "large")) H') ∧ (∀ L, passM t road = some L → ∀ H' q xs, Same H H' → H q = none → H' q = some (.lst xs) → DpAll K H' xs (L.map (tmD false)) → Q (.ref q) H')
theorem noL_tms (L : List Tm) : noLs (L.map (tmD false)) = true := by
  induction L with
  | nil => simp [noLs]
  | cons x l ih => simp [noLs, noL_tm, ih]
theorem inV_pl {p : Pl} {l : List Pl} (h : p ∈ l) : inV (.str (plS p)) (pL l) = true := by
  unfold inV
  rw [List.any_eq_true]
  exact ⟨.str (plS p), List.mem_map_of_mem h, by simp [eqV]⟩
theorem ok_law_passed (F : At K mg "_law_passed" s__law_passed ["_law_term_here", "_law_road_here"]) (B : Blt mg)
    (D2 : Has P w K mg base CX0 3 "_law_redexes" ["_law_term_here"] (spRedexes K)) (D3 : Has P w K mg base CX0 5 "_law_step" ["_law_term_here", "_law_place"] (spLawStep K)) :
    Has P w K mg base CX0 6 "_law_passed" ["_law_term_here", "_law_road_here"] (spPassed K) := F.has fun f fd F => by
  obtain ⟨f2, fd2, G__law_redexes, m__law_redexes, k__law_redexes, b__law_redexes⟩ := D2.ex
  obtain ⟨f3, fd3, G__law_step, m__law_step, k__law_step, b__law_step⟩ := D3.ex
  refine F.ok sc__law_passed (fun vs H Q E h => ?_) (fun cdv A outer s H vs Q E hr h => ?_)
  · obtain ⟨_, _, _, _, _, _, rfl, _⟩ := h
    rfl
  obtain ⟨v, a, t, t', road, ms, rfl, hv, ha, hst, hsz, hrl, hlarge, hgood⟩ := h
  refine ⟨_, (pss_cons (ps_set (i := 2) sc__law_passed.nd rfl (Or.inl rfl) (pe_lst (pa_cons (pv 0) pa_nil)))
    (pss_cons (ps_for PassesOwn.never rfl (pi_list (pv 1)) (pg_name (i := 3) sc__law_passed.nd rfl (Or.inl rfl))
      (pss_cons (ps_if (pt_cmpR op_notIn_seq (pv 3) (pe_call G__law_redexes (hr.mono (by first | decide | omega)) (by rfl) m__law_redexes k__law_redexes b__law_redexes .nil pass0 (pa_cons (pv 0) pa_nil)) (by rfl))
        (pss_one (ps_ret pe_str))
        pss_nil)
      (pss_cons (ps_set (i := 0) sc__law_passed.nd rfl (Or.inl rfl) (pe_call G__law_step (hr.mono (by first | decide | omega)) (by rfl) m__law_step k__law_step b__law_step .nil pass0 (pa_cons (pv 0) (pa_cons (pv 3) pa_nil))))
      (pss_cons (ps_if (pt_cmpR op_gt (pe_callB call_len_seq (by rfl) B.m_len (by decide +kernel) (pa_cons (pv 0) pa_nil)) pe_int (nomark _))
        (pss_one (ps_ret pe_str))
        pss_nil)
      (pss_one (ps_expr (pe_bm PySem.F.plainAttrs_list PySem.F.slot_list_append PySem.F.type_list_append mt_append (pv 2) (pa_cons (pv 0) pa_nil))))))))
    (pss_one (ps_ret (pv 2))))), ?_⟩
  refine ⟨_, rfl, sl_ok (show 1 ≤ 4000000 by decide), fun q1 n1 => ?_⟩
  have S0 : Same H (upd H q1 (.lst [v])) := same_upd n1
  refine ⟨_, rfl, a, rfl, ⟨_, S0.seq ha⟩, for_list (xs := pL road) (fun i σ H' => ∃ (r0 r1 : List Pl) (L0 : List Tm) (t0 : Tm) (ms1 : List Mk) (v0 : V) (xs : List V) (y3 : Option V), σ = [some v0, some (.ref a), some (.ref q1), y3] ∧ Same H H' ∧ H' q1 = some (.lst xs) ∧
    DpAll K H' xs ((L0 ++ [t0]).map (tmD false)) ∧ Dp K H' v0 (tmD false t0) ∧ sz t0 ≤ 1000 ∧ road = r0 ++ r1 ∧ r0.length = i ∧ L0.length = i ∧ Steps t0 r1 ms1 t' ∧ passM t road = (passM t0 r1).map (L0 ++ ·)) ?_ ?_ ?_ ?_⟩
  · refine ⟨[], road, [], t, ms, v, [v], none, rfl, S0, upd_same, .cons (dp_mono S0 hv) .nil, dp_mono S0 hv, hsz, rfl, rfl, rfl, hst, ?_⟩
    cases passM t road <;> simp
  · rintro i σ H' hi ⟨_, _, _, _, _, _, _, _, _, S, _⟩
    exact S.seq ha
  · rintro i zz σ H' hz ⟨r0, r1, L0, t0, ms1, v0, xs, y3, rfl, S, g1, hxs, hv0, hs0, e, rfl, hL0, hst0, hpm⟩
    obtain ⟨p, hp, rfl⟩ := pL_get hz
    rw [e, List.getElem?_append_right (Nat.le_refl _), Nat.sub_self] at hp
    cases r1 with
    | nil => simp at hp
    | cons p' r1 =>
      simp only [List.getElem?_cons_zero, Option.some.injEq] at hp
      subst hp
      have hlr : r0.length ≤ 30000 := by have := congrArg List.length e; simp at this; omega
      cases hst0 with
      | @cons _ _ m t1 _ ms1 _ s1 hst1 =>
        rw [passM_cons s1] at hpm
        refine ⟨_, rfl, _, rfl, v0, false, t0, rfl, hv0, by omega, fun H2 pr S2 nd2 h2 => ?_⟩
        refine ⟨pr, _, rfl, .inl (SqL.of h2), rfl, pL_flat _, _, rfl, ?_⟩
        rw [inV_pl (rps_mem s1)]
        refine iteF ?_
        refine ⟨_, rfl, _, rfl, v0, false, t0, t1, p', m, rfl, dp_mono S2 hv0, s1, hs0, fun H3 r3 S3 hr3 => ?_⟩
        have S23 := S2.trans S3
        obtain ⟨a3, xs3, rfl, hs3, ha3⟩ := dp_tup hr3
        have hxl := dp_nodes_len ha3
        rw [flat_len] at hxl
        refine ⟨_, rfl, a3, xs3, rfl, .inr hs3, _, _, rfl, rfl, _, rfl, ?_⟩
        refine ite2 (fun c => ?_) (fun c => ?_)
        · have c' := of_decide_eq_true c
          refine hlarge ?_ _ (S.trans S23)
          rw [hpm, if_pos (by omega)]; rfl
        have c' : ¬ sz t1 > 1000 := fun z => c (decide_eq_true (by omega))
        rw [if_neg c'] at hpm
        have g3 := S23 _ _ g1
        have hxl0 := dpa_len hxs
        simp at hxl0
        refine ⟨_, rfl, lty g3, _, rfl, q1, _, _, rfl, rfl, g3, sl_lt (by omega), ?_⟩
        refine ⟨r0 ++ [p'], r1, L0 ++ [t0], t1, ms1, .ref a3, xs ++ [.ref a3], some (.str (plS p')), rfl, same_mut (S.trans S23) n1, upd_same, ?_, dp_upd g3 (noL_tm _ _) hr3, by omega, by rw [e]; simp, by simp, by simp; omega, hst1, ?_⟩
        · rw [List.map_append]
          exact dpa_app (dpa_upd g3 (noL_tms _) (dpa_mono S23 hxs)) (.cons (dp_upd g3 (noL_tm _ _) hr3) .nil)
        · rw [hpm]
          cases passM t1 r1 <;> simp
  · rintro σ H' ⟨r0, r1, L0, t0, ms1, v0, xs, y3, rfl, S, g1, hxs, hv0, hs0, e, el, hL0, hst0, hpm⟩
    have hle := congrArg List.length e
    simp [pL] at el hle
    have : r1 = [] := List.length_eq_zero_iff.mp (by omega)
    subst this
    exact ⟨_, rfl, hgood (L0 ++ [t0]) (by rw [hpm]; rfl) _ q1 xs S n1 g1 hxs⟩
end
end Ly

/-! W19: data that == looks at; the law's own test of a standard road. -/
namespace Ly
open PySem PySem.Spec PyProof.Rows L2
/-! ### shapes -/
def okD (n : Nat) (d : PyData) : Prop := d.canLay0 = true ∧ d.depth ≤ n
theorem okD.mono {n m : Nat} {d : PyData} (h : okD n d) (q : n ≤ m) : okD m d := ⟨h.1, Nat.le_trans h.2 q⟩
theorem okD_all {n : Nat} : ∀ {ds : List PyData}, (∀ d ∈ ds, okD n d) → PyData.canLayAll0 ds = true ∧ PyData.depthAll ds ≤ n
  | [], _ => by simp [PyData.canLayAll0, PyData.depthAll]
  | d :: ds, h => by
    have h1 := h d List.mem_cons_self
    have h2 := okD_all fun x hx => h x (List.mem_cons_of_mem _ hx)
    exact ⟨by simp [PyData.canLayAll0, h1.1, h2.1], by simp only [PyData.depthAll]; exact Nat.max_le.mpr ⟨h1.2, h2.2⟩⟩
theorem okD_list {n : Nat} {ds : List PyData} (h : ∀ d ∈ ds, okD n d) : okD (n + 1) (.list ds) := by
  obtain ⟨h1, h2⟩ := okD_all h
  exact ⟨by simp only [PyData.canLay0]; exact h1, by simp only [PyData.depth]; omega⟩
theorem okD_tuple {n : Nat} {ds : List PyData} (h : ∀ d ∈ ds, okD n d) : okD (n + 1) (.tuple ds) := by
  obtain ⟨h1, h2⟩ := okD_all h
  exact ⟨by simp only [PyData.canLay0]; exact h1, by simp only [PyData.depth]; omega⟩
theorem okD.shaped {n : Nat} {d : PyData} (h : okD n d) (q : n ≤ 64) : SeqAt.shaped d = true := by
  show (d.canLay0 && decide (d.depth ≤ 64)) = true
  rw [h.1, decide_eq_true (Nat.le_trans h.2 q)]; rfl
theorem okD_str {x : Str} (h : PyData.strOk x = true) : okD 0 (.str x) := ⟨by simp only [PyData.canLay0]; exact h, by simp [PyData.depth]⟩
theorem okD_int (i : Int) : okD 0 (.int i) := ⟨by simp [PyData.canLay0], by simp [PyData.depth]⟩
theorem okD_nd (tg : Bool) (n : Nd) : okD 1 (ndD tg n) := by
  cases n with
  | var n => exact (okD_int _).mono (by omega)
  | app => exact (okD_str (by decide +kernel)).mono (by omega)
  | lam m =>
    cases m with
    | none => exact (okD_str (by decide +kernel)).mono (by omega)
    | some k =>
      refine okD_tuple fun d hd => ?_
      rcases List.mem_cons.mp hd with rfl | hd
      · cases tg
        · exact okD_str (by decide +kernel)
        · exact okD_str (by decide +kernel)
      · rw [List.mem_singleton.mp hd]; exact okD_int _
theorem okD_tm (tg : Bool) (t : Tm) : okD 2 (tmD tg t) := okD_tuple fun d hd => by
  obtain ⟨n, _, rfl⟩ := List.mem_map.mp hd
  exact okD_nd tg n
theorem okD_pl (p : Pl) : okD 0 (.str (plS p)) := okD_str (by
  unfold PyData.strOk plS
  simp only [List.all_toArray, List.all_map, List.all_eq_true]
  intro d _
  cases d <;> decide)
theorem okD_road (r : List Pl) : okD 1 (roadD r) := okD_list fun d hd => by
  obtain ⟨x, hx, rfl⟩ := List.mem_map.mp hd
  obtain ⟨p, _, rfl⟩ := List.mem_map.mp hx
  exact okD_pl p
theorem okD_nds (tg : Bool) (l : List Nd) : okD 2 (.list (l.map (ndD tg))) := okD_list fun d hd => by
  obtain ⟨n, _, rfl⟩ := List.mem_map.mp hd
  exact okD_nd tg n
theorem okD_tms (tg : Bool) (l : List Tm) : okD 3 (.list (l.map (tmD tg))) := okD_list fun d hd => by
  obtain ⟨n, _, rfl⟩ := List.mem_map.mp hd
  exact okD_tm tg n
theorem okD.refl {n : Nat} {d : PyData} (h : okD n d) : PyData.eqv d d = true := SeqAt.eqv_refl d h.1
theorem eqv_lams (i j : Nat) (h : i ≠ j) : PyData.eqv (ndD true (.lam (some i))) (ndD true (.lam (some j))) = false := by
  have : ((i : Int) == (j : Int)) = false := beq_eq_false_iff_ne.mpr (by omega)
  simp [ndD, PyData.eqv, PyData.eqvAll, this]
theorem passM_rel (g : Mk → Mk) {t : Tm} {r : List Pl} {ms : List Mk} {t' : Tm} (h : Steps t r ms t') : passM (rel g t) r = (passM t r).map (List.map (rel g)) := by
  induction h with
  | nil t => rfl
  | cons s _ ih =>
    rw [passM_cons s, passM_cons (s.rel g), sz_rel, ih]
    split
    · rfl
    · rw [Option.map_map, Option.map_map]; rfl
theorem passM_ok {t : Tm} {p : Pl} {ps : List Pl} {m : Mk} {t1 : Tm} {L : List Tm} (s : Stp t p m t1) (h : passM t (p :: ps) = some L) : sz t1 ≤ 1000 ∧ ∃ L1, passM t1 ps = some L1 ∧ L = t :: L1 := by
  rw [passM_cons s] at h
  split at h
  · cases h
  · obtain ⟨L1, h1, rfl⟩ := Option.map_eq_some_iff.mp h
    exact ⟨by omega, L1, h1, rfl⟩
section
variable {P : Program} {w : World} {K : PySem.W.Frag} {mg : Str → Option Value} {base : Heap}
def spLawStd (K : PySem.W.Frag) : Sp := fun vs H Q _ => ∃ (a b : Addr) (xs : List V) (L : List Tm) (t t' : Tm) (road : List Pl) (ms : List Mk), vs = [.ref a, .ref b] ∧ SqL K H a xs ∧ DpAll K H xs (L.map (tmD false)) ∧ SqL K H b (pL road) ∧ Steps t road ms t' ∧
  passM t road = some L ∧ Std t road ∧ sz t ≤ 1000 ∧ road.length ≤ 30000 ∧ ∀ H', Same H H' → Q (.bl true) H'
theorem ok_law_is_standard (F : At K mg "_law_is_standard" s__law_is_standard ["_law_passed_here", "_law_road_here"]) (B : Blt mg)
    (D1 : Has P w K mg base CX0 2 "_law_marked" ["_law_term_here"] (spMarked K true)) (D2 : Has P w K mg base CX0 3 "_law_redexes" ["_law_term_here"] (spRedexes K)) (D3 : Has P w K mg base CX0 5 "_law_step" ["_law_term_here", "_law_place"] (spLawStep K))
    (D4 : Has P w K mg base CX0 3 "_law_mark" ["_law_term_here", "_law_place"] (spLawMark K)) : Has P w K mg base CX0 6 "_law_is_standard" ["_law_passed_here", "_law_road_here"] (spLawStd K) := F.has fun f fd F => by
  obtain ⟨f1, fd1, G__law_marked, m__law_marked, k__law_marked, b__law_marked⟩ := D1.ex
  obtain ⟨f2, fd2, G__law_redexes, m__law_redexes, k__law_redexes, b__law_redexes⟩ := D2.ex
  obtain ⟨f3, fd3, G__law_step, m__law_step, k__law_step, b__law_step⟩ := D3.ex
  obtain ⟨f4, fd4, G__law_mark, m__law_mark, k__law_mark, b__law_mark⟩ := D4.ex
  refine F.ok sc__law_is_standard (fun vs H Q E h => ?_) (fun cdv A outer s H vs Q E hr h => ?_)
  · obtain ⟨_, _, _, _, _, _, _, _, rfl, _⟩ := h
    rfl
  obtain ⟨a, b, xs, L, t, t', road, ms, rfl, ha, hxs, hb, hst, hpm, hstd, hsz, hrl, q⟩ := h
  refine ⟨_, (pss_cons (ps_for PassesOwn.never rfl (pi_range1 (by rfl) B.m_range (pa_cons (pe_callB call_len_seq (by rfl) B.m_len (by decide +kernel) (pa_cons (pv 1) pa_nil)) pa_nil)) (pg_name (i := 2) sc__law_is_standard.nd rfl (Or.inl rfl))
      (pss_cons (ps_set (i := 3) sc__law_is_standard.nd rfl (Or.inl rfl) (pe_call G__law_marked (hr.mono (by first | decide | omega)) (by rfl) m__law_marked k__law_marked b__law_marked .nil pass0 (pa_cons (pe_ix ix_list (pv 0) (pv 2) (fun _ _ => rfl)) pa_nil)))
      (pss_cons (ps_set (i := 4) sc__law_is_standard.nd rfl (Or.inl rfl) (pe_lst pa_nil))
      (pss_cons (ps_for PassesOwn.never rfl (pi_list (pe_call G__law_redexes (hr.mono (by first | decide | omega)) (by rfl) m__law_redexes k__law_redexes b__law_redexes .nil pass0 (pa_cons (pv 3) pa_nil))) (pg_name (i := 5) sc__law_is_standard.nd rfl (Or.inl rfl))
        (pss_cons (ps_if (pt_cmpR op_eq (pv 5) (pe_ix ix_list (pv 1) (pv 2) (fun _ _ => rfl)) (nomark _))
          (pss_one ps_break)
          pss_nil)
        (pss_one (ps_expr (pe_bm PySem.F.plainAttrs_list PySem.F.slot_list_append PySem.F.type_list_append mt_append (pv 4) (pa_cons (pe_call G__law_mark (hr.mono (by first | decide | omega)) (by rfl) m__law_mark k__law_mark b__law_mark .nil pass0 (pa_cons (pv 3) (pa_cons (pv 5) pa_nil))) pa_nil))))))
      (pss_one (ps_for PassesOwn.never rfl (pi_range2 (by rfl) B.m_range (pa_cons (pv 2) (pa_cons (pe_callB call_len_seq (by rfl) B.m_len (by decide +kernel) (pa_cons (pv 1) pa_nil)) pa_nil))) (pg_name (i := 6) sc__law_is_standard.nd rfl (Or.inl rfl))
        (pss_cons (ps_if (PW.pt (pw_and (pt_cmpR op_gt (pv 6) (pv 2) (nomark _)) (pw_and1 (pt_cmpR (op_inD (hu65 hr)) (pe_call G__law_mark (hr.mono (by first | decide | omega)) (by rfl) m__law_mark k__law_mark b__law_mark .nil pass0 (pa_cons (pv 3) (pa_cons (pe_ix ix_list (pv 1) (pv 6) (fun _ _ => rfl)) pa_nil))) (pv 4) (by rfl)))))
          (pss_one (ps_ret pe_bl))
          pss_nil)
        (pss_one (ps_set (i := 3) sc__law_is_standard.nd rfl (Or.inl rfl) (pe_call G__law_step (hr.mono (by first | decide | omega)) (by rfl) m__law_step k__law_step b__law_step .nil pass0 (pa_cons (pv 3) (pa_cons (pe_ix ix_list (pv 1) (pv 6) (fun _ _ => rfl)) pa_nil))))))))))))
    (pss_one (ps_ret pe_bl))), ?_⟩
  have epl : (pL road).length = road.length := by simp [pL]
  refine ⟨_, rfl, b, _, rfl, .inl hb, _, rfl, by omega, by omega, for_range (lo := 0) (n := (((pL road).length : Nat) : Int).toNat) (fun i σ H' => ∃ (r0 r1 : List Pl) (L0 L1 : List Tm) (tk : Tm) (ms1 : List Mk) (y2 y3 y4 y5 y6 : Option V), σ = [some (.ref a), some (.ref b), y2, y3, y4, y5, y6] ∧ Same H H' ∧
    road = r0 ++ r1 ∧ r0.length = i ∧ L = L0 ++ L1 ∧ L0.length = i ∧ Steps tk r1 ms1 t' ∧ passM tk r1 = some L1 ∧ Std tk r1 ∧ sz tk ≤ 1000) ?_ ?_ ?_⟩
  · exact ⟨[], road, [], L, t, ms, none, none, none, none, none, rfl, Same.refl _, rfl, rfl, rfl, rfl, hst, hpm, hstd, hsz⟩
  · rintro i σ H' hi ⟨r0, r1, L0, L1, tk, ms1, y2, y3, y4, y5, y6, rfl, S, e, rfl, eL, hL0, hst1, hpm1, hstd1, hz1⟩
    rw [show (0 : Int) + (r0.length : Int) = (r0.length : Int) by omega]
    have hlen : road.length = r0.length + r1.length := by rw [e]; simp
    cases r1 with
    | nil => simp at hlen; omega
    | cons p rs =>
      cases hstd1 with
      | @cons _ _ m T1 _ ks T' s1 hs1 hl1 hstd2 =>
        obtain ⟨hzT, L2, hpm2, eL1⟩ := passM_ok s1.ofMark hpm1
        rw [sz_rel] at hzT
        have hm0 : sz (mark 0 tk) ≤ 1000 := by rw [sz_mark]; exact hz1
        have hst2 : Steps (rel (lmk tk) T1) rs (ks.map (lmk tk)) (rel (lmk tk) T') := hs1.rel _
        have eT' : rel (lmk tk) T' = t' := ((Steps.cons s1.ofMark hst2).det hst1).2.symm
        rw [eT'] at hst2
        -- the term that the road passes here
        have hLk : (L.map (tmD false))[r0.length]? = some (tmD false tk) := by
          rw [eL, eL1, List.getElem?_map, List.getElem?_append_right (by omega), ← hL0, Nat.sub_self]; rfl
        obtain ⟨x, hx, hxd⟩ := dpa_at (dpa_mono S hxs) hLk
        refine ⟨_, rfl, _, rfl, a, _, _, _, rfl, rfl, S.seq ha, atI_nat hx, x, false, tk, rfl, hxd, by omega, fun H1 v3 S1 hv3 => ?_⟩
        refine ⟨Nat.zero_le _, fun q4 n4 => ?_⟩
        have S2 : Same H1 (upd H1 q4 (.lst [])) := same_upd n4
        refine ⟨_, rfl, v3, true, mark 0 tk, rfl, dp_mono S2 hv3, by omega, fun H3 pr S3 nd3 h3 => ?_⟩
        have S01 := S.trans S1
        obtain ⟨l1, l2, hred⟩ := List.append_of_mem (mem_reds.mpr ⟨T1, s1⟩ : (p, m) ∈ reds (mark 0 tk))
        have hbef : ∀ y ∈ l1, Lt y.1 p := fun y hy => by
          have h := reds_sorted (mark 0 tk)
          rw [hred] at h
          exact (List.pairwise_append.mp h).2.2 y hy (p, m) List.mem_cons_self
        have hin1 : ∀ y ∈ l1, y ∈ reds (mark 0 tk) := fun y hy => by rw [hred]; exact List.mem_append_left _ hy
        have hl1len : l1.length ≤ 1000 := by
          have h1 := reds_len (mark 0 tk)
          rw [hred] at h1
          simp at h1; omega
        have c0 := cnt_mark_none tk 0
        have npr : pr ≠ q4 := fun z => by rw [z, upd_same] at nd3; cases nd3
        refine ⟨pr, rfl, ⟨_, SqL.of h3⟩, for_list (xs := pL (rps (mark 0 tk))) (fun j σ H' => ∃ (zs : List V) (z5 : Option V), σ = [some (.ref a), some (.ref b), some (.int (r0.length : Int)), some v3, some (.ref q4), z5, y6] ∧ Same H1 H' ∧ H' pr = some (.lst (pL (rps (mark 0 tk)))) ∧
          H' q4 = some (.lst zs) ∧ DpAll K H' zs (((l1.take j).map fun y => Nd.lam y.2).map (ndD true)) ∧ j ≤ l1.length) ?_ ?_ ?_ ?_⟩
        · exact ⟨[], _, rfl, S2.trans S3, h3, S3 _ _ upd_same, .nil, Nat.zero_le _⟩
        · rintro j σ H' _ ⟨_, _, _, _, h5, _⟩
          exact SqL.of h5
        · rintro j z σ H4 hz ⟨zs, z5, rfl, S4, h5, g4, hzs, hj⟩
          obtain ⟨qq, hqq, rfl⟩ := pL_get hz
          have S04 := S01.trans S4
          have gix : atI (pL road) (r0.length : Int) = some (.str (plS p)) := atI_nat (pL_at (by rw [e]; simp))
          refine ⟨_, rfl, _, rfl, _, rfl, b, _, _, _, rfl, rfl, S04.seq hb, gix, rfl, _, rfl, ?_⟩
          by_cases hjl : j = l1.length
          · -- the break
            have eq : qq = p := by
              rw [rps, hred, hjl, List.getElem?_map, List.getElem?_append_right (Nat.le_refl _), Nat.sub_self] at hqq
              simpa using hqq.symm
            subst eq
            refine iteP (by simp) ?_
            rw [hjl, List.take_length] at hzs
            have hv4 := dp_mono S4 hv3
            have hst0 : Steps (mark 0 tk) (qq :: rs) (m :: ks) T' := .cons s1 hs1
            have hpm0 : ∃ Lj, passM (mark 0 tk) (qq :: rs) = some Lj := by
              have := passM_rel (lmk tk) hst0
              rw [rel_mark, hpm1] at this
              obtain ⟨Lj, hLj, _⟩ := Option.map_eq_some_iff.mp this.symm
              exact ⟨Lj, hLj⟩
            obtain ⟨Lm, hLm⟩ := hpm0
            refine ⟨_, rfl, _, rfl, b, _, rfl, .inl (S04.seq hb), _, _, rfl, ⟨by omega, by omega, by omega, by omega⟩, for_range (lo := (r0.length : Int)) (n := ((((pL road).length : Nat) : Int) - (r0.length : Int)).toNat) (fun jj σ H' => ∃ (s0 s1' : List Pl) (Tj : Tm) (ksj : List Mk) (Lj : List Tm) (vj : V) (z6 : Option V),
              σ = [some (.ref a), some (.ref b), some (.int (r0.length : Int)), some vj, some (.ref q4), some (.str (plS qq)), z6] ∧ Same H4 H' ∧ qq :: rs = s0 ++ s1' ∧ s0.length = jj ∧ Dp K H' vj (tmD true Tj) ∧ sz Tj ≤ 1000 ∧ Steps Tj s1' ksj T' ∧ passM Tj s1' = some Lj ∧ cnt none Tj = 0 ∧
              ∃ pm, m :: ks = pm ++ ksj ∧ pm.length = jj) ?_ ?_ ?_⟩
            · exact ⟨[], qq :: rs, mark 0 tk, m :: ks, Lm, v3, _, rfl, Same.refl _, rfl, rfl, hv4, hm0, hst0, hLm, c0, [], rfl, rfl⟩
            · rintro jj σ H5 hjj ⟨s0, s1', Tj, ksj, Lj, vj, z6, rfl, S5, es, rfl, hvj, hzj, hstj, hpmj, hcj, pm, epm, hpml⟩
              have hls : rs.length + 1 = s0.length + s1'.length := by have := congrArg List.length es; simpa using this
              cases s1' with
              | nil => simp at hls; simp at hlen; omega
              | cons r s1' =>
                have hidx : road[r0.length + s0.length]? = some r := by
                  rw [e, es, List.getElem?_append_right (by omega), Nat.add_sub_cancel_left]; simp
                have gixj : atI (pL road) ((r0.length : Int) + (s0.length : Int)) = some (.str (plS r)) := by
                  have := atI_nat (pL_at hidx)
                  rw [Int.natCast_add] at this; exact this
                cases hstj with
                | @cons _ _ mj Tj1 _ ksj _ sj hstj =>
                  obtain ⟨hzj1, Lj1, hpmj1, _⟩ := passM_ok sj hpmj
                  have S05 := S04.trans S5
                  have fin : ∀ (H6 : Hp), Same H5 H6 → tCall (spLawStep K) [] E0 (tCons (tVar 3) (tCons (tOp (rIxL K) (tVar 1) (tVar 6)) tNil)) [some (.ref a), some (.ref b), some (.int (r0.length : Int)), some vj, some (.ref q4), some (.str (plS qq)), some (.int ((r0.length : Int) + (s0.length : Int)))] H6
                      fun rv H7 => ∃ (s0' s1'' : List Pl) (Tj : Tm) (ksj : List Mk) (Lj : List Tm) (vj : V) (z6 : Option V), [some (.ref a), some (.ref b), some (.int (r0.length : Int)), some rv, some (.ref q4), some (.str (plS qq)), some (.int ((r0.length : Int) + (s0.length : Int)))] = [some (.ref a), some (.ref b), some (.int (r0.length : Int)), some vj, some (.ref q4), some (.str (plS qq)), z6] ∧ Same H4 H7 ∧ qq :: rs = s0' ++ s1'' ∧ s0'.length = s0.length + 1 ∧ Dp K H7 vj (tmD true Tj) ∧ sz Tj ≤ 1000 ∧ Steps Tj s1'' ksj T' ∧ passM Tj s1'' = some Lj ∧ cnt none Tj = 0 ∧
                        ∃ pm, m :: ks = pm ++ ksj ∧ pm.length = s0.length + 1 := fun H6 S6 => by
                    refine ⟨_, rfl, _, rfl, _, rfl, b, _, _, _, rfl, rfl, (S05.trans S6).seq hb, gixj, vj, true, Tj, Tj1, r, mj, rfl, dp_mono S6 hvj, sj, hzj, fun H7 r7 S7 hr7 => ?_⟩
                    exact ⟨s0 ++ [r], s1', Tj1, ksj, Lj1, r7, _, rfl, (S5.trans S6).trans S7, by rw [es]; simp, by simp, hr7, hzj1, hstj, hpmj1, sj.cnt0 hcj, pm ++ [mj], by rw [epm]; simp, by simp [hpml]⟩
                  refine ⟨_, rfl, _, rfl, _, _, rfl, rfl, _, rfl, ?_⟩
                  refine ite2 (fun c => ?_) (fun c => iteF (fin _ (Same.refl _)))
                  have c' : 1 ≤ s0.length := by have := of_decide_eq_true c; omega
                  have hmj : mj ∈ ks := by
                    cases pm with
                    | nil => simp at hpml; omega
                    | cons m' pm =>
                      simp only [List.cons_append, List.cons.injEq] at epm
                      rw [epm.2]; simp
                  obtain ⟨kj, rfl⟩ : ∃ kj, mj = some kj := by
                    cases mj with
                    | some kj => exact ⟨kj, rfl⟩
                    | none => have := sj.cnt_pos; omega
                  have hlist : Dp K H5 (.ref q4) (.list ((l1.map fun y => Nd.lam y.2).map (ndD true))) := .lst (SqL.of (S5 _ _ g4)) (dpa_mono S5 hzs)
                  have hany : (((l1.map fun y => Nd.lam y.2).map (ndD true)).any fun z => PyData.eqv z (ndD true (.lam (some kj)))) = false := by
                    rw [List.any_eq_false]
                    intro z hz
                    obtain ⟨nd, hnd, rfl⟩ := List.mem_map.mp hz
                    obtain ⟨y, hy, rfl⟩ := List.mem_map.mp hnd
                    obtain ⟨ty, sy⟩ := mem_reds.mp (show (y.1, y.2) ∈ _ from hin1 y hy)
                    have hno := hl1 y.1 y.2 ty (hbef y hy) sy
                    obtain ⟨ky, hky⟩ := red_mk c0 (hin1 y hy)
                    rw [hky] at hno ⊢
                    rw [eqv_lams _ _ (fun e => hno (by rw [e]; exact hmj))]
                    simp
                  refine ⟨_, rfl, _, rfl, _, rfl, b, _, _, _, rfl, rfl, S05.seq hb, gixj, vj, true, Tj, Tj1, r, some kj, rfl, hvj, sj, by omega, fun H6 x6 S6 hx6 => ⟨_, rfl, _, _, hx6, dp_mono S6 hlist, (okD_nd _ _).shaped (by omega), (okD_nds _ _).shaped (by omega), _, rfl, ?_⟩⟩
                  rw [hany]
                  exact iteF (fin _ S6)
            · rintro σ H5 ⟨s0, s1', Tj, ksj, Lj, vj, z6, rfl, S5, _⟩
              exact ⟨r0 ++ [qq], rs, L0 ++ [tk], L2, rel (lmk tk) T1, _, some (.int (r0.length : Int)), some vj, some (.ref q4), some (.str (plS qq)), z6, rfl, S04.trans S5, by rw [e]; simp, by simp, by rw [eL, eL1]; simp, by simp [hL0], hst2, hpm2, hstd2.rel _, by rw [sz_rel]; exact hzT⟩
          · -- a redex before
            have hjl' : j < l1.length := by omega
            have hqy : ∃ y, l1[j]? = some y := ⟨_, List.getElem?_eq_getElem hjl'⟩
            obtain ⟨y, hy⟩ := hqy
            have eq : qq = y.1 := by
              rw [rps, hred, List.getElem?_map, List.getElem?_append_left hjl', hy] at hqq
              simpa using hqq.symm
            subst eq
            have hym := List.mem_of_getElem? hy
            have hne : y.1 ≠ p := fun e => by have := hbef y hym; rw [e] at this; exact Lt.irrefl this
            refine iteN (decide_eq_false fun z => hne (plS_inj (by injection z))) ?_
            obtain ⟨ty, sy⟩ := mem_reds.mp (show (y.1, y.2) ∈ _ from hin1 y hym)
            refine ⟨_, rfl, lty g4, _, rfl, _, rfl, v3, true, mark 0 tk, ty, y.1, y.2, rfl, dp_mono S4 hv3, sy, by omega, fun H5 x5 S5 hx5 => ?_⟩
            have g5 := S5 _ _ g4
            have hzl := dpa_len hzs
            simp at hzl
            refine ⟨q4, _, _, rfl, rfl, g5, sl_lt (by omega), ?_⟩
            refine ⟨zs ++ [x5], some (.str (plS y.1)), rfl, same_mut (S4.trans S5) n4, by rw [upd_ne npr]; exact S5 _ _ h5, upd_same, ?_, by omega⟩
            rw [take_one hy, List.map_append, List.map_append]
            exact dpa_app (dpa_upd g5 (noL_nds _ _) (dpa_mono S5 hzs)) (.cons (dp_upd g5 (noL_nd _ _) hx5) .nil)
        · -- the end: not reached
          rintro σ H4 ⟨zs, z5, rfl, S4, h5, g4, hzs, hj⟩
          have hl : (pL (rps (mark 0 tk))).length = l1.length + (l2.length + 1) := by simp [pL, rps, hred]
          omega
  · rintro σ H' ⟨r0, r1, L0, L1, tk, ms1, y2, y3, y4, y5, y6, rfl, S, _⟩
    exact q _ S
end
end Ly

/-! W20: what the law is told; the law. -/
namespace Ly
open PySem PySem.Spec PyProof.Rows L2
section
variable {P : Program} {w : World} {K : PySem.W.Frag} {mg : Str → Option Value} {base : Heap}
theorem FnOk_calm {k : Nat} {f : Addr} {fd : FuncData} {ps : List Str} {sp : Sp} (F : FnOk P w K mg base (L2.CX P w) k f fd ps sp) (h : ∀ vs H Q E, sp vs H Q E → sp vs H Q E0) : FnOk P w K mg base CX0 k f fd ps sp :=
  ⟨F.len, fun A outer s H args us vs Q E hr he hb hv hsp => codeAny_mono (F.run A outer s H args us vs Q E0 hr he hb hv (h _ _ _ _ hsp)) fun r s' q => by
    cases r with
    | ok c => cases c <;> exact q
    | error e =>
      obtain ⟨_, _, _, _, _, _, _, _, _, _, _, _, z⟩ := q
      exact z.elim⟩
theorem has_calm {k : Nat} {x : Str} {ps : List Str} {sp : Sp} (D : Has P w K mg base (L2.CX P w) k x ps sp) (h : ∀ vs H Q E, sp vs H Q E → sp vs H Q E0) : Has P w K mg base CX0 k x ps sp := by
  obtain ⟨f, fd, F, r⟩ := D.ex
  exact ⟨f, fd, FnOk_calm F h, r⟩
/-! ### _law_told -/
def spTold (K : PySem.W.Frag) : Sp := fun vs H Q _ => ∃ (v : V) (a : Addr) (tg : Bool) (t t' : Tm) (road : List Pl) (ms : List Mk), vs = [v, .ref a] ∧ Dp K H v (tmD tg t) ∧ SqL K H a (pL road) ∧ Steps t road ms t' ∧ sz t ≤ 1000 ∧ road.length ≤ 30000 ∧
  (stdM 201 t road [] = none → ∀ H', Same H H' → Q .non H') ∧ (∀ out, stdM 201 t road [] = some out → ∀ H' q, Same H H' → H q = none → H' q = some (.lst (pL out)) → Q (.ref q) H')
theorem ok_law_told {CT : Addr} (F : At K mg "_law_told" s__law_told ["_law_term_here", "_law_road_here"]) (XT : Exc K mg "TooLarge" CT) (eT : PySem.W.exmOne K (.ref CT) (.ref CT) = some true)
    (D1 : Has P w K mg base (L2.CX P w) 6 "standard" ["term", "road"] (spStandard K CT)) : Has P w K mg base CX0 7 "_law_told" ["_law_term_here", "_law_road_here"] (spTold K) := F.has fun f fd F => by
  obtain ⟨f1, fd1, G_standard, m_standard, k_standard, b_standard⟩ := D1.ex
  refine F.ok sc__law_told (fun vs H Q E h => ?_) (fun cdv A outer s H vs Q E hr h => ?_)
  · obtain ⟨_, _, _, _, _, _, _, rfl, _⟩ := h
    rfl
  obtain ⟨v, a, tg, t, t', road, ms, rfl, hv, ha, hst, hsz, hrl, hbad, hgood⟩ := h
  refine ⟨_, (pss_one (ps_try_only (tb := fun W => tRet (tCallS (spStandard K CT) (WE W) (tCons (tVar 0) (tCons (tVar 1) tNil)))) (ts := fun _ _ _ => tRet (tC .non)) (Wout := fun _ _ _ _ => False) rfl rfl ⟨rfl, by decide, Or.inl XT.g⟩ takes0 (fun W pn xe tk _ => pss_one (ps_ret (pe_callS G_standard (hr.mono (by decide)) (by rfl) m_standard k_standard b_standard (fun σ => passAt tk σ) (by exact (pa_cons (pv 0) (pa_cons (pv 1) pa_nil)))))) (fun _ _ _ _ _ _ _ => pss_one (ps_ret pe_non)))), ?_⟩
  refine ⟨_, rfl, _, rfl, v, a, tg, t, t', road, ms, rfl, hv, ha, hst, hsz, hrl, fun hn H' S => ?_, fun out ho H' q S nq hq => hgood out ho H' q S nq hq⟩
  exact ⟨true, eT, fun _ _ _ => hbad hn H' S, fun z => nomatch z⟩
end
end Ly

/-! W21: the law. -/
namespace Ly
open PySem PySem.Spec PyProof.Rows L2
section
variable {P : Program} {w : World} {K : PySem.W.Frag} {mg : Str → Option Value} {base : Heap}
theorem dp_road {H : Hp} {a : Addr} {r : List Pl} (h : SqL K H a (pL r)) : Dp K H (.ref a) (roadD r) := .lst h (by
  have : pL r = (r.map plS).map V.str := by simp [pL]
  rw [this]; exact dpa_strs _)
theorem shaped_road (r : List Pl) : SeqAt.shaped (roadD r) = true := (okD_road r).shaped (by omega)
theorem shaped_tms (L : List Tm) : SeqAt.shaped (.list (L.map (tmD false))) = true := (okD_tms false L).shaped (by omega)
theorem shaped_tm (t : Tm) : SeqAt.shaped (tmD false t) = true := (okD_tm false t).shaped (by omega)
theorem eqv_ls (ds : List PyData) (x : Str) : PyData.eqv (.list ds) (.str x) = false := by simp only [PyData.eqv]
theorem and_no {t u : TT} {σ : L2.St} {H : Hp} {Q : Bool → Hp → Prop} (h : ∀ (Q : Bool → Hp → Prop), (∀ H', Same H H' → Q false H') → tAnd t u σ H Q) (q : ∀ H', Same H H' → Q false H') : tAnd t u σ H Q := h Q q
def spLaw (K : PySem.W.Frag) : Sp := fun vs H Q _ => ∃ (a : Addr) (ns : List Int), vs = [.ref a] ∧ SqL K H a (ns.map V.int) ∧ ns.length ≤ 63 ∧ ∀ H', Q (.bl true) H'
theorem law_fn {f : Addr} {fd : FuncData} (F : Fun K "law" "law" s_law f fd) (B : Blt mg)
    (D1 : Has P w K mg base CX0 1 "_law_stream" ["_law_script"] (spStream K)) (D2 : Has P w K mg base CX0 1 "_law_draw" ["_law_stream_here", "_law_many"] (spDraw K)) (D3 : Has P w K mg base CX0 21 "_law_rich" ["_law_stream_here", "_law_size"] (spRich K 8))
    (D4 : Has P w K mg base CX0 6 "_law_road" ["_law_stream_here", "_law_term_here", "_law_many"] (spRoad K)) (D5 : Has P w K mg base CX0 6 "_law_passed" ["_law_term_here", "_law_road_here"] (spPassed K))
    (D6 : Has P w K mg base CX0 7 "_law_told" ["_law_term_here", "_law_road_here"] (spTold K)) (D7 : Has P w K mg base CX0 6 "_law_is_standard" ["_law_passed_here", "_law_road_here"] (spLawStd K))
    (D8 : Has P w K mg base CX0 6 "is_standard" ["term", "road"] (spIsStd K)) : FnOk P w K mg base CX0 22 f fd ["_law_script"] (spLaw K) := by
  obtain ⟨f1, fd1, G__law_stream, m__law_stream, k__law_stream, b__law_stream⟩ := D1.ex
  obtain ⟨f2, fd2, G__law_draw, m__law_draw, k__law_draw, b__law_draw⟩ := D2.ex
  obtain ⟨f3, fd3, G__law_rich, m__law_rich, k__law_rich, b__law_rich⟩ := D3.ex
  obtain ⟨f4, fd4, G__law_road, m__law_road, k__law_road, b__law_road⟩ := D4.ex
  obtain ⟨f5, fd5, G__law_passed, m__law_passed, k__law_passed, b__law_passed⟩ := D5.ex
  obtain ⟨f6, fd6, G__law_told, m__law_told, k__law_told, b__law_told⟩ := D6.ex
  obtain ⟨f7, fd7, G__law_is_standard, m__law_is_standard, k__law_is_standard, b__law_is_standard⟩ := D7.ex
  obtain ⟨f8, fd8, G_is_standard, m_is_standard, k_is_standard, b_is_standard⟩ := D8.ex
  refine F.ok sc_law (fun vs H Q E h => ?_) (fun cdv A outer s H vs Q E hr h => ?_)
  · obtain ⟨_, _, rfl, _⟩ := h
    rfl
  obtain ⟨a, ns, rfl, ha, hnl, q⟩ := h
  refine ⟨_, (pss_cons (ps_set (i := 1) sc_law.nd rfl (Or.inl rfl) (pe_call G__law_stream (hr.mono (by first | decide | omega)) (by rfl) m__law_stream k__law_stream b__law_stream .nil pass0 (pa_cons (pv 0) pa_nil)))
    (pss_cons (ps_set (i := 2) sc_law.nd rfl (Or.inl rfl) (pe_call G__law_rich (hr.mono (by first | decide | omega)) (by rfl) m__law_rich k__law_rich b__law_rich .nil pass0 (pa_cons (pv 1) (pa_cons (pe_op op_add pe_int (pe_call G__law_draw (hr.mono (by first | decide | omega)) (by rfl) m__law_draw k__law_draw b__law_draw .nil pass0 (pa_cons (pv 1) (pa_cons pe_int pa_nil)))) pa_nil))))
    (pss_cons (ps_set (i := 3) sc_law.nd rfl (Or.inl rfl) (pe_call G__law_road (hr.mono (by first | decide | omega)) (by rfl) m__law_road k__law_road b__law_road .nil pass0 (pa_cons (pv 1) (pa_cons (pv 2) (pa_cons (pe_call G__law_draw (hr.mono (by first | decide | omega)) (by rfl) m__law_draw k__law_draw b__law_draw .nil pass0 (pa_cons (pv 1) (pa_cons pe_int pa_nil))) pa_nil)))))
    (pss_cons (ps_set (i := 4) sc_law.nd rfl (Or.inl rfl) (pe_call G__law_passed (hr.mono (by first | decide | omega)) (by rfl) m__law_passed k__law_passed b__law_passed .nil pass0 (pa_cons (pv 2) (pa_cons (pv 3) pa_nil))))
    (pss_cons (ps_if (pt_cmpR (op_eqD hr.units) (pv 4) pe_str (nomark _))
      (pss_one (ps_ret (pe_cmp (pc_isN (pe_call G__law_told (hr.mono (by first | decide | omega)) (by rfl) m__law_told k__law_told b__law_told .nil pass0 (pa_cons (pv 2) (pa_cons (pe_callTy call_list_of (by rfl) B.m_list (by decide +kernel) (pa_cons (pv 3) pa_nil)) pa_nil)))) rfl)))
      pss_nil)
    (pss_cons (ps_set (i := 5) sc_law.nd rfl (Or.inl rfl) (pe_call G__law_told (hr.mono (by first | decide | omega)) (by rfl) m__law_told k__law_told b__law_told .nil pass0 (pa_cons (pv 2) (pa_cons (pe_callTy call_list_of (by rfl) B.m_list (by decide +kernel) (pa_cons (pv 3) pa_nil)) pa_nil))))
    (pss_cons (ps_if (pt_cmp (pc_isN (pv 5)) rfl)
      (pss_one (ps_ret pe_bl))
      pss_nil)
    (pss_cons (ps_set (i := 6) sc_law.nd rfl (Or.inl rfl) (pe_call G__law_passed (hr.mono (by first | decide | omega)) (by rfl) m__law_passed k__law_passed b__law_passed .nil pass0 (pa_cons (pv 2) (pa_cons (pv 5) pa_nil))))
    (pss_cons (ps_if (PW.pt (pw_or (pt_cmpR (op_eqD hr.units) (pv 6) pe_str (nomark _)) (pw_or (pt_cmpR (op_eqD hr.units) (pv 6) pe_str (nomark _)) (pw_or1 (pt_cmpR (op_neD hr.units) (pe_ix ix_list (pv 6) (pe_op op_sub (pe_callB call_len_seq (by rfl) B.m_len (by decide +kernel) (pa_cons (pv 6) pa_nil)) pe_int) (fun _ _ => rfl)) (pe_ix ix_list (pv 4) (pe_op op_sub (pe_callB call_len_seq (by rfl) B.m_len (by decide +kernel) (pa_cons (pv 4) pa_nil)) pe_int) (fun _ _ => rfl)) (nomark _))))))
      (pss_one (ps_ret pe_bl))
      pss_nil)
    (pss_cons (ps_if (PW.pt (pw_and (pt_cmpR op_le (pe_callB call_len_seq (by rfl) B.m_len (by decide +kernel) (pa_cons (pv 5) pa_nil)) pe_int (nomark _)) (pw_and1 (pt_not (pt_val (pe_call G__law_is_standard (hr.mono (by first | decide | omega)) (by rfl) m__law_is_standard k__law_is_standard b__law_is_standard .nil pass0 (pa_cons (pv 6) (pa_cons (pv 5) pa_nil))))))))
      (pss_one (ps_ret pe_bl))
      pss_nil)
    (pss_cons (ps_if (pt_cmpR op_ne (pe_call G_is_standard (hr.mono (by first | decide | omega)) (by rfl) m_is_standard k_is_standard b_is_standard .nil pass0 (pa_cons (pv 2) (pa_cons (pe_callTy call_list_of (by rfl) B.m_list (by decide +kernel) (pa_cons (pv 5) pa_nil)) pa_nil))) pe_bl (nomark _))
      (pss_one (ps_ret pe_bl))
      pss_nil)
    (pss_cons (ps_set (i := 7) sc_law.nd rfl (Or.inl rfl) (pe_callTy call_list_of (by rfl) B.m_list (by decide +kernel) (pa_cons (pv 3) pa_nil)))
    (pss_cons (ps_if (pt_val (pe_call G_is_standard (hr.mono (by first | decide | omega)) (by rfl) m_is_standard k_is_standard b_is_standard .nil pass0 (pa_cons (pv 2) (pa_cons (pv 7) pa_nil))))
      (pss_cons (ps_set (i := 8) sc_law.nd rfl (Or.inl rfl) (pe_call G__law_told (hr.mono (by first | decide | omega)) (by rfl) m__law_told k__law_told b__law_told .nil pass0 (pa_cons (pv 2) (pa_cons (pv 7) pa_nil))))
      (pss_cons (ps_if (PW.pt (pw_or (pt_cmpR (op_neD hr.units) (pv 5) (pv 3) (nomark _)) (pw_or1 (pt_cmpR (op_neD hr.units) (pv 8) (pv 3) (nomark _)))))
        (pss_one (ps_ret pe_bl))
        pss_nil)
      (pss_cons (ps_expr (pe_bm PySem.F.plainAttrs_list PySem.F.slot_list_append PySem.F.type_list_append mt_append (pv 8) (pa_cons pe_str pa_nil)))
      (pss_one (ps_if (pt_cmpR (op_neD hr.units) (pv 7) (pv 3) (nomark _))
        (pss_one (ps_ret pe_bl))
        pss_nil)))))
      pss_nil)
    (pss_cons (ps_set (i := 9) sc_law.nd rfl (Or.inl rfl) pe_non)
    (pss_cons (ps_if (pt_cmpR op_le (pe_callB call_len_seq (by rfl) B.m_len (by decide +kernel) (pa_cons (pv 5) pa_nil)) pe_int (nomark _))
      (pss_one (ps_set (i := 9) sc_law.nd rfl (Or.inl rfl) (pe_call G__law_told (hr.mono (by first | decide | omega)) (by rfl) m__law_told k__law_told b__law_told .nil pass0 (pa_cons (pv 2) (pa_cons (pe_callTy call_list_of (by rfl) B.m_list (by decide +kernel) (pa_cons (pv 5) pa_nil)) pa_nil)))))
      pss_nil)
    (pss_one (ps_ret (pe_or (pe_cmp (pc_isN (pv 9)) rfl) (pe_one (pe_cmpR (op_eqD hr.units) (pv 9) (pv 5) (nomark _))))))))))))))))))))), ?_⟩
  -- the stream, the term, the road
  refine ⟨_, rfl, a, ns, rfl, ha, hnl, fun H1 z S1 nz1 nz2 hS1 => ?_⟩
  refine ⟨_, rfl, _, rfl, z, 6, rfl, hS1, by decide, by decide, fun H2 r S2 hS2 hr2 => ⟨_, _, rfl, rfl, z, 3 + r, by simp, hS2, by omega, by omega, by omega, fun H3 v2 t S3 hS3 hv2 hsz3 => ?_⟩⟩
  refine ⟨_, rfl, _, rfl, _, rfl, z, 9, rfl, hS3, by decide, by decide, fun H4 n S4 hS4 hn => ⟨z, v2, t, n, rfl, hS4, hS3.tm S4 hv2, by omega, by omega, fun H5 q3 road ms t' S5 hS5 nq3 hq3 hst hrl => ?_⟩⟩
  have hv5 := hS4.tm S5 (hS3.tm S4 hv2)
  have hsz : sz t ≤ 1000 := by omega
  have hSq3 : SqL K H5 q3 (pL road) := SqL.of hq3
  have epr : (pL road).length = road.length := by simp [pL]
  refine ⟨_, rfl, _, rfl, v2, q3, t, t', road, ms, rfl, hv5, hSq3, hst, hsz, by omega, fun hpn H6 S6 => ?_, fun L hL H6 q4 xs4 S6 nq4 hq4 hxs4 => ?_⟩
  · -- large
    refine ⟨_, rfl, _, _, .str _, .str _, (okD_str (by decide +kernel)).shaped (Nat.zero_le _), (okD_str (by decide +kernel)).shaped (Nat.zero_le _), _, rfl, ?_⟩
    refine iteP (by simp [PyData.eqv]) ?_
    have hrunN : runC t road = none := by
      cases e : runC t road with
      | none => rfl
      | some x => obtain ⟨L, hL, _⟩ := passM_run e; rw [hpn] at hL; cases hL
    refine ⟨_, rfl, _, rfl, q3, _, rfl, .inl (S6.seq hSq3), fun l nl => ?_⟩
    have S7 := same_upd (o := .lst (pL road)) nl
    refine ⟨v2, l, false, t, t', road, ms, rfl, dp_mono (S6.trans S7) hv5, SqL.of upd_same, hst, hsz, by omega, fun _ H' _ => ?_, fun out ho => ?_⟩
    · exact q H'
    · rw [stdM_large hrunN] at ho; cases ho
  -- not large
  refine ⟨_, rfl, _, _, .lst (SqL.of hq4) hxs4, .str _, shaped_tms _, (okD_str (by decide +kernel)).shaped (Nat.zero_le _), _, rfl, ?_⟩
  rw [eqv_ls]
  refine iteF ?_
  obtain ⟨Lp, eLp, hLpl⟩ := passM_steps hst hL
  refine ⟨_, rfl, _, rfl, q3, _, rfl, .inl (S6.seq hSq3), fun l nl => ?_⟩
  have S7 := same_upd (o := .lst (pL road)) nl
  have S67 := S6.trans S7
  refine ⟨v2, l, false, t, t', road, ms, rfl, dp_mono S67 hv5, SqL.of upd_same, hst, hsz, by omega, fun _ H8 _ => ?_, fun out ho H8 q5 S8 nq5 hq5 => ?_⟩
  · -- no answer
    refine ⟨_, rfl, _, rfl, iteP (by decide) ?_⟩
    exact q H8
  refine ⟨_, rfl, _, rfl, iteN (by simp) ?_⟩
  obtain ⟨s0, es0, O⟩ := std_ok hst ho
  rw [List.nil_append] at es0
  subst es0
  obtain ⟨ks, hrun, _⟩ := O.run
  obtain ⟨Lf, hLf, hLfl⟩ := passM_run hrun
  have hsts := runC_steps hrun
  have hol := stdM_len ho (by simp)
  have epo : (pL out).length = out.length := by simp [pL]
  have S58 := S67.trans S8
  have hv8 := dp_mono S58 hv5
  have hSq5 : SqL K H8 q5 (pL out) := SqL.of hq5
  -- the terms that the answer passes
  refine ⟨_, rfl, _, rfl, v2, q5, t, t', out, ks, rfl, hv8, hSq5, hsts, hsz, by omega, fun hpn => ?_, fun L2 hL2 H9 q6 xs6 S9 nq6 hq6 hxs6 => ?_⟩
  · rw [hLf] at hpn; cases hpn
  rw [hLf] at hL2
  cases hL2
  have hq49 := (S7.trans (S8.trans S9)) _ _ hq4
  have hxs49 := dpa_mono (S7.trans (S8.trans S9)) hxs4
  have S59 := S58.trans S9
  have hv9 := dp_mono S59 hv5
  have hSq59 : SqL K H9 q5 (pL out) := S9.seq hSq5
  have hSq39 : SqL K H9 q3 (pL road) := S59.seq hSq3
  refine ⟨_, rfl, _, _, .lst (SqL.of hq6) hxs6, .str _, shaped_tms _, (okD_str (by decide +kernel)).shaped (Nat.zero_le _), _, rfl, ?_⟩
  rw [eqv_ls]
  refine iteF ?_
  refine ⟨_, rfl, _, _, .lst (SqL.of hq6) hxs6, .str _, shaped_tms _, (okD_str (by decide +kernel)).shaped (Nat.zero_le _), _, rfl, ?_⟩
  rw [eqv_ls]
  refine iteF ?_
  -- the last ones
  have hl6 : xs6.length = Lf.length + 1 := by have := dpa_len hxs6; simpa using this
  have hl4 : xs4.length = Lp.length + 1 := by have := dpa_len hxs4; rw [eLp] at this; simpa using this
  obtain ⟨x6, hx6, hx6d⟩ := dpa_at hxs6 (i := Lf.length) (d := tmD false t') (by rw [List.getElem?_map, List.getElem?_append_right (Nat.le_refl _), Nat.sub_self]; rfl)
  obtain ⟨x4, hx4, hx4d⟩ := dpa_at hxs49 (i := Lp.length) (d := tmD false t') (by rw [eLp, List.getElem?_map, List.getElem?_append_right (Nat.le_refl _), Nat.sub_self]; rfl)
  have a6 : atI xs6 (((xs6.length : Nat) : Int) - 1) = some x6 := by rw [hl6, show (((Lf.length + 1 : Nat) : Int) - 1) = ((Lf.length : Nat) : Int) by omega]; exact atI_nat hx6
  have a4 : atI xs4 (((xs4.length : Nat) : Int) - 1) = some x4 := by rw [hl4, show (((Lp.length + 1 : Nat) : Int) - 1) = ((Lp.length : Nat) : Int) by omega]; exact atI_nat hx4
  refine ⟨_, rfl, _, rfl, q6, _, rfl, .inl (SqL.of hq6), _, _, rfl, rfl, q6, _, _, x6, rfl, rfl, SqL.of hq6, a6, ?_⟩
  refine ⟨_, rfl, _, rfl, q4, _, rfl, .inl (SqL.of hq49), _, _, rfl, rfl, q4, _, _, x4, rfl, rfl, SqL.of hq49, a4, ?_⟩
  refine ⟨_, _, hx6d, hx4d, shaped_tm _, shaped_tm _, _, rfl, ?_⟩
  rw [(okD_tm false t').refl]
  refine iteF ?_
  -- is the answer standard
  have htail : ∀ (D : Ends), D.rt = Q → ∀ (H10 : Hp) (y7 y8 : Option V), Same H9 H10 → tSeq (tAsg (tC .non) (gName 9)) (tSeq (tIfS (tTest (tOp (rI0 fun i j => .bl (decide (i ≤ j))) (tCB (fun xs H Q => ∃ p ys, xs = [.ref p] ∧ (SqL K H p ys ∨ SqT K H p ys) ∧ Q (.int ys.length) H) (tCons (tVar 5) tNil)) (tC (.int 12))))
      (tAsg (tCall (spTold K) [] E0 (tCons (tVar 2) (tCons (tCB (fun xs H Q => ∃ p ys, xs = [.ref p] ∧ (SqL K H p ys ∨ SqT K H p ys) ∧ ∀ l, H l = none → Q (.ref l) (upd H l (.lst ys))) (tCons (tVar 5) tNil)) tNil))) (gName 9)) tNext)
      (tRet (tOrV (tIsN (tVar 9)) (tOp (rEqD K) (tVar 9) (tVar 5))))) D [some (.ref a), some (.ref z.p), some v2, some (.ref q3), some (.ref q4), some (.ref q5), some (.ref q6), y7, y8, none] H10 := fun D eD H10 y7 y8 S10 => by
    subst eD
    have hSq510 := S10.seq hSq59
    refine ⟨_, rfl, q5, _, rfl, .inl hSq510, _, _, rfl, rfl, _, rfl, ?_⟩
    refine ite2 (fun c => ?_) (fun c => ?_)
    · refine ⟨_, rfl, _, rfl, q5, _, rfl, .inl hSq510, fun l nl => ?_⟩
      have S11 := same_upd (o := .lst (pL out)) nl
      refine ⟨v2, l, false, t, t', out, ks, rfl, dp_mono (S10.trans S11) hv9, SqL.of upd_same, hsts, hsz, by omega, fun _ H12 _ => ?_, fun out2 ho2 H12 q9 S12 nq9 hq9 => ?_⟩
      · exact ⟨_, rfl, _, rfl, iteP (by decide) (q H12)⟩
      · obtain ⟨s2, es2, O2⟩ := std_ok hsts ho2
        rw [List.nil_append] at es2
        subst es2
        have e2 := O2.same O.std
        subst e2
        refine ⟨_, rfl, _, rfl, iteN (by simp) ?_⟩
        refine ⟨_, rfl, _, rfl, _, _, dp_road (SqL.of hq9), dp_road ((S11.trans S12).seq hSq510), shaped_road _, shaped_road _, ?_⟩
        rw [(okD_road _).refl]
        exact q H12
    · exact ⟨_, rfl, _, rfl, iteP (by decide) (q H10)⟩
  unfold tNext tSeq tIfS
  dsimp only
  refine and_no (fun Q2 q2 => ?_) (fun H10 S10 => ?_)
  · refine ⟨_, rfl, q5, _, rfl, .inl hSq59, _, _, rfl, rfl, _, rfl, ?_⟩
    refine ite2 (fun c => ?_) (fun c => q2 _ (Same.refl _))
    exact ⟨_, rfl, _, rfl, q6, q5, xs6, _, t, t', out, ks, rfl, SqL.of hq6, hxs6, hSq59, hsts, hLf, O.std, hsz, by omega, fun H10 S10 => ⟨_, rfl, q2 _ S10⟩⟩
  refine iteF ?_
  have hv10 := dp_mono S10 hv9
  have hstdB : isStdM t (fun _ => false) out = true := (isStd_iff hrun).mpr ⟨O.std, fun _ _ => rfl⟩
  refine ⟨_, rfl, _, rfl, q5, _, rfl, .inl (S10.seq hSq59), fun l1 nl1 => ?_⟩
  have S11 := same_upd (o := .lst (pL out)) nl1
  refine ⟨v2, l1, false, t, out, (ks, t'), rfl, dp_mono S11 hv10, SqL.of upd_same, hrun, hsz, by omega, fun H12 S12 => ⟨rfl, _, rfl, ?_⟩⟩
  rw [hstdB]
  refine iteN (by simp) ?_
  have S912 := S10.trans (S11.trans S12)
  -- where the road itself is standard
  obtain ⟨xr, hrunR⟩ := stdM_run ho
  refine ⟨_, rfl, q3, _, rfl, .inl (S912.seq hSq39), fun l2 nl2 => ?_⟩
  have S13 := same_upd (o := .lst (pL road)) nl2
  have S913 := S912.trans S13
  refine ⟨_, rfl, _, rfl, v2, l2, false, t, road, xr, rfl, dp_mono S913 hv9, SqL.of upd_same, hrunR, hsz, by omega, fun H14 S14 => ⟨_, rfl, ?_⟩⟩
  have S914 := S913.trans S14
  have hk14 : SqL K H14 l2 (pL road) := S14.seq (SqL.of upd_same)
  cases hb : isStdM t (fun _ => false) road with
  | false =>
    refine iteF ?_
    exact htail _ rfl _ _ _ S914
  | true =>
    refine iteT ?_
    have hsr := ((isStd_iff hrunR).mp hb).1
    have eo := O.same hsr
    subst eo
    refine ⟨_, rfl, _, rfl, v2, l2, false, t, t', out, ms, rfl, dp_mono S914 hv9, hk14, hst, hsz, by omega, fun hn => ?_, fun out2 ho2 H15 q8 S15 nq8 hq8 => ?_⟩
    · rw [ho] at hn; cases hn
    rw [ho] at ho2
    cases ho2
    have S915 := S914.trans S15
    refine ⟨_, rfl, _, rfl, _, _, dp_road (S915.seq hSq59), dp_road (S915.seq hSq39), shaped_road _, shaped_road _, _, rfl, ?_⟩
    rw [(okD_road _).refl]
    refine iteF ?_
    refine ⟨_, rfl, _, rfl, _, _, dp_road (SqL.of hq8), dp_road (S915.seq hSq39), shaped_road _, shaped_road _, _, rfl, ?_⟩
    rw [(okD_road _).refl]
    refine iteF ?_
    refine ⟨_, rfl, lty hq8, q8, _, _, rfl, rfl, hq8, sl_lt (by omega), ?_⟩
    have S16 := same_mut (o := .lst (pL out ++ [V.str (Str.ofString "x")])) S15 nq8
    have S916 := S914.trans S16
    refine ⟨_, rfl, _, rfl, _, _, dp_road (S16.seq hk14), dp_road (S916.seq hSq39), shaped_road _, shaped_road _, _, rfl, ?_⟩
    rw [(okD_road _).refl]
    refine iteF ?_
    exact htail _ rfl _ _ _ S916
end
end Ly

/-! W22: what the top has written; the chain of promises. -/
namespace Ly
open PySem PySem.Spec PyProof.Rows L2
def BiF (x : Str) (st : Stmt) (ps : List Str) : Prop := ∀ (kV doc pm : Value) (an : Option Addr) (cdv ct : Value) (us : List Value), us.length = ps.length → bindArgs (PySem.W.fnOf x x (defArgs st) (defBody st) (defScope st) .none kV doc pm an cdv ct) ⟨us, []⟩ = pure (ps.zip us)
theorem at_mk {K : PySem.W.Frag} {h : Heap} {mg : Str → Option Value} {x : Str} {st : Stmt} {ps : List Str} {f : Addr} {oc kV dc pm cd ct : Value} {od an : Option Addr} {sl : Array (Option Value)} (X : K.In h) (G : h.Ns mainGlobals mg) (b : BiF x st ps)
    (a : PySem.W.nsIn K mainGlobals x = some (some (.ref f))) (l : K.lookup f = some ⟨oc, od, .func (PySem.W.fnOf x x (defArgs st) (defBody st) (defScope st) .none kV dc pm an cd ct), sl⟩) (c : PySem.W.codeIn K cd x = true) (k : PySem.W.keepIn K (.ref f) = true) : At K mg x st ps := by
  have F := fun_mk (st := st) l c k
  exact ⟨f, _, F, PySem.W.mg_of X G a, F.binds b⟩
theorem exc_mk {K : PySem.W.Frag} {h : Heap} {mg : Str → Option Value} {x : Str} {C : Addr} (X : K.In h) (G : h.Ns mainGlobals mg) (a : PySem.W.nsIn K mainGlobals x = some (some (.ref C)))
    (e : PySem.W.excIn K C [.type "ValueError", .type "Exception", .type "BaseException", .type "object"] "ValueError.__new__" = true) (k : PySem.W.keepIn K (.ref C) = true) (b : PySem.W.subIn K (.ref C) (.type "BaseException") = some true) (t : PySem.W.typeIn K (.ref C) = some (.type "type")) : Exc K mg x C :=
  ⟨e, PySem.W.mg_of X G a, k, b, t⟩
theorem exm_own {K : PySem.W.Frag} {S : Addr} (h1 : PySem.W.subIn K (.ref S) (.type "BaseException") = some true) (h2 : PySem.W.isClsIn K S = true) (h3 : PySem.W.typeIn K (.ref S) = some (.type "type")) (h4 : PySem.W.subIn K (.ref S) (.ref S) = some true) : PySem.W.exmOne K (.ref S) (.ref S) = some true := by
  have e2 : (PySem.W.clsIn K S).isSome = true := h2
  simp only [PySem.W.exmOne, PySem.W.kitCls, h1, h3, e2, h4]
  exact (if_pos rfl).trans (if_pos rfl)
theorem bi_checked : BiF "checked" s_checked ["nodes"] := fun _ _ _ _ _ _ us hl => match us, hl with | [_], _ => rfl
theorem bi_end_of : BiF "end_of" s_end_of ["nodes", "start"] := fun _ _ _ _ _ _ us hl => match us, hl with | [_, _], _ => rfl
theorem bi_depths : BiF "depths" s_depths ["nodes"] := fun _ _ _ _ _ _ us hl => match us, hl with | [_], _ => rfl
theorem bi_lifted : BiF "lifted" s_lifted ["nodes", "count"] := fun _ _ _ _ _ _ us hl => match us, hl with | [_, _], _ => rfl
theorem bi_placed : BiF "placed" s_placed ["nodes", "value"] := fun _ _ _ _ _ _ us hl => match us, hl with | [_, _], _ => rfl
theorem bi_placed_nodes : BiF "placed_nodes" s_placed_nodes ["nodes"] := fun _ _ _ _ _ _ us hl => match us, hl with | [_], _ => rfl
theorem bi_index_of : BiF "index_of" s_index_of ["nodes", "place"] := fun _ _ _ _ _ _ us hl => match us, hl with | [_, _], _ => rfl
theorem bi_comes_before : BiF "comes_before" s_comes_before ["first", "second"] := fun _ _ _ _ _ _ us hl => match us, hl with | [_, _], _ => rfl
theorem bi_is_redex : BiF "is_redex" s_is_redex ["nodes", "at"] := fun _ _ _ _ _ _ us hl => match us, hl with | [_, _], _ => rfl
theorem bi_stepped : BiF "stepped" s_stepped ["nodes", "place"] := fun _ _ _ _ _ _ us hl => match us, hl with | [_, _], _ => rfl
theorem bi_follow : BiF "follow" s_follow ["term", "road"] := fun _ _ _ _ _ _ us hl => match us, hl with | [_, _], _ => rfl
theorem bi_marked : BiF "marked" s_marked ["nodes"] := fun _ _ _ _ _ _ us hl => match us, hl with | [_], _ => rfl
theorem bi_mark_at : BiF "mark_at" s_mark_at ["nodes", "place"] := fun _ _ _ _ _ _ us hl => match us, hl with | [_, _], _ => rfl
theorem bi_marks : BiF "marks" s_marks ["nodes"] := fun _ _ _ _ _ _ us hl => match us, hl with | [_], _ => rfl
theorem bi_with_mark : BiF "with_mark" s_with_mark ["nodes", "mark"] := fun _ _ _ _ _ _ us hl => match us, hl with | [_, _], _ => rfl
theorem bi_is_standard : BiF "is_standard" s_is_standard ["term", "road"] := fun _ _ _ _ _ _ us hl => match us, hl with | [_, _], _ => rfl
theorem bi_first_of : BiF "first_of" s_first_of ["term", "road"] := fun _ _ _ _ _ _ us hl => match us, hl with | [_, _], _ => rfl
theorem bi_without : BiF "without" s_without ["term", "place", "road"] := fun _ _ _ _ _ _ us hl => match us, hl with | [_, _, _], _ => rfl
theorem bi_standard : BiF "standard" s_standard ["term", "road"] := fun _ _ _ _ _ _ us hl => match us, hl with | [_, _], _ => rfl
theorem bi__law_stream : BiF "_law_stream" s__law_stream ["_law_script"] := fun _ _ _ _ _ _ us hl => match us, hl with | [_], _ => rfl
theorem bi__law_draw : BiF "_law_draw" s__law_draw ["_law_stream_here", "_law_many"] := fun _ _ _ _ _ _ us hl => match us, hl with | [_, _], _ => rfl
theorem bi__law_is_lam : BiF "_law_is_lam" s__law_is_lam ["_law_node"] := fun _ _ _ _ _ _ us hl => match us, hl with | [_], _ => rfl
theorem bi__law_end : BiF "_law_end" s__law_end ["_law_term_here", "_law_at"] := fun _ _ _ _ _ _ us hl => match us, hl with | [_, _], _ => rfl
theorem bi__law_depths : BiF "_law_depths" s__law_depths ["_law_term_here"] := fun _ _ _ _ _ _ us hl => match us, hl with | [_], _ => rfl
theorem bi__law_lift : BiF "_law_lift" s__law_lift ["_law_term_here", "_law_count"] := fun _ _ _ _ _ _ us hl => match us, hl with | [_, _], _ => rfl
theorem bi__law_put : BiF "_law_put" s__law_put ["_law_term_here", "_law_value"] := fun _ _ _ _ _ _ us hl => match us, hl with | [_, _], _ => rfl
theorem bi__law_places : BiF "_law_places" s__law_places ["_law_term_here"] := fun _ _ _ _ _ _ us hl => match us, hl with | [_], _ => rfl
theorem bi__law_redexes : BiF "_law_redexes" s__law_redexes ["_law_term_here"] := fun _ _ _ _ _ _ us hl => match us, hl with | [_], _ => rfl
theorem bi__law_step : BiF "_law_step" s__law_step ["_law_term_here", "_law_place"] := fun _ _ _ _ _ _ us hl => match us, hl with | [_, _], _ => rfl
theorem bi__law_term : BiF "_law_term" s__law_term ["_law_stream_here", "_law_size", "_law_depth"] := fun _ _ _ _ _ _ us hl => match us, hl with | [_, _, _], _ => rfl
theorem bi__law_closed_term : BiF "_law_closed_term" s__law_closed_term ["_law_stream_here"] := fun _ _ _ _ _ _ us hl => match us, hl with | [_], _ => rfl
theorem bi__law_rich : BiF "_law_rich" s__law_rich ["_law_stream_here", "_law_size"] := fun _ _ _ _ _ _ us hl => match us, hl with | [_, _], _ => rfl
theorem bi__law_road : BiF "_law_road" s__law_road ["_law_stream_here", "_law_term_here", "_law_many"] := fun _ _ _ _ _ _ us hl => match us, hl with | [_, _, _], _ => rfl
theorem bi__law_passed : BiF "_law_passed" s__law_passed ["_law_term_here", "_law_road_here"] := fun _ _ _ _ _ _ us hl => match us, hl with | [_, _], _ => rfl
theorem bi__law_marked : BiF "_law_marked" s__law_marked ["_law_term_here"] := fun _ _ _ _ _ _ us hl => match us, hl with | [_], _ => rfl
theorem bi__law_mark : BiF "_law_mark" s__law_mark ["_law_term_here", "_law_place"] := fun _ _ _ _ _ _ us hl => match us, hl with | [_, _], _ => rfl
theorem bi__law_is_standard : BiF "_law_is_standard" s__law_is_standard ["_law_passed_here", "_law_road_here"] := fun _ _ _ _ _ _ us hl => match us, hl with | [_, _], _ => rfl
theorem bi__law_told : BiF "_law_told" s__law_told ["_law_term_here", "_law_road_here"] := fun _ _ _ _ _ _ us hl => match us, hl with | [_, _], _ => rfl
theorem bi_law : BiF "law" s_law ["_law_script"] := fun _ _ _ _ _ _ us hl => match us, hl with | [_], _ => rfl
theorem fin_law {P : Program} {w : World} {K : PySem.W.Frag} {mg : Str → Option Value} {fa CT CN : Addr} {t1 t2 t3 : Tok} (hmg : mg "law" = some (.ref fa)) (B : Blt mg) (C : Cst mg t1 t2 t3) (XT : Exc K mg "TooLarge" CT) (XN : Exc K mg "NoRedex" CN) (eT : PySem.W.exmOne K (.ref CT) (.ref CT) = some true)
    (A_checked : At K mg "checked" s_checked ["nodes"])
    (A_end_of : At K mg "end_of" s_end_of ["nodes", "start"])
    (A_depths : At K mg "depths" s_depths ["nodes"])
    (A_lifted : At K mg "lifted" s_lifted ["nodes", "count"])
    (A_placed : At K mg "placed" s_placed ["nodes", "value"])
    (A_placed_nodes : At K mg "placed_nodes" s_placed_nodes ["nodes"])
    (A_index_of : At K mg "index_of" s_index_of ["nodes", "place"])
    (A_comes_before : At K mg "comes_before" s_comes_before ["first", "second"])
    (A_is_redex : At K mg "is_redex" s_is_redex ["nodes", "at"])
    (A_stepped : At K mg "stepped" s_stepped ["nodes", "place"])
    (A_follow : At K mg "follow" s_follow ["term", "road"])
    (A_marked : At K mg "marked" s_marked ["nodes"])
    (A_mark_at : At K mg "mark_at" s_mark_at ["nodes", "place"])
    (A_marks : At K mg "marks" s_marks ["nodes"])
    (A_with_mark : At K mg "with_mark" s_with_mark ["nodes", "mark"])
    (A_is_standard : At K mg "is_standard" s_is_standard ["term", "road"])
    (A_first_of : At K mg "first_of" s_first_of ["term", "road"])
    (A_without : At K mg "without" s_without ["term", "place", "road"])
    (A_standard : At K mg "standard" s_standard ["term", "road"])
    (A__law_stream : At K mg "_law_stream" s__law_stream ["_law_script"])
    (A__law_draw : At K mg "_law_draw" s__law_draw ["_law_stream_here", "_law_many"])
    (A__law_is_lam : At K mg "_law_is_lam" s__law_is_lam ["_law_node"])
    (A__law_end : At K mg "_law_end" s__law_end ["_law_term_here", "_law_at"])
    (A__law_depths : At K mg "_law_depths" s__law_depths ["_law_term_here"])
    (A__law_lift : At K mg "_law_lift" s__law_lift ["_law_term_here", "_law_count"])
    (A__law_put : At K mg "_law_put" s__law_put ["_law_term_here", "_law_value"])
    (A__law_places : At K mg "_law_places" s__law_places ["_law_term_here"])
    (A__law_redexes : At K mg "_law_redexes" s__law_redexes ["_law_term_here"])
    (A__law_step : At K mg "_law_step" s__law_step ["_law_term_here", "_law_place"])
    (A__law_term : At K mg "_law_term" s__law_term ["_law_stream_here", "_law_size", "_law_depth"])
    (A__law_closed_term : At K mg "_law_closed_term" s__law_closed_term ["_law_stream_here"])
    (A__law_rich : At K mg "_law_rich" s__law_rich ["_law_stream_here", "_law_size"])
    (A__law_road : At K mg "_law_road" s__law_road ["_law_stream_here", "_law_term_here", "_law_many"])
    (A__law_passed : At K mg "_law_passed" s__law_passed ["_law_term_here", "_law_road_here"])
    (A__law_marked : At K mg "_law_marked" s__law_marked ["_law_term_here"])
    (A__law_mark : At K mg "_law_mark" s__law_mark ["_law_term_here", "_law_place"])
    (A__law_is_standard : At K mg "_law_is_standard" s__law_is_standard ["_law_passed_here", "_law_road_here"])
    (A__law_told : At K mg "_law_told" s__law_told ["_law_term_here", "_law_road_here"])
    (A_law : At K mg "law" s_law ["_law_script"])
    : ∃ fd : FuncData, (∀ (s : Shared) (v : Value), BindsTo s fd ⟨[v], []⟩ [("_law_script", v)]) ∧ ∀ base : Heap, K.In base → base.Ns mainGlobals mg → FnOk P w K mg base CX0 22 fa fd ["_law_script"] (spLaw K) := by
  obtain ⟨f, fd, Fu, m, b⟩ := A_law.ex
  have e := hmg.symm.trans m
  cases e
  refine ⟨fd, fun s v => ?_, fun base _ _ => ?_⟩
  · obtain ⟨oc, od, kV, doc, pm, an, cdv, ct, osl, rfl, lk, hcd⟩ := Fu.ex
    exact .of_eq rfl
  have D_end_of : Has P w K mg base _ _ _ _ _ := ok_end_of A_end_of B
  have D_depths : Has P w K mg base _ _ _ _ _ := ok_depths A_depths B
  have D_lifted : Has P w K mg base _ _ _ _ _ := ok_lifted A_lifted B D_depths
  have D_checked : Has P w K mg base _ _ _ _ _ := ok_checked A_checked B C XT
  have D_placed : Has P w K mg base _ _ _ _ _ := ok_placed A_placed B C XT D_depths D_lifted D_checked
  have D_placed_nodes : Has P w K mg base _ _ _ _ _ := ok_placed_nodes A_placed_nodes B
  have D_index_of : Has P w K mg base _ _ _ _ _ := ok_index_of A_index_of B D_end_of
  have D_comes_before : Has P w K mg base _ _ _ _ _ := ok_comes_before A_comes_before B
  have D_is_redex : Has P w K mg base _ _ _ _ _ := ok_is_redex A_is_redex B
  have D_stepped : Has P w K mg base _ _ _ _ _ := ok_stepped A_stepped B C XT XN D_index_of D_is_redex D_end_of D_placed
  have D_follow : Has P w K mg base _ _ _ _ _ := ok_follow A_follow B D_stepped
  have D_marked : Has P w K mg base _ _ _ _ _ := ok_marked A_marked B
  have D_mark_at : Has P w K mg base _ _ _ _ _ := ok_mark_at A_mark_at B D_index_of D_is_redex
  have D_marks : Has P w K mg base _ _ _ _ _ := ok_marks A_marks B D_placed_nodes D_is_redex
  have D_with_mark : Has P w K mg base _ _ _ _ _ := ok_with_mark A_with_mark B D_marks
  have D_first_of : Has P w K mg base _ _ _ _ _ := ok_first_of A_first_of B XN D_marked D_mark_at D_marks D_stepped
  have D_without : Has P w K mg base _ _ _ _ _ := ok_without (CN := CN) A_without B C XT D_marked D_mark_at D_with_mark D_stepped
  have D_standard : Has P w K mg base _ _ _ _ _ := ok_standard A_standard B C XT D_first_of D_without D_stepped
  have D_is_standard : Has P w K mg base _ _ _ _ _ := ok_is_standard A_is_standard B D_follow D_marked D_mark_at D_marks D_comes_before D_stepped
  have L_is_standard : Has P w K mg base CX0 6 _ _ _ := has_calm D_is_standard fun vs H Q E h => h
  have L_stream : Has P w K mg base _ _ _ _ _ := ok_law_stream A__law_stream B
  have L_draw : Has P w K mg base _ _ _ _ _ := ok_law_draw A__law_draw B
  have L_is_lam : Has P w K mg base _ _ _ _ _ := ok_law_is_lam A__law_is_lam B
  have L_end : Has P w K mg base _ _ _ _ _ := ok_law_end A__law_end B L_is_lam
  have L_depths : Has P w K mg base _ _ _ _ _ := ok_law_depths A__law_depths B L_is_lam
  have L_lift : Has P w K mg base _ _ _ _ _ := ok_law_lift A__law_lift B L_depths
  have L_put : Has P w K mg base _ _ _ _ _ := ok_law_put A__law_put B L_depths L_lift
  have L_places : Has P w K mg base _ _ _ _ _ := ok_law_places A__law_places B L_is_lam
  have L_redexes : Has P w K mg base _ _ _ _ _ := ok_law_redexes A__law_redexes B L_places L_is_lam
  have L_step : Has P w K mg base _ _ _ _ _ := ok_law_step A__law_step B L_places L_end L_put
  have L_term : Has P w K mg base _ _ _ _ _ := ok_law_term A__law_term B L_draw 12
  have L_closed : Has P w K mg base _ _ _ _ _ := ok_law_closed_term A__law_closed_term B L_draw
  have L_rich : Has P w K mg base _ _ _ _ _ := ok_law_rich A__law_rich B L_draw L_closed L_term 8
  have L_road : Has P w K mg base _ _ _ _ _ := ok_law_road A__law_road B L_draw L_redexes L_step
  have L_passed : Has P w K mg base _ _ _ _ _ := ok_law_passed A__law_passed B L_redexes L_step
  have L_marked : Has P w K mg base _ _ _ _ _ := ok_law_marked A__law_marked B L_is_lam
  have L_mark : Has P w K mg base _ _ _ _ _ := ok_law_mark A__law_mark B L_places
  have L_std : Has P w K mg base _ _ _ _ _ := ok_law_is_standard A__law_is_standard B L_marked L_redexes L_step L_mark
  have L_told : Has P w K mg base _ _ _ _ _ := ok_law_told A__law_told XT eT D_standard
  exact law_fn Fu B L_stream L_draw L_rich L_road L_passed L_told L_std L_is_standard
end Ly

open PySem PySem.W PyProof.Rows
set_option maxHeartbeats 0 in
theorem PySem.Challenge.cw_lydite_k31_whole_standard_roads_are_stan_holds : PySem.Challenge.rw_lydite_k31_whole_standard_roads_are_stan.Holds := by
  w_on; o_law; k_head; (case hw => w_witness2)
  k_fill
  refine L2.walk_of (l := PySem.Challenge.rw_lydite_k31_whole_standard_roads_are_stan) (n := 63) (k := 22) (x := "_law_script") (CX := fun _ => L2.CX0) (sp := fun w => Ly.spLaw _) rfl (by decide) rfl ⟨rfl, by decide, by decide⟩ (fun w h Y => PySem.W.kIn_of Y) ?F (fun _ _ a ns hl _ hS => ⟨a, ns, rfl, hS, hl, fun _ => rfl⟩) (fun _ _ _ _ _ h => h)
  case F =>
    intro w mg fa h KX G hmg
    refine' Ly.fin_law hmg ⟨PySem.W.mg_none_of KX G ?z0, PySem.W.mg_none_of KX G ?z1, PySem.W.mg_none_of KX G ?z2, PySem.W.mg_none_of KX G ?z3, PySem.W.mg_none_of KX G ?z4, PySem.W.mg_none_of KX G ?z5, PySem.W.mg_none_of KX G ?z6, PySem.W.mg_none_of KX G ?z7, PySem.W.mg_none_of KX G ?z8, PySem.W.mg_none_of KX G ?z9⟩ ⟨PySem.W.mg_of KX G ?g1, PySem.W.mg_of KX G ?g2, PySem.W.mg_of KX G ?g3⟩ (Ly.exc_mk KX G ?aT ?xT ?kT ?bT ?tT) (Ly.exc_mk KX G ?aN ?xN ?kN ?bN ?tN) (Ly.exm_own ?bT2 ?iT ?tT2 ?sT) (Ly.at_mk KX G Ly.bi_checked ?a0 ?l0 ?c0 ?k0) (Ly.at_mk KX G Ly.bi_end_of ?a1 ?l1 ?c1 ?k1) (Ly.at_mk KX G Ly.bi_depths ?a2 ?l2 ?c2 ?k2) (Ly.at_mk KX G Ly.bi_lifted ?a3 ?l3 ?c3 ?k3) (Ly.at_mk KX G Ly.bi_placed ?a4 ?l4 ?c4 ?k4) (Ly.at_mk KX G Ly.bi_placed_nodes ?a5 ?l5 ?c5 ?k5) (Ly.at_mk KX G Ly.bi_index_of ?a6 ?l6 ?c6 ?k6) (Ly.at_mk KX G Ly.bi_comes_before ?a7 ?l7 ?c7 ?k7) (Ly.at_mk KX G Ly.bi_is_redex ?a8 ?l8 ?c8 ?k8) (Ly.at_mk KX G Ly.bi_stepped ?a9 ?l9 ?c9 ?k9) (Ly.at_mk KX G Ly.bi_follow ?a10 ?l10 ?c10 ?k10) (Ly.at_mk KX G Ly.bi_marked ?a11 ?l11 ?c11 ?k11) (Ly.at_mk KX G Ly.bi_mark_at ?a12 ?l12 ?c12 ?k12) (Ly.at_mk KX G Ly.bi_marks ?a13 ?l13 ?c13 ?k13) (Ly.at_mk KX G Ly.bi_with_mark ?a14 ?l14 ?c14 ?k14) (Ly.at_mk KX G Ly.bi_is_standard ?a15 ?l15 ?c15 ?k15) (Ly.at_mk KX G Ly.bi_first_of ?a16 ?l16 ?c16 ?k16) (Ly.at_mk KX G Ly.bi_without ?a17 ?l17 ?c17 ?k17) (Ly.at_mk KX G Ly.bi_standard ?a18 ?l18 ?c18 ?k18) (Ly.at_mk KX G Ly.bi__law_stream ?a19 ?l19 ?c19 ?k19) (Ly.at_mk KX G Ly.bi__law_draw ?a20 ?l20 ?c20 ?k20) (Ly.at_mk KX G Ly.bi__law_is_lam ?a21 ?l21 ?c21 ?k21) (Ly.at_mk KX G Ly.bi__law_end ?a22 ?l22 ?c22 ?k22) (Ly.at_mk KX G Ly.bi__law_depths ?a23 ?l23 ?c23 ?k23) (Ly.at_mk KX G Ly.bi__law_lift ?a24 ?l24 ?c24 ?k24) (Ly.at_mk KX G Ly.bi__law_put ?a25 ?l25 ?c25 ?k25) (Ly.at_mk KX G Ly.bi__law_places ?a26 ?l26 ?c26 ?k26) (Ly.at_mk KX G Ly.bi__law_redexes ?a27 ?l27 ?c27 ?k27) (Ly.at_mk KX G Ly.bi__law_step ?a28 ?l28 ?c28 ?k28) (Ly.at_mk KX G Ly.bi__law_term ?a29 ?l29 ?c29 ?k29) (Ly.at_mk KX G Ly.bi__law_closed_term ?a30 ?l30 ?c30 ?k30) (Ly.at_mk KX G Ly.bi__law_rich ?a31 ?l31 ?c31 ?k31) (Ly.at_mk KX G Ly.bi__law_road ?a32 ?l32 ?c32 ?k32) (Ly.at_mk KX G Ly.bi__law_passed ?a33 ?l33 ?c33 ?k33) (Ly.at_mk KX G Ly.bi__law_marked ?a34 ?l34 ?c34 ?k34) (Ly.at_mk KX G Ly.bi__law_mark ?a35 ?l35 ?c35 ?k35) (Ly.at_mk KX G Ly.bi__law_is_standard ?a36 ?l36 ?c36 ?k36) (Ly.at_mk KX G Ly.bi__law_told ?a37 ?l37 ?c37 ?k37) (Ly.at_mk KX G Ly.bi_law ?a38 ?l38 ?c38 ?k38)
    (case z0 => k_is)
    (case z1 => k_is)
    (case z2 => k_is)
    (case z3 => k_is)
    (case z4 => k_is)
    (case z5 => k_is)
    (case z6 => k_is)
    (case z7 => k_is)
    (case z8 => k_is)
    (case z9 => k_is)
    (case a0 => k_is); (case l0 => k_is); (case c0 => k_is); (case k0 => k_is)
    (case a1 => k_is); (case l1 => k_is); (case c1 => k_is); (case k1 => k_is)
    (case a2 => k_is); (case l2 => k_is); (case c2 => k_is); (case k2 => k_is)
    (case a3 => k_is); (case l3 => k_is); (case c3 => k_is); (case k3 => k_is)
    (case a4 => k_is); (case l4 => k_is); (case c4 => k_is); (case k4 => k_is)
    (case a5 => k_is); (case l5 => k_is); (case c5 => k_is); (case k5 => k_is)
    (case a6 => k_is); (case l6 => k_is); (case c6 => k_is); (case k6 => k_is)
    (case a7 => k_is); (case l7 => k_is); (case c7 => k_is); (case k7 => k_is)
    (case a8 => k_is); (case l8 => k_is); (case c8 => k_is); (case k8 => k_is)
    (case a9 => k_is); (case l9 => k_is); (case c9 => k_is); (case k9 => k_is)
    (case a10 => k_is); (case l10 => k_is); (case c10 => k_is); (case k10 => k_is)
    (case a11 => k_is); (case l11 => k_is); (case c11 => k_is); (case k11 => k_is)
    (case a12 => k_is); (case l12 => k_is); (case c12 => k_is); (case k12 => k_is)
    (case a13 => k_is); (case l13 => k_is); (case c13 => k_is); (case k13 => k_is)
    (case a14 => k_is); (case l14 => k_is); (case c14 => k_is); (case k14 => k_is)
    (case a15 => k_is); (case l15 => k_is); (case c15 => k_is); (case k15 => k_is)
    (case a16 => k_is); (case l16 => k_is); (case c16 => k_is); (case k16 => k_is)
    (case a17 => k_is); (case l17 => k_is); (case c17 => k_is); (case k17 => k_is)
    (case a18 => k_is); (case l18 => k_is); (case c18 => k_is); (case k18 => k_is)
    (case a19 => k_is); (case l19 => k_is); (case c19 => k_is); (case k19 => k_is)
    (case a20 => k_is); (case l20 => k_is); (case c20 => k_is); (case k20 => k_is)
    (case a21 => k_is); (case l21 => k_is); (case c21 => k_is); (case k21 => k_is)
    (case a22 => k_is); (case l22 => k_is); (case c22 => k_is); (case k22 => k_is)
    (case a23 => k_is); (case l23 => k_is); (case c23 => k_is); (case k23 => k_is)
    (case a24 => k_is); (case l24 => k_is); (case c24 => k_is); (case k24 => k_is)
    (case a25 => k_is); (case l25 => k_is); (case c25 => k_is); (case k25 => k_is)
    (case a26 => k_is); (case l26 => k_is); (case c26 => k_is); (case k26 => k_is)
    (case a27 => k_is); (case l27 => k_is); (case c27 => k_is); (case k27 => k_is)
    (case a28 => k_is); (case l28 => k_is); (case c28 => k_is); (case k28 => k_is)
    (case a29 => k_is); (case l29 => k_is); (case c29 => k_is); (case k29 => k_is)
    (case a30 => k_is); (case l30 => k_is); (case c30 => k_is); (case k30 => k_is)
    (case a31 => k_is); (case l31 => k_is); (case c31 => k_is); (case k31 => k_is)
    (case a32 => k_is); (case l32 => k_is); (case c32 => k_is); (case k32 => k_is)
    (case a33 => k_is); (case l33 => k_is); (case c33 => k_is); (case k33 => k_is)
    (case a34 => k_is); (case l34 => k_is); (case c34 => k_is); (case k34 => k_is)
    (case a35 => k_is); (case l35 => k_is); (case c35 => k_is); (case k35 => k_is)
    (case a36 => k_is); (case l36 => k_is); (case c36 => k_is); (case k36 => k_is)
    (case a37 => k_is); (case l37 => k_is); (case c37 => k_is); (case k37 => k_is)
    (case a38 => k_is); (case l38 => k_is); (case c38 => k_is); (case k38 => k_is)
    (case g1 => k_is); (case g2 => k_is); (case g3 => k_is)
    (case aT => k_is); (case xT => k_exc); (case kT => k_is); (case bT => k_is); (case tT => k_is)
    (case aN => k_is); (case xN => k_exc); (case kN => k_is); (case bN => k_is); (case tN => k_is)
    (case bT2 => k_is); (case iT => k_is); (case tT2 => k_is); (case sT => first | rfl | k_is)
