import PyProof.Rows.All
import Wide.All
import OpenK.AllK
import Wide.FinOn
import HandS.ForMost
import HandS.Exc
import HandS.TryOnly
import HandS.TryMany
import HandS.ExcOwn
import HandS.WordsExc
import HandS.Flow
import HandS.Wide
import HandS.Steps
import HandS.IsInst
import HandS.DictComp
import HandS.More
import HandS.SortInts
import HandS.Evl
import HandS.FStr
import HandS.OwnEq
import HandS.Style
import HandS.CallSlots
import HandS.Small
import HandS.Codes
import PySem.Challenge.RW_meetwalks_k09_texts_refused
set_option Elab.async false
set_option linter.all false
set_option maxRecDepth 100000
set_option maxHeartbeats 4000000
/-! Steps, ways: plain Lean, no program in sight. -/
namespace Mw
/-- a step's worth -/
def sv (c : Nat) : Int := if c = 102 then 1 else if c = 98 then -1 else 0
def tot (l : List Nat) : Int := (l.map sv).sum
/-- the step done at time k by a plan -/
def stp (h r : List Nat) (k : Nat) : Nat := if k < h.length then h.getD k 0 else r.getD ((k - h.length) % r.length) 0
/-- the way behind t steps -/
def W (h r : List Nat) : Nat → Int
  | 0 => 0
  | t + 1 => W h r t + sv (stp h r t)
/-- as the program reckons it -/
def wayP (h r : List Nat) (t : Int) : Int :=
  if t ≤ h.length then tot (h.take (max t 0).toNat)
  else tot h + (t - h.length) / r.length * tot r + tot (r.take ((t - h.length) % r.length).toNat)

theorem tot_nil : tot [] = 0 := rfl
theorem tot_append (a b : List Nat) : tot (a ++ b) = tot a + tot b := by
  unfold tot; rw [List.map_append, List.sum_append]
theorem tot_take_succ (l : List Nat) (k : Nat) (hk : k < l.length) : tot (l.take (k + 1)) = tot (l.take k) + sv (l.getD k 0) := by
  rw [List.take_succ, tot_append]
  have : l[k]? = some (l.getD k 0) := by
    rw [List.getD_eq_getElem?_getD, List.getElem?_eq_getElem hk]; rfl
  rw [this]
  simp [tot]
theorem W_head (h r : List Nat) : ∀ t, t ≤ h.length → W h r t = tot (h.take t)
  | 0, _ => by simp [W, tot]
  | t + 1, ht => by
    have ht' : t < h.length := ht
    rw [W, W_head h r t (by omega), tot_take_succ h t ht', stp, if_pos ht']
theorem W_tail (h r : List Nat) (hr : 0 < r.length) : ∀ k : Nat, W h r (h.length + k) = tot h + ((k / r.length : Nat) : Int) * tot r + tot (r.take (k % r.length))
  | 0 => by simp [W_head h r h.length (Nat.le_refl _), tot]
  | k + 1 => by
    have ih := W_tail h r hr k
    rw [← Nat.add_assoc, W, ih, stp, if_neg (by omega), Nat.add_sub_cancel_left]
    have hm : k % r.length < r.length := Nat.mod_lt _ hr
    by_cases c : k % r.length + 1 = r.length
    · have e1 : (k + 1) % r.length = 0 := by
        rw [Nat.add_mod, ]
        by_cases h1 : r.length = 1
        · rw [h1]; omega
        · rw [Nat.mod_eq_of_lt (show 1 < r.length by omega), c, Nat.mod_self]
      have e2 : (k + 1) / r.length = k / r.length + 1 := by
        have := Nat.div_add_mod k r.length
        have h2 := Nat.div_add_mod (k + 1) r.length
        rw [e1] at h2
        have h3 : r.length * ((k + 1) / r.length) = r.length * (k / r.length + 1) := by rw [Nat.mul_add]; omega
        exact Nat.eq_of_mul_eq_mul_left hr h3
      rw [e1, e2]
      have e3 := tot_take_succ r (k % r.length) hm
      rw [c, List.take_length] at e3
      simp only [List.take_zero, tot_nil]
      rw [Int.add_zero, Int.natCast_add, Int.add_mul]
      simp only [Int.natCast_one, Int.one_mul]
      omega
    · have e1 : (k + 1) % r.length = k % r.length + 1 := by
        rw [Nat.add_mod]
        by_cases h1 : r.length = 1
        · omega
        · rw [Nat.mod_eq_of_lt (show 1 < r.length by omega), Nat.mod_eq_of_lt (by omega)]
      have e2 : (k + 1) / r.length = k / r.length := by
        have := Nat.div_add_mod k r.length
        have h2 := Nat.div_add_mod (k + 1) r.length
        rw [e1] at h2
        have h3 : r.length * ((k + 1) / r.length) = r.length * (k / r.length) := by omega
        exact Nat.eq_of_mul_eq_mul_left hr h3
      rw [e1, e2, tot_take_succ r _ hm]
      omega
theorem wayP_eq (h r : List Nat) (hr : 0 < r.length) (t : Int) : wayP h r t = W h r t.toNat := by
  unfold wayP
  by_cases c : t ≤ h.length
  · rw [if_pos c, W_head h r t.toNat (by omega)]
    congr 2
    omega
  · rw [if_neg c]
    have e : t.toNat = h.length + (t - h.length).toNat := by omega
    rw [e, W_tail h r hr]
    have e1 : (t - h.length) = (((t - h.length).toNat : Nat) : Int) := by omega
    generalize (t - (h.length : Int)).toNat = k at e1
    rw [e1]
    rw [← Int.natCast_ediv, ← Int.natCast_emod, Int.toNat_natCast]
theorem W_zero (h r : List Nat) : W h r 0 = 0 := rfl
/-- a ring's way behind so many whole rounds -/
theorem W_rounds (r : List Nat) (hr : 0 < r.length) (q : Nat) : W [] r (q * r.length) = (q : Int) * tot r := by
  have := W_tail [] r hr (q * r.length)
  simp only [List.length_nil, Nat.zero_add, tot_nil, Int.zero_add] at this
  rw [this, Nat.mul_div_cancel _ hr, Nat.mul_mod_left]
  simp [tot]
/-- once by the ring, a whole number of rounds adds so many times the ring's way -/
theorem W_shift (h r : List Nat) (hr : 0 < r.length) (q k : Nat) (hk : h.length ≤ k) : W h r (k + q * r.length) = W h r k + (q : Int) * tot r := by
  obtain ⟨m, rfl⟩ := Nat.exists_eq_add_of_le hk
  rw [Nat.add_assoc, W_tail h r hr, W_tail h r hr, Nat.add_mul_div_right _ _ hr, Nat.add_mul_mod_self_right, Int.natCast_add, Int.add_mul]
  omega
theorem sv_abs (c : Nat) : -1 ≤ sv c ∧ sv c ≤ 1 := by
  unfold sv; split
  · omega
  · split <;> omega
theorem tot_abs : ∀ l : List Nat, -(l.length : Int) ≤ tot l ∧ tot l ≤ l.length
  | [] => by simp [tot]
  | c :: l => by
    have h := tot_abs l
    have e : tot (c :: l) = sv c + tot l := by simp [tot]
    have := sv_abs c
    rw [e, List.length_cons]
    omega
theorem W_abs (h r : List Nat) : ∀ t : Nat, -(t : Int) ≤ W h r t ∧ W h r t ≤ t
  | 0 => by simp [W]
  | t + 1 => by
    have := W_abs h r t
    have := sv_abs (stp h r t)
    rw [W]
    omega
end Mw

/-! First times of rests. -/
namespace Mw
/-- the rests modulo n of f at the times below T, each with its first time, in the order in which they come -/
def ft (f : Nat → Int) (n : Int) : Nat → List (Int × Int)
  | 0 => []
  | T + 1 => if f T % n ∈ (ft f n T).map (·.1) then ft f n T else ft f n T ++ [(f T % n, (T : Int))]
section
variable {f : Nat → Int} {n : Int}
theorem ft_yes {T : Nat} (h : f T % n ∈ (ft f n T).map (·.1)) : ft f n (T + 1) = ft f n T := by rw [ft, if_pos h]
theorem ft_no {T : Nat} (h : ¬ f T % n ∈ (ft f n T).map (·.1)) : ft f n (T + 1) = ft f n T ++ [(f T % n, (T : Int))] := by rw [ft, if_neg h]
theorem ft_keys (g : Int) : ∀ T, g ∈ (ft f n T).map (·.1) ↔ ∃ t, t < T ∧ f t % n = g
  | 0 => by simp [ft]
  | T + 1 => by
    have ih := ft_keys g T
    by_cases c : f T % n ∈ (ft f n T).map (·.1)
    · rw [ft_yes c, ih]
      constructor
      · rintro ⟨t, ht, e⟩; exact ⟨t, by omega, e⟩
      · rintro ⟨t, ht, e⟩
        by_cases h : t = T
        · subst h; rw [e] at c; exact (ft_keys g t).mp c
        · exact ⟨t, by omega, e⟩
    · rw [ft_no c, List.map_append, List.mem_append, ih]
      simp only [List.map_cons, List.map_nil, List.mem_singleton]
      constructor
      · rintro (⟨t, ht, e⟩ | e)
        · exact ⟨t, by omega, e⟩
        · exact ⟨T, by omega, e.symm⟩
      · rintro ⟨t, ht, e⟩
        by_cases h : t = T
        · subst h; exact .inr e.symm
        · exact .inl ⟨t, by omega, e⟩
theorem ft_nodup : ∀ T, ((ft f n T).map (·.1)).Nodup
  | 0 => by simp [ft]
  | T + 1 => by
    by_cases c : f T % n ∈ (ft f n T).map (·.1)
    · rw [ft_yes c]; exact ft_nodup T
    · rw [ft_no c, List.map_append, List.nodup_append]
      refine ⟨ft_nodup T, by simp, ?_⟩
      intro a ha b hb
      simp only [List.map_cons, List.map_nil, List.mem_singleton] at hb
      subst hb
      intro e; subst e; exact c ha
theorem ft_len (T : Nat) : (ft f n T).length ≤ T := by
  induction T with
  | zero => simp [ft]
  | succ T ih =>
    by_cases c : f T % n ∈ (ft f n T).map (·.1)
    · rw [ft_yes c]; omega
    · rw [ft_no c, List.length_append, List.length_singleton]; omega
/-- an entry: the time is the first one with this rest -/
theorem ft_mem {g t : Int} : ∀ T, (g, t) ∈ ft f n T ↔ ∃ k : Nat, t = k ∧ k < T ∧ f k % n = g ∧ ∀ j, j < k → f j % n ≠ g
  | 0 => by simp [ft]
  | T + 1 => by
    have ih := ft_mem (g := g) (t := t) T
    by_cases c : f T % n ∈ (ft f n T).map (·.1)
    · rw [ft_yes c, ih]
      constructor
      · rintro ⟨k, h1, h2, h3⟩; exact ⟨k, h1, by omega, h3⟩
      · rintro ⟨k, h1, h2, h3, h4⟩
        refine ⟨k, h1, ?_, h3, h4⟩
        by_cases h : k = T
        · subst h
          obtain ⟨j, hj, e⟩ := (ft_keys (f k % n) k).mp c
          exact absurd (e.trans h3) (h4 j hj)
        · omega
    · rw [ft_no c, List.mem_append, ih]
      simp only [List.mem_singleton, Prod.mk.injEq]
      constructor
      · rintro (⟨k, h1, h2, h3⟩ | ⟨h1, h2⟩)
        · exact ⟨k, h1, by omega, h3⟩
        · refine ⟨T, h2, by omega, h1.symm, fun j hj e => c ?_⟩
          rw [ft_keys]
          exact ⟨j, hj, e.trans h1⟩
      · rintro ⟨k, h1, h2, h3, h4⟩
        by_cases h : k = T
        · subst h; exact .inr ⟨h3.symm, h1⟩
        · exact .inl ⟨k, h1, by omega, h3, h4⟩
/-- nothing new comes: the table stands still -/
theorem ft_stay {T : Nat} (h : ∀ t, T ≤ t → ∃ j, j < T ∧ f j % n = f t % n) : ∀ k, ft f n (T + k) = ft f n T
  | 0 => rfl
  | k + 1 => by
    have ih := ft_stay h k
    obtain ⟨j, hj, e⟩ := h (T + k) (by omega)
    rw [← Nat.add_assoc, ft_yes, ih]
    rw [ft_keys]
    exact ⟨j, by omega, e⟩
theorem ft_stay' {T T' : Nat} (hT : T ≤ T') (h : ∀ t, T ≤ t → ∃ j, j < T ∧ f j % n = f t % n) : ft f n T' = ft f n T := by
  obtain ⟨k, rfl⟩ := Nat.exists_eq_add_of_le hT
  exact ft_stay h k
/-- all rests are there: nothing new can come -/
theorem ft_full {T : Nat} (hn : 0 < n) (h : ((ft f n T).length : Int) = n) (g : Int) (h0 : 0 ≤ g) (h1 : g < n) : g ∈ (ft f n T).map (·.1) := by
  -- the keys are n different numbers below n
  false_or_by_contra
  rename_i hc
  have nd := ft_nodup (f := f) (n := n) T
  have sub : ∀ x ∈ g :: (ft f n T).map (·.1), x ∈ (List.range n.toNat).map (fun i : Nat => (i : Int)) := by
    intro x hx
    rw [List.mem_map]
    rcases List.mem_cons.mp hx with rfl | hx
    · exact ⟨x.toNat, by rw [List.mem_range]; omega, by omega⟩
    · obtain ⟨t, _, e⟩ := (ft_keys x T).mp hx
      have := Int.emod_nonneg (f t) (show n ≠ 0 by omega)
      have := Int.emod_lt_of_pos (f t) hn
      exact ⟨x.toNat, by rw [List.mem_range]; omega, by omega⟩
  have := List.Nodup.length_le_of_subset (List.nodup_cons.mpr ⟨hc, nd⟩) sub
  simp only [List.length_cons, List.length_map, List.length_range] at this
  omega
theorem ft_le {T : Nat} (hn : 0 < n) : ((ft f n T).length : Int) ≤ n := by
  have nd := ft_nodup (f := f) (n := n) T
  have sub : ∀ x ∈ (ft f n T).map (·.1), x ∈ (List.range n.toNat).map (fun i : Nat => (i : Int)) := by
    intro x hx
    rw [List.mem_map]
    obtain ⟨t, _, e⟩ := (ft_keys x T).mp hx
    have := Int.emod_nonneg (f t) (show n ≠ 0 by omega)
    have := Int.emod_lt_of_pos (f t) hn
    exact ⟨x.toNat, by rw [List.mem_range]; omega, by omega⟩
  have := List.Nodup.length_le_of_subset nd sub
  simp only [List.length_map, List.length_range] at this
  omega
theorem ft_stop {T : Nat} (hn : 0 < n) (h : ((ft f n T).length : Int) = n) {T' : Nat} (hT : T ≤ T') : ft f n T' = ft f n T := by
  refine ft_stay' hT fun t ht => ?_
  have := Int.emod_nonneg (f t) (show n ≠ 0 by omega)
  have := Int.emod_lt_of_pos (f t) hn
  exact (ft_keys _ T).mp (ft_full hn h (f t % n) (by omega) (by omega))
/-- full: just where every gap is come to -/
theorem ft_full_iff {T : Nat} (hn : 0 < n) : ((ft f n T).length : Int) = n ↔ ∀ g, 0 ≤ g → g < n → ∃ t, t < T ∧ f t % n = g := by
  constructor
  · intro h g h0 h1
    exact (ft_keys g T).mp (ft_full hn h g h0 h1)
  · intro h
    have sub : ∀ x ∈ (List.range n.toNat).map (fun i : Nat => (i : Int)), x ∈ (ft f n T).map (·.1) := by
      intro x hx
      obtain ⟨i, hi, rfl⟩ := List.mem_map.mp hx
      rw [List.mem_range] at hi
      rw [ft_keys]
      exact h i (by omega) (by omega)
    have nd : ((List.range n.toNat).map (fun i : Nat => (i : Int))).Nodup := by
      rw [List.nodup_iff_pairwise_ne, List.pairwise_map]
      exact List.Pairwise.imp (fun h e => by omega) List.pairwise_lt_range
    have := List.Nodup.length_le_of_subset nd sub
    simp only [List.length_map, List.length_range] at this
    have := ft_le (f := f) (T := T) hn
    omega
end

/-! ### two that walk: offsets that grow by G every L times from B on -/
structure Per (f : Nat → Int) (B L : Nat) (G : Int) : Prop where
  pos : 0 < L
  step : ∀ t, B ≤ t → f (t + L) = f t + G
theorem Per.mul {f : Nat → Int} {B L : Nat} {G : Int} (p : Per f B L G) (k : Nat) : ∀ t, B ≤ t → f (t + k * L) = f t + k * G := by
  induction k with
  | zero => intro t _; simp
  | succ k ih =>
    intro t ht
    rw [Nat.succ_mul, ← Nat.add_assoc, p.step _ (by omega), ih t ht, Int.natCast_add, Int.add_mul]
    simp only [Int.natCast_one, Int.one_mul]
    omega
/-- behind B + L n times nothing new comes modulo n -/
theorem Per.again {f : Nat → Int} {B L : Nat} {G : Int} (p : Per f B L G) {n : Nat} (hn : 0 < n) {T : Nat} (hT : B + L * n ≤ T) (t : Nat) (ht : T ≤ t) : ∃ j, j < T ∧ f j % (n : Int) = f t % (n : Int) := by
  induction t using Nat.strongRecOn with
  | _ t ih =>
    have hL := p.pos
    have h1 : 0 < L * n := Nat.mul_pos hL hn
    have e : f (t - L * n + n * L) = f (t - L * n) + (n : Int) * G := p.mul n (t - L * n) (by omega)
    rw [Nat.mul_comm n L, Nat.sub_add_cancel (by omega)] at e
    have e2 : f t % (n : Int) = f (t - L * n) % (n : Int) := by rw [e, Int.add_mul_emod_self_left]
    by_cases c : t - L * n < T
    · exact ⟨t - L * n, c, e2.symm⟩
    · obtain ⟨j, hj, ej⟩ := ih (t - L * n) (by omega) (by omega)
      exact ⟨j, hj, ej.trans e2.symm⟩
theorem Per.ft {f : Nat → Int} {B L : Nat} {G : Int} (p : Per f B L G) {n : Nat} (hn : 0 < n) {T T' : Nat} (hT : B + L * n ≤ T) (hT' : T ≤ T') : Mw.ft f n T' = Mw.ft f n T :=
  ft_stay' hT' (p.again hn hT)
end Mw

/-! Plans, offsets, gains; whether two always meet. -/
namespace Mw
structure Pl where
  h : List Nat
  r : List Nat
  deriving DecidableEq
def Pl.W (a : Pl) (t : Int) : Int := Mw.W a.h a.r t.toNat
def off (a b : Pl) (d t : Int) : Int := a.W (t - max 0 (-d)) - b.W (t - max 0 d)
def lcmP (a b : Pl) : Nat := a.r.length * b.r.length / Nat.gcd a.r.length b.r.length
def gain (a b : Pl) : Int := tot a.r * ((lcmP a b / a.r.length : Nat) : Int) - tot b.r * ((lcmP a b / b.r.length : Nat) : Int)
def beg (a b : Pl) (d : Int) : Nat := (max ((a.h.length : Int) + max 0 (-d)) ((b.h.length : Int) + max 0 d)).toNat
structure Ok (a : Pl) : Prop where
  hl : a.h.length ≤ 6
  r0 : 0 < a.r.length
  rl : a.r.length ≤ 6
theorem lcm_a (a b : Pl) : lcmP a b / a.r.length * a.r.length = lcmP a b := by
  unfold lcmP
  refine Nat.div_mul_cancel ?_
  obtain ⟨k, hk⟩ := Nat.gcd_dvd_right a.r.length b.r.length
  by_cases h : Nat.gcd a.r.length b.r.length = 0
  · rw [h, Nat.div_zero]; exact Nat.dvd_zero _
  · have e : a.r.length * b.r.length / Nat.gcd a.r.length b.r.length = a.r.length * k := by
      rw [show a.r.length * b.r.length = a.r.length * (Nat.gcd a.r.length b.r.length * k) from by rw [← hk], Nat.mul_left_comm, Nat.mul_div_cancel_left _ (by omega)]
    rw [e]; exact Nat.dvd_mul_right _ _
theorem lcm_b (a b : Pl) : lcmP a b / b.r.length * b.r.length = lcmP a b := by
  unfold lcmP
  refine Nat.div_mul_cancel ?_
  obtain ⟨k, hk⟩ := Nat.gcd_dvd_left a.r.length b.r.length
  by_cases h : Nat.gcd a.r.length b.r.length = 0
  · rw [h, Nat.div_zero]; exact Nat.dvd_zero _
  · have e : a.r.length * b.r.length / Nat.gcd a.r.length b.r.length = b.r.length * k := by
      rw [show a.r.length * b.r.length = (Nat.gcd a.r.length b.r.length * k) * b.r.length from by rw [← hk], Nat.mul_assoc, Nat.mul_div_cancel_left _ (by omega), Nat.mul_comm]
    rw [e]; exact Nat.dvd_mul_right _ _
theorem lcm_pos {a b : Pl} (ha : 0 < a.r.length) (hb : 0 < b.r.length) : 0 < lcmP a b := by
  unfold lcmP
  refine Nat.div_pos (Nat.le_trans (Nat.le_of_dvd ha (Nat.gcd_dvd_left _ _)) (Nat.le_mul_of_pos_right _ hb)) (Nat.gcd_pos_of_pos_left _ ha)
theorem lcm_le (a b : Pl) : lcmP a b ≤ a.r.length * b.r.length := Nat.div_le_self _ _
theorem Pl.W_shift {a : Pl} (h0 : 0 < a.r.length) (q : Nat) (t : Int) (ht : (a.h.length : Int) ≤ t) : a.W (t + (q * a.r.length : Nat)) = a.W t + (q : Int) * tot a.r := by
  unfold Pl.W
  rw [show (t + ((q * a.r.length : Nat) : Int)).toNat = t.toNat + q * a.r.length from by omega]
  exact Mw.W_shift a.h a.r h0 q t.toNat (by omega)
theorem off_per {a b : Pl} (ha : 0 < a.r.length) (hb : 0 < b.r.length) (d : Int) : Per (fun t => off a b d (t : Int)) (beg a b d) (lcmP a b) (gain a b) where
  pos := lcm_pos ha hb
  step := fun t ht => by
    have h1 : (a.h.length : Int) + max 0 (-d) ≤ t ∧ (b.h.length : Int) + max 0 d ≤ t := by
      unfold beg at ht
      constructor <;> omega
    show off a b d ((t + lcmP a b : Nat) : Int) = off a b d t + gain a b
    unfold off gain
    have e1 := Pl.W_shift ha (lcmP a b / a.r.length) ((t : Int) - max 0 (-d)) (by omega)
    have e2 := Pl.W_shift hb (lcmP a b / b.r.length) ((t : Int) - max 0 d) (by omega)
    rw [lcm_a] at e1
    rw [lcm_b] at e2
    rw [Int.natCast_add, show (t : Int) + (lcmP a b : Nat) - max 0 (-d) = (t : Int) - max 0 (-d) + (lcmP a b : Nat) from by omega,
      show (t : Int) + (lcmP a b : Nat) - max 0 d = (t : Int) - max 0 d + (lcmP a b : Nat) from by omega, e1, e2, Int.mul_comm (tot a.r), Int.mul_comm (tot b.r)]
    omega

/-! ### fullness of the rests -/
/-- every rest modulo G is come to at some time from B on (so, again and again) -/
def EF (f : Nat → Int) (B L : Nat) (G : Int) : Prop := ∀ ρ : Int, ∃ t, B ≤ t ∧ t < B + L ∧ G ∣ f t - ρ
/-- the rests of a round are all numbers below |G| -/
def fullB (f : Nat → Int) (B L : Nat) (G : Int) : Prop := ((ft (fun t => f (B + t)) (G.natAbs : Int) L).length : Int) = G.natAbs
theorem dvd_of_mod {x ρ G : Int} (hG : G ≠ 0) (h : x % (G.natAbs : Int) = ρ % (G.natAbs : Int)) : G ∣ x - ρ := by
  rw [← Int.natAbs_dvd]
  exact Int.dvd_of_emod_eq_zero (by rw [Int.sub_emod, h, Int.sub_self, Int.zero_emod])
theorem mod_of_dvd {x ρ G : Int} (h : G ∣ x - ρ) : x % (G.natAbs : Int) = ρ % (G.natAbs : Int) := by
  rw [← Int.natAbs_dvd] at h
  obtain ⟨k, hk⟩ := h
  rw [show x = ρ + (G.natAbs : Int) * k from by omega, Int.add_mul_emod_self_left]
theorem full_iff {f : Nat → Int} {B L : Nat} {G : Int} (hG : G ≠ 0) : fullB f B L G ↔ EF f B L G := by
  have h0 : (0 : Int) < G.natAbs := by omega
  unfold fullB
  rw [ft_full_iff h0]
  constructor
  · intro h ρ
    obtain ⟨t, ht, e⟩ := h (ρ % (G.natAbs : Int)) (Int.emod_nonneg _ (by omega)) (Int.emod_lt_of_pos _ h0)
    exact ⟨B + t, by omega, by omega, dvd_of_mod hG e⟩
  · intro h g h1 h2
    obtain ⟨t, ht1, ht2, hd⟩ := h g
    refine ⟨t - B, by omega, ?_⟩
    have e := mod_of_dvd hd
    rw [Int.emod_eq_of_lt h1 h2] at e
    rw [show B + (t - B) = t from by omega]
    exact e
/-- .. at times as late as one likes -/
theorem EF.late {f : Nat → Int} {B L : Nat} {G : Int} (p : Per f B L G) (h : EF f B L G) (ρ : Int) (N : Nat) : ∃ t, N ≤ t ∧ G ∣ f t - ρ := by
  obtain ⟨t, h1, h2, h3⟩ := h ρ
  refine ⟨t + N * L, ?_, ?_⟩
  · have := Nat.le_mul_of_pos_right N p.pos
    omega
  · rw [p.mul N t h1, show f t + (N : Int) * G - ρ = (f t - ρ) + G * N from by rw [Int.mul_comm]; omega]
    exact Int.dvd_add h3 (Int.dvd_mul_right _ _)
theorem EF.of_late {f : Nat → Int} {B L : Nat} {G : Int} (p : Per f B L G) (h : ∀ ρ : Int, ∃ t, B ≤ t ∧ G ∣ f t - ρ) : EF f B L G := fun ρ => by
  obtain ⟨t, h1, h2⟩ := h ρ
  have hL := p.pos
  have hm := Nat.mod_lt (t - B) hL
  have hd := Nat.div_add_mod (t - B) L
  have e : f ((B + (t - B) % L) + (t - B) / L * L) = f (B + (t - B) % L) + (((t - B) / L : Nat) : Int) * G := p.mul _ _ (by omega)
  rw [show (B + (t - B) % L) + (t - B) / L * L = t from by rw [Nat.mul_comm]; omega] at e
  refine ⟨B + (t - B) % L, by omega, by omega, ?_⟩
  rw [show f (B + (t - B) % L) - ρ = (f t - ρ) - G * (((t - B) / L : Nat) : Int) from by rw [e, Int.mul_comm G]; omega]
  exact Int.dvd_sub h2 (Int.dvd_mul_right _ _)
/-- moved in time and place it stays full -/
theorem EF.move {f f' : Nat → Int} {B B' L L' : Nat} {G : Int} (p : Per f B L G) (p' : Per f' B' L' G) (h : EF f B L G) (N e : Nat) (c : Int) (hm : ∀ t, N ≤ t → f' (t + e) = f t + c) : EF f' B' L' G :=
  EF.of_late p' fun ρ => by
    obtain ⟨t, h1, h2⟩ := EF.late p h (ρ - c) (N + B')
    refine ⟨t + e, by omega, ?_⟩
    rw [hm t (by omega), show f t + c - ρ = f t - (ρ - c) from by omega]
    exact h2
/-- where the rests are full every gap of every ring is met -/
theorem EF.meet {f : Nat → Int} {B L : Nat} {G : Int} (p : Per f B L G) (h : EF f B L G) {n : Nat} (hn : 0 < n) (g : Int) : ∃ t, t < B + L * n ∧ f t % (n : Int) = g % (n : Int) := by
  obtain ⟨t, h1, h2, m, hm⟩ := h g
  have hn' : (0 : Int) < n := by omega
  have k0 := Int.emod_nonneg (-m) (show (n : Int) ≠ 0 by omega)
  have k1 := Int.emod_lt_of_pos (-m) hn'
  have k2 := Int.mul_ediv_add_emod (-m) (n : Int)
  generalize hk : ((-m) % (n : Int)).toNat = k
  have ek : (k : Int) = (-m) % (n : Int) := by omega
  refine ⟨t + k * L, ?_, ?_⟩
  · have h3 : k * L ≤ (n - 1) * L := Nat.mul_le_mul_right _ (by omega)
    have h4 : L * n = (n - 1) * L + L := by
      rw [Nat.mul_comm L n, ← Nat.succ_mul]
      congr 1
      omega
    omega
  · rw [p.mul k t h1]
    have e : f t + (k : Int) * G = g + (n : Int) * (-((-m) / (n : Int)) * G) := by
      have e1 : f t = g + G * m := by omega
      have e2 : (k : Int) = -m - (n : Int) * ((-m) / (n : Int)) := by omega
      rw [e1, e2, Int.sub_mul, Int.neg_mul, Int.mul_assoc, ← Int.neg_mul, Int.neg_mul, Int.neg_mul, Int.mul_neg, Int.mul_comm m G]
      omega
    rw [e, Int.add_mul_emod_self_left]
theorem EF.ft {f : Nat → Int} {B L : Nat} {G : Int} (p : Per f B L G) (h : EF f B L G) {n : Nat} (hn : 0 < n) {T : Nat} (hT : B + L * n ≤ T) : ((Mw.ft f n T).length : Int) = n := by
  rw [ft_full_iff (by omega)]
  intro g h0 h1
  obtain ⟨t, h2, h3⟩ := h.meet p hn g
  exact ⟨t, by omega, by rw [h3, Int.emod_eq_of_lt h0 h1]⟩
/-- where they are not full, some ring has a gap that is never met -/
theorem not_full {f : Nat → Int} {B L : Nat} {G : Int} (p : Per f B L G) (hG : G ≠ 0) (h : ¬ EF f B L G) : ∀ T, ((Mw.ft f ((G.natAbs * (B + 1) : Nat) : Int) T).length : Int) ≠ (G.natAbs * (B + 1) : Nat) := by
  intro T hT
  have hGp : 0 < G.natAbs := by omega
  have hnp : 0 < G.natAbs * (B + 1) := Nat.mul_pos hGp (by omega)
  rw [ft_full_iff (by omega)] at hT
  apply h
  refine EF.of_late p fun ρ => ?_
  false_or_by_contra
  rename_i hc
  have key : ∀ t, G ∣ f t - ρ → t < B := fun t hd => by
    false_or_by_contra
    exact hc ⟨t, by omega, hd⟩
  have r0 := Int.emod_nonneg ρ (show (G.natAbs : Int) ≠ 0 by omega)
  have r1 := Int.emod_lt_of_pos ρ (show (0 : Int) < G.natAbs by omega)
  generalize hρ : ρ % (G.natAbs : Int) = ρ' at r0 r1
  have nd : ((List.range (B + 1)).map (fun j : Nat => ρ' + (j * G.natAbs : Nat))).Nodup := by
    rw [List.nodup_iff_pairwise_ne, List.pairwise_map]
    refine List.Pairwise.imp (fun {x y} h e => ?_) List.pairwise_lt_range
    have := Nat.mul_lt_mul_of_pos_right h hGp
    omega
  have sub : ∀ x ∈ (List.range (B + 1)).map (fun j : Nat => ρ' + (j * G.natAbs : Nat)), x ∈ (List.range B).map (fun t => f t % ((G.natAbs * (B + 1) : Nat) : Int)) := by
    intro x hx
    obtain ⟨j, hj, rfl⟩ := List.mem_map.mp hx
    rw [List.mem_range] at hj
    have b1 : j * G.natAbs ≤ B * G.natAbs := Nat.mul_le_mul_right _ (by omega)
    have b2 : G.natAbs * (B + 1) = B * G.natAbs + G.natAbs := by rw [Nat.mul_add, Nat.mul_comm]; omega
    obtain ⟨t, ht, e⟩ := hT (ρ' + (j * G.natAbs : Nat)) (by omega) (by omega)
    rw [List.mem_map]
    refine ⟨t, ?_, e⟩
    rw [List.mem_range]
    refine key t (dvd_of_mod hG ?_)
    have e2 : f t % (G.natAbs : Int) = (f t % ((G.natAbs * (B + 1) : Nat) : Int)) % (G.natAbs : Int) := by
      rw [Int.natCast_mul, Int.emod_emod_of_dvd _ (Int.dvd_mul_right _ _)]
    rw [e2, e, Int.natCast_mul, Int.add_mul_emod_self_right, ← hρ, Int.emod_emod_of_dvd _ (Int.dvd_refl _)]
  have := List.Nodup.length_le_of_subset nd sub
  simp only [List.length_map, List.length_range] at this
  omega
/-- without a gain few places are come to -/
theorem no_gain {f : Nat → Int} {B L : Nat} (p : Per f B L 0) : ∀ T, ((Mw.ft f ((B + L + 1 : Nat) : Int) T).length : Int) ≠ (B + L + 1 : Nat) := by
  intro T
  have sub : ∀ x ∈ (Mw.ft f ((B + L + 1 : Nat) : Int) T).map (·.1), x ∈ (List.range (B + L)).map (fun t => f t % ((B + L + 1 : Nat) : Int)) := by
    intro x hx
    obtain ⟨t, _, e⟩ := (ft_keys x T).mp hx
    rw [List.mem_map]
    have hL := p.pos
    by_cases c : t < B + L
    · exact ⟨t, List.mem_range.mpr c, e⟩
    · have hm := Nat.mod_lt (t - B) hL
      have e2 : f ((B + (t - B) % L) + (t - B) / L * L) = f (B + (t - B) % L) + (((t - B) / L : Nat) : Int) * 0 := p.mul _ _ (by omega)
      have hd := Nat.div_add_mod (t - B) L
      rw [show (B + (t - B) % L) + (t - B) / L * L = t from by rw [Nat.mul_comm]; omega] at e2
      refine ⟨B + (t - B) % L, List.mem_range.mpr (by omega), ?_⟩
      show f _ % _ = x
      rw [← e, e2]
      simp
  have := List.Nodup.length_le_of_subset (ft_nodup T) sub
  simp only [List.length_map, List.length_range] at this
  omega
end Mw

/-! The shortest ring and head of a plan. -/
namespace Mw
/-- a text again and again -/
def rep (l : List Nat) : Nat → List Nat
  | 0 => []
  | k + 1 => l ++ rep l k
theorem rep_len (l : List Nat) (k : Nat) : (rep l k).length = k * l.length := by
  induction k with
  | zero => simp [rep]
  | succ k ih => rw [rep, List.length_append, ih, Nat.succ_mul, Nat.add_comm]
theorem rep_get (l : List Nat) (hl : 0 < l.length) : ∀ (k i : Nat), i < k * l.length → (rep l k)[i]? = l[i % l.length]?
  | 0, i, h => by simp at h
  | k + 1, i, h => by
    rw [rep]
    by_cases c : i < l.length
    · rw [List.getElem?_append_left c, Nat.mod_eq_of_lt c]
    · have e : i % l.length = (i - l.length) % l.length := Nat.mod_eq_sub_mod (by omega)
      rw [Nat.add_one_mul] at h
      rw [List.getElem?_append_right (by omega), rep_get l hl k (i - l.length) (by omega), e]
/-- size makes the ring -/
def lrT (l : List Nat) (s : Nat) : Bool := decide (l.length % s = 0) && decide (rep (l.take s) (l.length / s) = l)
def lround (l : List Nat) : List Nat := match ((List.range (l.length - 1)).map (· + 1)).find? (lrT l) with | some s => l.take s | none => l
theorem lround_some {l : List Nat} {i : Nat} (h : ∀ k, k < i → lrT l (k + 1) = false) (hi : i < l.length - 1) (ht : lrT l (i + 1) = true) : lround l = l.take (i + 1) := by
  have : ((List.range (l.length - 1)).map (· + 1)).find? (lrT l) = some (i + 1) := by
    have fr : (List.range (l.length - 1)).find? (lrT l ∘ fun x => x + 1) = some i := List.find?_range_eq_some.mpr ⟨ht, List.mem_range.mpr hi, fun j hj => by
      show (!lrT l (j + 1)) = true
      rw [h j hj]; rfl⟩
    rw [List.find?_map, fr]
    rfl
  unfold lround
  rw [this]
theorem lround_none {l : List Nat} (h : ∀ k, k < l.length - 1 → lrT l (k + 1) = false) : lround l = l := by
  have : ((List.range (l.length - 1)).map (· + 1)).find? (lrT l) = none := by
    rw [List.find?_eq_none]
    intro x hx
    obtain ⟨k, hk, rfl⟩ := List.mem_map.mp hx
    rw [h k (List.mem_range.mp hk)]
    exact Bool.false_ne_true
  unfold lround
  rw [this]
/-- either the ring itself, or the least size that makes it -/
theorem lround_cases (l : List Nat) : (lround l = l ∧ ∀ k, k < l.length - 1 → lrT l (k + 1) = false) ∨ ∃ i, i < l.length - 1 ∧ lround l = l.take (i + 1) ∧ lrT l (i + 1) = true ∧ ∀ k, k < i → lrT l (k + 1) = false := by
  cases h : (List.range (l.length - 1)).find? (fun k => lrT l (k + 1)) with
  | none =>
    left
    have : ∀ k, k < l.length - 1 → lrT l (k + 1) = false := fun k hk => by
      have := List.find?_eq_none.mp h k (List.mem_range.mpr hk)
      simpa using this
    exact ⟨lround_none this, this⟩
  | some i =>
    right
    obtain ⟨h1, h2, h3⟩ := List.find?_range_eq_some.mp h
    have h4 : ∀ k, k < i → lrT l (k + 1) = false := fun k hk => by simpa using h3 k hk
    exact ⟨i, List.mem_range.mp h2, lround_some h4 (List.mem_range.mp h2) h1, h1, h4⟩
/-- while the last steps are alike the head gives its last one away -/
def peel (h r : List Nat) : List Nat × List Nat :=
  if h ≠ [] ∧ h.getLast? = r.getLast? then peel h.dropLast (r.getLast?.toList ++ r.dropLast) else (h, r)
termination_by h.length
decreasing_by
  rename_i c
  rw [List.length_dropLast]
  have := List.length_pos_iff.mpr c.1
  omega
theorem peel_yes {h r : List Nat} (c : h ≠ [] ∧ h.getLast? = r.getLast?) : peel h r = peel h.dropLast (r.getLast?.toList ++ r.dropLast) := by rw [peel, if_pos c]
theorem peel_no {h r : List Nat} (c : ¬ (h ≠ [] ∧ h.getLast? = r.getLast?)) : peel h r = (h, r) := by rw [peel, if_neg c]
def plainP (p : Pl) : Pl := ⟨(peel p.h (lround p.r)).1, (peel p.h (lround p.r)).2⟩

/-! ### steps as a sequence -/
/-- from b on the sequence comes again every q -/
def PF (u : Nat → Nat) (b q : Nat) : Prop := ∀ k, b ≤ k → u (k + q) = u k
theorem PF.mono {u : Nat → Nat} {b b' q : Nat} (h : PF u b q) (hb : b ≤ b') : PF u b' q := fun k hk => h k (by omega)
theorem PF.mul {u : Nat → Nat} {b q : Nat} (h : PF u b q) (m : Nat) : PF u b (m * q) := by
  induction m with
  | zero => intro k _; simp
  | succ m ih =>
    intro k hk
    rw [Nat.succ_mul, ← Nat.add_assoc, h _ (by omega), ih k hk]
theorem PF.sub {u : Nat → Nat} {b p q : Nat} (hp : PF u b p) (hq : PF u b q) (h : p ≤ q) : PF u b (q - p) := fun k hk => by
  have h1 := hp (k + (q - p)) (by omega)
  rw [show k + (q - p) + p = k + q from by omega, hq k hk] at h1
  exact h1.symm
theorem PF.gcd {u : Nat → Nat} {b : Nat} : ∀ (n p q : Nat), p + q ≤ n → PF u b p → PF u b q → PF u b (Nat.gcd p q) := by
  intro n
  induction n with
  | zero => intro p q h hp _; have : p = 0 := by omega
            have : q = 0 := by omega
            subst_vars; exact hp
  | succ n ih =>
    intro p q h hp hq
    by_cases h0 : p = 0
    · subst h0; rw [Nat.gcd_zero_left]; exact hq
    · by_cases h1 : q = 0
      · subst h1; rw [Nat.gcd_zero_right]; exact hp
      · by_cases c : p ≤ q
        · have := ih p (q - p) (by omega) hp (hp.sub hq c)
          rwa [Nat.gcd_sub_self_right c] at this
        · have := ih (p - q) q (by omega) (hq.sub hp (by omega)) hq
          rwa [Nat.gcd_sub_self_left (by omega)] at this
/-- a period from afar is one from where another begins -/
theorem PF.back {u : Nat → Nat} {b N p q : Nat} (hp : PF u b p) (h0 : 0 < p) (hq : PF u N q) : PF u b q := fun k hk => by
  have h1 := hp.mul N k hk
  have h2 := hp.mul N (k + q) (by omega)
  have h3 : N ≤ N * p := Nat.le_mul_of_pos_right N h0
  have h4 := hq (k + N * p) (by omega)
  rw [show k + N * p + q = k + q + N * p from by omega, h2, h1] at h4
  exact h4
theorem getD_at {l : List Nat} {i : Nat} {x : Nat} (h : l[i]? = some x) : l.getD i 0 = x := by rw [List.getD_eq_getElem?_getD, h]; rfl
theorem stp_pf (h r : List Nat) : PF (stp h r) h.length r.length := fun k hk => by
  unfold stp
  rw [if_neg (by omega), if_neg (by omega), show k + r.length - h.length = (k - h.length) + r.length from by omega, Nat.add_mod_right]
theorem stp_head {h r : List Nat} {k : Nat} (hk : k < h.length) : h[k]? = some (stp h r k) := by
  unfold stp
  rw [if_pos hk, List.getElem?_eq_getElem hk, List.getD_eq_getElem?_getD, List.getElem?_eq_getElem hk]; rfl
theorem stp_ring {h r : List Nat} {k : Nat} (hk : k < r.length) : r[k]? = some (stp h r (h.length + k)) := by
  unfold stp
  rw [if_neg (by omega), Nat.add_sub_cancel_left, Nat.mod_eq_of_lt hk, List.getElem?_eq_getElem hk, List.getD_eq_getElem?_getD, List.getElem?_eq_getElem hk]; rfl
/-- the sequence tells the plan, its lengths known -/
theorem stp_inj {h r h' r' : List Nat} (e : ∀ k, stp h r k = stp h' r' k) (h1 : h.length = h'.length) (h2 : r.length = r'.length) : h = h' ∧ r = r' := by
  constructor
  · apply List.ext_getElem?
    intro k
    by_cases c : k < h.length
    · rw [stp_head (r := r) c, stp_head (r := r') (by omega), e]
    · rw [List.getElem?_eq_none (by omega), List.getElem?_eq_none (by omega)]
  · apply List.ext_getElem?
    intro k
    by_cases c : k < r.length
    · rw [stp_ring (h := h) c, stp_ring (h := h') (by omega), e, h1]
    · rw [List.getElem?_eq_none (by omega), List.getElem?_eq_none (by omega)]
theorem stp_ext {h r h' r' : List Nat} {b q : Nat} (p1 : PF (stp h r) b q) (p2 : PF (stp h' r') b q) (h0 : 0 < q) (e : ∀ k, k < b + q → stp h r k = stp h' r' k) : ∀ k, stp h r k = stp h' r' k := by
  intro k
  induction k using Nat.strongRecOn with
  | _ k ih =>
    by_cases c : k < b + q
    · exact e k c
    · have h1 := p1 (k - q) (by omega)
      have h2 := p2 (k - q) (by omega)
      rw [Nat.sub_add_cancel (by omega)] at h1 h2
      rw [h1, h2]
      exact ih (k - q) (by omega)
theorem lrT_iff {h l : List Nat} {s : Nat} (hs : 0 < s) (hl : s ≤ l.length) : lrT l s = true ↔ (s ∣ l.length ∧ PF (stp h l) h.length s) := by
  unfold lrT
  rw [Bool.and_eq_true, decide_eq_true_eq, decide_eq_true_eq]
  have tl : (l.take s).length = s := by rw [List.length_take]; omega
  constructor
  · rintro ⟨h1, h2⟩
    have hd : s ∣ l.length := Nat.dvd_of_mod_eq_zero h1
    refine ⟨hd, ?_⟩
    have get : ∀ i, i < l.length → l[i]? = l[i % s]? := fun i hi => by
      have h3 : i < l.length / s * (l.take s).length := by rw [tl, Nat.div_mul_cancel hd]; exact hi
      have h4 := rep_get (l.take s) (by omega) _ i h3
      rw [h2, tl, List.getElem?_take_of_lt (Nat.mod_lt _ hs)] at h4
      exact h4
    intro k hk
    have h5 : 0 < l.length := by omega
    unfold stp
    rw [if_neg (by omega), if_neg (by omega), List.getD_eq_getElem?_getD, List.getD_eq_getElem?_getD, get _ (Nat.mod_lt _ h5), get ((k - h.length) % l.length) (Nat.mod_lt _ h5), Nat.mod_mod_of_dvd _ hd, Nat.mod_mod_of_dvd _ hd,
      show k + s - h.length = (k - h.length) + s from by omega, Nat.add_mod_right]
  · rintro ⟨hd, pf⟩
    refine ⟨Nat.mod_eq_zero_of_dvd hd, ?_⟩
    apply List.ext_getElem?
    intro i
    have len : (rep (l.take s) (l.length / s)).length = l.length := by rw [rep_len, tl, Nat.div_mul_cancel hd]
    by_cases c : i < l.length
    · rw [rep_get (l.take s) (by omega) _ i (by rw [tl, Nat.div_mul_cancel hd]; exact c), tl, List.getElem?_take_of_lt (Nat.mod_lt _ hs), stp_ring (h := h) c, stp_ring (h := h) (Nat.lt_of_le_of_lt (Nat.mod_le _ _) c)]
      have h1 := pf.mul (i / s) (h.length + i % s) (by omega)
      rw [show h.length + i % s + i / s * s = h.length + i from by have := Nat.div_add_mod i s; rw [Nat.mul_comm]; omega] at h1
      rw [h1]
    · rw [List.getElem?_eq_none (by omega), List.getElem?_eq_none (by omega)]
/-- no lesser number makes the sequence come again -/
def Min (u : Nat → Nat) (q : Nat) : Prop := ∀ d N, 0 < d → d < q → ¬ PF u N d
theorem lround_len {l : List Nat} (h0 : 0 < l.length) : 0 < (lround l).length ∧ (lround l).length ≤ l.length := by
  rcases lround_cases l with ⟨e, _⟩ | ⟨i, hi, e, _⟩
  · rw [e]; omega
  · rw [e, List.length_take]; omega
theorem lround_stp {h l : List Nat} (h0 : 0 < l.length) : ∀ k, stp h (lround l) k = stp h l k := by
  rcases lround_cases l with ⟨e, _⟩ | ⟨i, hi, e, ht, _⟩
  · rw [e]; exact fun _ => rfl
  · have tl : (l.take (i + 1)).length = i + 1 := by rw [List.length_take]; omega
    obtain ⟨hd, pf⟩ := (lrT_iff (h := h) (by omega) (by omega)).mp ht
    rw [e]
    refine stp_ext (b := h.length) (q := i + 1) ?_ pf (by omega) fun k hk => ?_
    · have := stp_pf h (l.take (i + 1)); rwa [tl] at this
    · by_cases c : k < h.length
      · unfold stp; rw [if_pos c, if_pos c]
      · unfold stp
        rw [if_neg c, if_neg c, tl, Nat.mod_eq_of_lt (by omega), Nat.mod_eq_of_lt (by omega), List.getD_eq_getElem?_getD, List.getD_eq_getElem?_getD, List.getElem?_take_of_lt (by omega)]
theorem lround_min {h l : List Nat} (h0 : 0 < l.length) : Min (stp h l) (lround l).length := by
  intro d N d0 dl pf
  have p1 := stp_pf h l
  have pd : PF (stp h l) h.length d := p1.back h0 pf
  have pg := PF.gcd (u := stp h l) (b := h.length) _ d l.length (Nat.le_refl _) pd p1
  have g0 : 0 < Nat.gcd d l.length := Nat.gcd_pos_of_pos_left _ d0
  have gd : Nat.gcd d l.length ≤ d := Nat.le_of_dvd d0 (Nat.gcd_dvd_left _ _)
  have gl : Nat.gcd d l.length ≤ l.length := Nat.le_of_dvd h0 (Nat.gcd_dvd_right _ _)
  have yes := (lrT_iff (h := h) g0 gl).mpr ⟨Nat.gcd_dvd_right _ _, pg⟩
  rcases lround_cases l with ⟨e, no⟩ | ⟨i, hi, e, ht, no⟩
  · rw [e] at dl
    have := no (Nat.gcd d l.length - 1) (by omega)
    rw [Nat.sub_add_cancel g0, yes] at this
    cases this
  · rw [e, List.length_take] at dl
    have := no (Nat.gcd d l.length - 1) (by omega)
    rw [Nat.sub_add_cancel g0, yes] at this
    cases this
/-- one step given away: the same sequence -/
theorem peel_step {h r : List Nat} (c : h ≠ [] ∧ h.getLast? = r.getLast?) : (∀ k, stp h.dropLast (r.getLast?.toList ++ r.dropLast) k = stp h r k) ∧ (r.getLast?.toList ++ r.dropLast).length = r.length ∧ r ≠ [] := by
  obtain ⟨hn, hl⟩ := c
  have hp := List.length_pos_iff.mpr hn
  have rn : r ≠ [] := by
    intro e; subst e
    rw [List.getLast?_nil, List.getLast?_eq_none_iff] at hl
    exact hn hl
  have rp := List.length_pos_iff.mpr rn
  obtain ⟨x, hx⟩ : ∃ x, r.getLast? = some x := ⟨r.getLast rn, List.getLast?_eq_some_getLast rn⟩
  have hlen : (r.getLast?.toList ++ r.dropLast).length = r.length := by
    rw [hx, List.length_append, List.length_dropLast]
    show 1 + (r.length - 1) = r.length
    omega
  refine ⟨?_, hlen, rn⟩
  have hdl : h.dropLast.length = h.length - 1 := List.length_dropLast
  have lastH : h[h.length - 1]? = some x := by rw [← List.getLast?_eq_getElem?, hl, hx]
  have lastR : r[r.length - 1]? = some x := by rw [← List.getLast?_eq_getElem?, hx]
  have g0 : ∀ j, j < r.length - 1 → (r.getLast?.toList ++ r.dropLast)[j + 1]? = r[j]? := fun j hj => by
    rw [hx]
    show (x :: r.dropLast)[j + 1]? = _
    rw [List.getElem?_cons_succ, List.dropLast_eq_take, List.getElem?_take_of_lt (by omega)]
  have gz : (r.getLast?.toList ++ r.dropLast)[0]? = some x := by rw [hx]; rfl
  refine stp_ext (b := h.length) (q := r.length) ?_ (stp_pf h r) rp fun k hk => ?_
  · have := stp_pf h.dropLast (r.getLast?.toList ++ r.dropLast)
    rw [hlen] at this
    exact this.mono (by omega)
  · unfold stp
    rw [hdl, hlen]
    by_cases c1 : k < h.length - 1
    · rw [if_pos c1, if_pos (by omega), List.getD_eq_getElem?_getD, List.getD_eq_getElem?_getD, List.dropLast_eq_take, List.getElem?_take_of_lt (by omega)]
    · rw [if_neg c1]
      by_cases c2 : k < h.length
      · have ek : k = h.length - 1 := by omega
        subst ek
        rw [if_pos c2, Nat.sub_self, Nat.zero_mod, getD_at gz, getD_at lastH]
      · rw [if_neg c2]
        by_cases c3 : k - h.length + 1 < r.length
        · rw [show k - (h.length - 1) = (k - h.length) + 1 from by omega, Nat.mod_eq_of_lt c3, Nat.mod_eq_of_lt (by omega), List.getD_eq_getElem?_getD, List.getD_eq_getElem?_getD, g0 _ (by omega)]
        · have e1 : k - (h.length - 1) = r.length := by omega
          have e2 : k - h.length = r.length - 1 := by omega
          rw [e1, e2, Nat.mod_self, Nat.mod_eq_of_lt (by omega), getD_at gz, getD_at lastR]
structure Norm (u : Nat → Nat) (h r : List Nat) : Prop where
  seq : ∀ k, stp h r k = u k
  r0 : 0 < r.length
  min : Min u r.length
  nol : h = [] ∨ h.getLast? ≠ r.getLast?
theorem peel_norm : ∀ (n : Nat) (h r : List Nat), h.length = n → 0 < r.length → Min (stp h r) r.length → Norm (stp h r) (peel h r).1 (peel h r).2 ∧ (peel h r).1.length ≤ h.length ∧ (peel h r).2.length = r.length := by
  intro n
  induction n with
  | zero =>
    intro h r hn r0 mn
    have : h = [] := List.length_eq_zero_iff.mp hn
    subst this
    rw [peel_no (by simp)]
    exact ⟨⟨fun _ => rfl, r0, mn, .inl rfl⟩, Nat.le_refl _, rfl⟩
  | succ n ih =>
    intro h r hn r0 mn
    by_cases c : h ≠ [] ∧ h.getLast? = r.getLast?
    · obtain ⟨s1, s2, s3⟩ := peel_step c
      rw [peel_yes c]
      have e : stp h.dropLast (r.getLast?.toList ++ r.dropLast) = stp h r := funext s1
      have q := ih h.dropLast (r.getLast?.toList ++ r.dropLast) (by rw [List.length_dropLast]; omega) (by omega) (by rw [e, s2]; exact mn)
      rw [e, s2, List.length_dropLast] at q
      exact ⟨q.1, by omega, q.2.2⟩
    · rw [peel_no c]
      refine ⟨⟨fun _ => rfl, r0, mn, ?_⟩, Nat.le_refl _, rfl⟩
      by_cases hz : h = []
      · exact .inl hz
      · exact .inr fun e => c ⟨hz, e⟩
theorem plain_norm {p : Pl} (h0 : 0 < p.r.length) : Norm (stp p.h p.r) (plainP p).h (plainP p).r ∧ (plainP p).h.length ≤ p.h.length ∧ (plainP p).r.length ≤ p.r.length := by
  have e : stp p.h (lround p.r) = stp p.h p.r := funext (lround_stp h0)
  have q := peel_norm _ p.h (lround p.r) rfl (lround_len h0).1 (by rw [e]; exact lround_min h0)
  rw [e] at q
  refine ⟨q.1, q.2.1, ?_⟩
  show (peel p.h (lround p.r)).2.length ≤ _
  have := q.2.2
  have := (lround_len h0).2
  omega
theorem Norm.uniq {u : Nat → Nat} {h r h' r' : List Nat} (a : Norm u h r) (b : Norm u h' r') : h = h' ∧ r = r' := by
  have fa : stp h r = u := funext a.seq
  have fb : stp h' r' = u := funext b.seq
  have pa : PF u h.length r.length := fa ▸ stp_pf h r
  have pb : PF u h'.length r'.length := fb ▸ stp_pf h' r'
  have er : r.length = r'.length := by
    rcases Nat.lt_trichotomy r.length r'.length with c | c | c
    · exact absurd pa (b.min _ _ a.r0 c)
    · exact c
    · exact absurd pb (a.min _ _ b.r0 c)
  -- the head that is longer could give a step away
  have key : ∀ {h r h' r' : List Nat}, Norm u h r → Norm u h' r' → r.length = r'.length → ¬ h.length < h'.length := by
    intro h r h' r' a b er lt
    have fa : stp h r = u := funext a.seq
    have fb : stp h' r' = u := funext b.seq
    have pa : PF u h.length r.length := fa ▸ stp_pf h r
    have nn : h' ≠ [] := by intro e; subst e; simp at lt
    rcases b.nol with e | ne
    · exact nn e
    · apply ne
      have h1 := stp_head (h := h') (r := r') (k := h'.length - 1) (by omega)
      have h2 := stp_ring (h := h') (r := r') (k := r'.length - 1) (by have := b.r0; omega)
      rw [fb] at h1 h2
      have h3 := pa (h'.length - 1) (by omega)
      rw [show h'.length + (r'.length - 1) = h'.length - 1 + r.length from by have := b.r0; omega, h3] at h2
      rw [List.getLast?_eq_getElem?, List.getLast?_eq_getElem?, h1, h2]
  have eh : h.length = h'.length := by
    have k1 := key a b er
    have k2 := key b a er.symm
    omega
  exact stp_inj (fun k => (a.seq k).trans (b.seq k).symm) eh er
/-- two plans do the same steps for ever just where their shortest forms are one -/
theorem plain_iff {p q : Pl} (hp : 0 < p.r.length) (hq : 0 < q.r.length) : plainP p = plainP q ↔ ∀ k, stp p.h p.r k = stp q.h q.r k := by
  have np := (plain_norm hp).1
  have nq := (plain_norm hq).1
  constructor
  · intro e k
    rw [← np.seq, ← nq.seq, e]
  · intro e
    have : stp p.h p.r = stp q.h q.r := funext e
    rw [this] at np
    obtain ⟨e1, e2⟩ := np.uniq nq
    show Pl.mk _ _ = Pl.mk _ _
    congr 1
/-- seen for long enough, seen for ever -/
theorem window {p q : Pl} (hp : 0 < p.r.length) (hq : 0 < q.r.length) {N : Nat} (h1 : p.h.length + p.r.length + q.r.length ≤ N) (h2 : q.h.length + p.r.length + q.r.length ≤ N) (e : ∀ k, k < N → stp p.h p.r k = stp q.h q.r k) : ∀ k, stp p.h p.r k = stp q.h q.r k := by
  intro k
  have p1 := stp_pf p.h p.r
  have p2 := stp_pf q.h q.r
  induction k using Nat.strongRecOn with
  | _ k ih =>
    by_cases c : k < N
    · exact e k c
    · have a1 := p1 (k - p.r.length) (by omega)
      have a2 := p2 (k - p.r.length - q.r.length) (by omega)
      have a3 := p1 (k - q.r.length - p.r.length) (by omega)
      have a4 := p2 (k - q.r.length) (by omega)
      rw [Nat.sub_add_cancel (by omega)] at a1 a2 a3 a4
      have i1 := ih (k - p.r.length) (by omega)
      have i2 := ih (k - p.r.length - q.r.length) (by omega)
      have i3 := ih (k - q.r.length) (by omega)
      rw [show k - q.r.length - p.r.length = k - p.r.length - q.r.length from by omega] at a3
      rw [a1, i1, a2, ← i2, ← a3, i3, ← a4]
end Mw

/-! Texts of plans: cut at blanks, read. Codes: 32 a blank, 102 f, 98 b, 115 s. -/
namespace Mw
def wds : List Nat → List Nat → List (List Nat)
  | acc, [] => [acc]
  | acc, c :: r => if c = 32 then acc :: wds [] r else wds (acc ++ [c]) r
theorem wds_ne : ∀ z acc, wds acc z ≠ []
  | [], acc => by simp [wds]
  | c :: r, acc => by
    rw [wds]
    split
    · simp
    · exact wds_ne r _
theorem wds_len : ∀ z acc, ∀ w ∈ wds acc z, w.length ≤ acc.length + z.length
  | [], acc, w, h => by
    rw [wds, List.mem_singleton] at h
    subst h; simp
  | c :: r, acc, w, h => by
    rw [wds] at h
    rw [List.length_cons]
    split at h
    · rcases List.mem_cons.mp h with rfl | h
      · omega
      · have := wds_len r [] w h
        rw [List.length_nil] at this
        omega
    · have := wds_len r _ w h
      rw [List.length_append, List.length_singleton] at this
      omega
theorem wds_cnt : ∀ z acc, (wds acc z).length ≤ z.length + 1
  | [], acc => by simp [wds]
  | c :: r, acc => by
    rw [wds, List.length_cons]
    split
    · have := wds_cnt r []
      rw [List.length_cons]; omega
    · have := wds_cnt r (acc ++ [c]); omega
theorem wds_word : ∀ (h : List Nat) (r acc : List Nat), 32 ∉ h → wds acc (h ++ 32 :: r) = (acc ++ h) :: wds [] r
  | [], r, acc, _ => by rw [List.nil_append, wds, if_pos rfl, List.append_nil]
  | c :: h, r, acc, hc => by
    have h1 : ¬ c = 32 := fun e => hc (e ▸ List.mem_cons_self)
    have h2 : 32 ∉ h := fun e => hc (List.mem_cons_of_mem _ e)
    rw [List.cons_append, wds, if_neg h1, wds_word h r _ h2, List.append_assoc]
    rfl
theorem wds_last : ∀ (h acc : List Nat), 32 ∉ h → wds acc h = [acc ++ h]
  | [], acc, _ => by rw [wds, List.append_nil]
  | c :: h, acc, hc => by
    have h1 : ¬ c = 32 := fun e => hc (e ▸ List.mem_cons_self)
    have h2 : 32 ∉ h := fun e => hc (List.mem_cons_of_mem _ e)
    rw [wds, if_neg h1, wds_last h _ h2, List.append_assoc]
    rfl
def thenL : List Nat := [116, 104, 101, 110]
/-- "then ring", "head then ring" -/
def textL (p : Pl) : List Nat := if p.h = [] then thenL ++ 32 :: p.r else p.h ++ 32 :: (thenL ++ 32 :: p.r)
theorem wds_text {p : Pl} (h1 : 32 ∉ p.h) (h2 : 32 ∉ p.r) : wds [] (textL p) = if p.h = [] then [thenL, p.r] else [p.h, thenL, p.r] := by
  have e : wds [] (thenL ++ 32 :: p.r) = [thenL, p.r] := by
    rw [wds_word _ _ _ (by decide), wds_last _ _ h2]; rfl
  unfold textL
  split
  · exact e
  · rw [wds_word _ _ _ h1, e]; rfl
theorem textL_len (p : Pl) : (textL p).length ≤ p.h.length + p.r.length + 6 := by
  unfold textL thenL
  split <;> simp [List.length_append] <;> omega
/-- three words that make a plan: A what a head must be, B what a ring must be -/
def rd3 (A B : List Nat → Bool) : List (List Nat) → Option Pl
  | [h, a, b] => if a = thenL ∧ A h = true ∧ B b = true then some ⟨h, b⟩ else none
  | _ => none
def rdW (A B : List Nat → Bool) (ws : List (List Nat)) : Option Pl := if ws.length = 2 then rd3 A B ([] :: ws) else if ws.head? = some [] then none else rd3 A B ws
def readL (A B : List Nat → Bool) (z : List Nat) : Option Pl := rdW A B (wds [] z)
theorem read_text {A B : List Nat → Bool} {p : Pl} (h1 : 32 ∉ p.h) (h2 : 32 ∉ p.r) (ha : A p.h = true) (hb : B p.r = true) : readL A B (textL p) = some p := by
  unfold readL
  rw [wds_text h1 h2]
  split
  · rename_i h
    unfold rdW
    rw [if_pos (show [thenL, p.r].length = 2 from rfl)]
    rw [h] at ha
    simp only [rd3, ha, hb, and_self, if_true]
    cases p; simp_all
  · rename_i h
    unfold rdW
    rw [if_neg (by show ¬ 3 = 2; decide), if_neg (by simp [h])]
    simp only [rd3, ha, hb, and_self, if_true]
end Mw

/-! Own rules over the hand layer: callees bundled, own errors without arguments, what an expression comes to over a known heap. -/
namespace Kn
open PySem PySem.Spec L2 Evl

/-! ### callees, bundled -/
structure Cal (P : Program) (w : World) (K : PySem.W.Frag) (mg : Str → Option Value) (base : Heap) (CX : CXT) (k : Nat) (x : Str) (sp : Sp) : Prop where
  ex : ∃ (f : Addr) (fd : FuncData) (ps : List Str), FnOk P w K mg base CX k f fd ps sp ∧ mg x = some (.ref f) ∧ PySem.W.keepIn K (.ref f) = true ∧ Binds K fd ps []
structure Mth (P : Program) (w : World) (K : PySem.W.Frag) (mg : Str → Option Value) (base : Heap) (CX : CXT) (k : Nat) (C : Addr) (m : Str) (sp : Sp) : Prop where
  ex : ∃ (f : Addr) (fd : FuncData) (ps : List Str), Cls K C ∧ Meth K C m f ∧ FnOk P w K mg base CX k f fd ps sp ∧ Binds K fd ps []
structure Mak (P : Program) (w : World) (K : PySem.W.Frag) (mg : Str → Option Value) (base : Heap) (CX : CXT) (k : Nat) (x : Str) (C : Addr) (sp : Sp) : Prop where
  ex : ∃ (f : Addr) (fd : FuncData) (ps : List Str), Mk K C f ∧ FnOk P w K mg base CX k f fd ps sp ∧ mg x = some (.ref C) ∧ Binds K fd ps []
section
variable {X : Cx} {CX : CXT} {k j : Nat} {C : Addr} {x m : Str} {sp : Sp} {E : XK} {Es : St → XK} {p pos apos : Pos} {e o : Expr} {es : List Expr} {ta : TE} {t : TA}
theorem pe_cx (c : Cal X.prog X.w X.K X.mg X.base CX k x sp) (hr : Room j X.A) (hk : k ≤ j) (hg : Gl X x) (hx : Passes CX X E) (ha : PA X (e :: es) t)
    (hdb : (x == ("__debug__" : Str)) = false := by decide) (he : starEach (e :: es) X.env = (false, eval e X.env) :: starEach es X.env := by rfl) (hpl : (backTo pos (starEach es X.env)).any (·.1) = false := by rfl) :
    PE X (.Call (.Name x p) (e :: es) [] pos) (tCall sp [] E t) := by
  obtain ⟨f, fd, ps, F, hm, kp, b⟩ := c.ex
  exact pe_call F (hr.mono hk) hg hm kp b .nil hx ha hdb he hpl
theorem pe_kx (c : Mak X.prog X.w X.K X.mg X.base CX k x C sp) (hr : Room j X.A) (hk : k + 1 ≤ j) (hg : Gl X x) (hx : Passes CX X E) (ha : PA X (e :: es) t)
    (hdb : (x == ("__debug__" : Str)) = false := by decide) (he : starEach (e :: es) X.env = (false, eval e X.env) :: starEach es X.env := by rfl) (hpl : (backTo pos (starEach es X.env)).any (·.1) = false := by rfl) :
    PE X (.Call (.Name x p) (e :: es) [] pos) (tMake C sp [] E t) := by
  obtain ⟨f, fd, ps, M, F, hm, b⟩ := c.ex
  exact pe_make M F (hr.mono hk) hg hm b .nil hx ha hdb he hpl
theorem pe_mx {pl : Sem Bool} (c : Mth X.prog X.w X.K X.mg X.base CX k C m sp) (hr : Room j X.A) (hk : k ≤ j) (he : PE X o ta) (hx : Passes CX X E) (ha : PA X (e :: es) t)
    (hst : starEach (e :: es) X.env = (false, eval e X.env) :: starEach es X.env := by rfl) (hpl : (backTo pos (starEach es X.env)).any (·.1) = false := by rfl)
    (ht : eval (.Call (.Attribute o m apos) (e :: es) [] pos) X.env = (do
      let ov ← eval o X.env
      standAt apos.atName
      let (f, first) ← holding [ov] (getMethod ov m pl)
      callWith pos f first (backTo pos (starEach (e :: es) X.env)) (backToKw pos (keywordEach [] X.env))) := by rfl) :
    PE X (.Call (.Attribute o m apos) (e :: es) [] pos) (tMeth C m sp [] E ta t) := by
  obtain ⟨f, fd, ps, hc, hm, F, b⟩ := c.ex
  exact pe_meth (pl := pl) he hc hm F (hr.mono hk) b .nil hx ha hst hpl ht
theorem pe_mx0 {pl : Sem Bool} (c : Mth X.prog X.w X.K X.mg X.base CX k C m sp) (hr : Room j X.A) (hk : k ≤ j) (he : PE X o ta) (hx : Passes CX X E)
    (ht : eval (.Call (.Attribute o m apos) [] [] pos) X.env = (do
      let ov ← eval o X.env
      standAt apos.atName
      let (f, first) ← holding [ov] (getMethod ov m pl)
      callWith pos f first (backTo pos (starEach [] X.env)) (backToKw pos (keywordEach [] X.env))) := by rfl) :
    PE X (.Call (.Attribute o m apos) [] [] pos) (tMeth C m sp [] E ta tNil) := by
  obtain ⟨f, fd, ps, hc, hm, F, b⟩ := c.ex
  exact pe_meth0 (pl := pl) he hc hm F (hr.mono hk) b .nil hx ht
/-- within a try -/
theorem pe_cxS (c : Cal X.prog X.w X.K X.mg X.base CX k x sp) (hr : Room j X.A) (hk : k ≤ j) (hg : Gl X x) (hx : ∀ σ, PassesAt CX X σ (Es σ)) (ha : PA X (e :: es) t)
    (hdb : (x == ("__debug__" : Str)) = false := by decide) (he : starEach (e :: es) X.env = (false, eval e X.env) :: starEach es X.env := by rfl) (hpl : (backTo pos (starEach es X.env)).any (·.1) = false := by rfl) :
    PE X (.Call (.Name x p) (e :: es) [] pos) (tCallS sp Es t) := by
  obtain ⟨f, fd, ps, F, hm, kp, b⟩ := c.ex
  exact pe_callS F (hr.mono hk) hg hm kp b hx ha hdb he hpl
def tMethS (C : Addr) (m : Str) (sp : Sp) (E : St → XK) (ta : TE) (t : TA) : TE := fun σ H Q => ta σ H fun x H1 => ∃ a dx fs, x = .ref a ∧ H1 a = some (.ins C dx fs) ∧ fs.lookup m = none ∧
  t σ H1 fun vs H2 => sp (x :: vs) H2 Q (E σ)
def tMakeS (C : Addr) (sp : Sp) (E : St → XK) (t : TA) : TE := fun σ H Q => t σ H fun vs H1 => ∀ x dx, H1 x = none → H1 dx = none → dx ≠ x →
  sp (.ref x :: vs) (upd (upd H1 dx (.own x)) x (.ins C dx [])) (fun v H2 => v = .non ∧ Q (.ref x) H2) (E σ)
theorem pe_mxS0 {pl : Sem Bool} (c : Mth X.prog X.w X.K X.mg X.base CX k C m sp) (hr : Room j X.A) (hk : k ≤ j) (he : PE X o ta) (hx : ∀ σ, PassesAt CX X σ (Es σ))
    (ht : eval (.Call (.Attribute o m apos) [] [] pos) X.env = (do
      let ov ← eval o X.env
      standAt apos.atName
      let (f, first) ← holding [ov] (getMethod ov m pl)
      callWith pos f first (backTo pos (starEach [] X.env)) (backToKw pos (keywordEach [] X.env))) := by rfl) :
    PE X (.Call (.Attribute o m apos) [] [] pos) (tMethS C m sp Es ta tNil) := by
  obtain ⟨f, fd, ps, hc, hm, F, b⟩ := c.ex
  refine ⟨fun pins s σ H Q I h => ?_⟩
  refine PySem.W.methodCall_KW (pl := pl) (thn (he.run pins s σ H _ I h) fun u s1 ⟨x, H1, I1, rx, a, dx, fs, ex, ea, l, q⟩ => ?_) ht
  subst ex
  obtain rfl : u = Value.ref a := rx
  refine getmeth_ok I1 ea hc hm l ?_
  exact PySem.W.callWith_K0 (first := [.ref a]) I1.kIn hm.kp (run_fnS (us := [.ref a]) (vs := [.ref a]) F (hr.mono hk) b (hx σ) I1 (.cons rfl .nil) q)
theorem run_makeS {f : Addr} {fd : FuncData} {ps : List Str} {Ex : XK} {pins : List (Addr × Obj)} {σ : St} {H : Hp} {s : Shared} {Q : VK} {us : List Value} {vs : List V} (M : Mk X.K C f) (F : FnOk X.prog X.w X.K X.mg X.base CX k f fd ps sp) (hr : Room (k + 1) X.A) (hb : Binds X.K fd ps [])
    (hx : PassesAt CX X σ Ex) (I : Inv X pins σ H s) (r : Vals vs us)
    (h : ∀ x dx, H x = none → H dx = none → dx ≠ x → sp (.ref x :: vs) (upd (upd H dx (.own x)) x (.ins C dx [])) (fun v H2 => v = .non ∧ Q (.ref x) H2) Ex) :
    wpAny (model X.prog X.w) X.A (call (.ref C) us) (EP X pins σ Q) X.xe s := by
  have hq := h (s.heap.objs.size + 1) s.heap.objs.size (I.hok.fresh (Nat.le_succ _)) (I.hok.fresh (Nat.le_refl _)) (Nat.ne_of_lt (Nat.lt_succ_self _))
  have I2 := Inv.made (C := C) I
  have r2 : Vals (V.ref (s.heap.objs.size + 1) :: vs) (Value.ref (s.heap.objs.size + 1) :: us) := .cons rfl r
  have hl : (Value.ref (s.heap.objs.size + 1) :: us).length = ps.length := by
    have e := r2.length
    rw [F.len _ _ _ _ hq] at e
    exact e.symm
  have hb2 := hb _ (Value.ref (s.heap.objs.size + 1) :: us) I2.kIn (by rw [List.append_nil]; exact hl)
  rw [List.append_nil] at hb2
  refine wpAny_call (make_map (f := f) I.kIn M.makes M.init (beq_iff_eq.mp M.fn) (codeAny_mono (F.run _ X.stack _ _ ⟨Value.ref (s.heap.objs.size + 1) :: us, []⟩ (Value.ref (s.heap.objs.size + 1) :: us) _ _ Ex (hr.make C us [])
    (I2.env0.make C us []) hb2 r2 hq) fun r s' hq' => ?_))
  cases r with
  | error e => exact hx pins _ _ e s' I2 hq'
  | ok fl =>
    cases fl with
    | ret u =>
      obtain ⟨v, H', I3, rv, ev, q3⟩ := I2.after hq'
      subst ev
      exact ⟨rv, ⟨V.ref (s.heap.objs.size + 1), H', I3, rfl, q3⟩⟩
    | next => exact False.elim hq'
    | brk => exact False.elim hq'
    | cont => exact False.elim hq'
theorem pe_kxS (c : Mak X.prog X.w X.K X.mg X.base CX k x C sp) (hr : Room j X.A) (hk : k + 1 ≤ j) (hg : Gl X x) (hx : ∀ σ, PassesAt CX X σ (Es σ)) (ha : PA X (e :: es) t)
    (hdb : (x == ("__debug__" : Str)) = false := by decide) (he : starEach (e :: es) X.env = (false, eval e X.env) :: starEach es X.env := by rfl) (hpl : (backTo pos (starEach es X.env)).any (·.1) = false := by rfl) :
    PE X (.Call (.Name x p) (e :: es) [] pos) (tMakeS C sp Es t) := by
  obtain ⟨f, fd, ps, M, F, hm, b⟩ := c.ex
  refine ⟨fun pins s σ H Q I h => ?_⟩
  refine wpAny_Call_Name_kw (ld_glob I hg hm ?_ hdb)
  refine PySem.W.callWith_K (h₀ := X.base) I.ok.mod.kin M.kp (thn (ha.run pos pins s σ H _ I h) fun us s1 ⟨vs, H1, I1, r, q⟩ => ⟨I1.kIn, ?_⟩) he hpl
  exact run_makeS M F (hr.mono hk) b (hx σ) I1 r q
end

/-! ### own errors made without an argument -/
section
variable {X : Cx} {C : Addr} {bmB : List Value} {B newId initId : String}
theorem pmk_own0 {x : Str} {p pos : Pos} (F : ExcBaseFacts B newId initId bmB) (q : PySem.W.excIn X.K C bmB newId = true) (gC : X.mg x = some (.ref C)) (kC : PySem.W.keepIn X.K (.ref C) = true) (r : Raises X (.ref C)) (hg : Gl X x)
    (hdb : (x == ("__debug__" : Str)) = false := by decide) : PMk X (.Call (.Name x p) [] [] pos) (fun _ H Q => Q (.ref C) none H) := by
  intro pins s σ H Q I h
  refine wpAny_Call_Name_kw (ld_glob I hg gC ?_ hdb)
  refine PySem.W.callWith_K0 I.kIn kC ?_
  obtain ⟨bm, N, nm, qn, bs, hdct, sn, sub, ab, col, dd, k0, k1, k2, k3, k5, mN, hC, hN, hni, T⟩ := exc_obj I.kIn q
  refine wpAny_call_exc_subT F T hC hN hni (fun h' e hm => ?_) (by decide)
  exact mk_of I hm r h (I.hok.gone hm.new)
end
/-- a def's own wish: what a callee lets out goes on -/
theorem passE {P : Program} {w : World} {K : PySem.W.Frag} {mg : Str → Option Value} {base : Heap} {N : List Str} {qual : Str} {sc : Scope} {f : Addr} {cd : Value} {A : Around} {outer : List Env} {s : Shared} {H : Hp} {E : XK} :
    Passes (L2.CX P w) (cxOf (L2.CX P w) P w K mg base N qual sc f cd A outer s H E) E :=
  passes_call (X := cxOf (L2.CX P w) P w K mg base N qual sc f cd A outer s H E) (W := fun cls d _ H => E cls d H) (takes_of rfl rfl rfl rfl) fun _ _ _ _ h => h

/-! ### operators -/
section
variable {X : Cx}
theorem op_addS : OpR X (binaryOp .Add) rAddS := op_add_str
def rMulS : R2 := fun x y H Q => ∃ z n, x = .str z ∧ y = .int n ∧ MulOk z n ∧ Q (.str (Txt.mul z n)) H
theorem op_mulS : OpR X (binaryOp .Mult) rMulS := by
  intro pins s σ H x y v u Q I rx ry h
  obtain ⟨z, n, rfl, rfl, ok, q⟩ := h
  obtain ⟨t, rfl⟩ := rx
  obtain ⟨t', rfl⟩ := ry
  exact SB.mul ok fun t' k => ⟨.str _, H, I.tok _, ⟨_, rfl⟩, q⟩
end
end Kn

/-! What expressions and statements come to over a KNOWN heap H: any heap that holds what H holds. -/
namespace Kn
open PySem PySem.Spec L2 Evl

/-! ### known heaps -/
theorem exu {G H : Hp} {p : Addr} {o o' : HO} (e : Ex (upd G p o) H) : Ex (upd G p o') (upd H p o') := fun a u h => by
  by_cases c : a = p
  · subst c; rw [upd_same] at h ⊢; exact h
  · rw [upd_ne c] at h ⊢
    exact e a u (by rw [upd_ne c]; exact h)
/-- an object that stands, changed -/
theorem exc {G H : Hp} {p : Addr} {o' : HO} (e : Ex G H) : Ex (upd G p o') (upd H p o') := fun a u h => by
  by_cases c : a = p
  · subst c; rw [upd_same] at h ⊢; exact h
  · rw [upd_ne c] at h ⊢; exact e a u h
/-- what is new in H1 lies beside H -/
theorem ex_new {H H1 : Hp} {p : Addr} {o : HO} (e : Ex H H1) (h : H1 p = some o) : Ex (upd H p o) H1 := fun a u q => by
  by_cases c : a = p
  · subst c; rw [upd_same] at q; cases q; exact h
  · rw [upd_ne c] at q; exact e a u q
theorem ex_upd {H : Hp} {p : Addr} {o : HO} (h : H p = none) : Ex H (upd H p o) := Ex.new h
theorem ex_skip {G H : Hp} {p : Addr} {o : HO} (h : G p = none) (e : Ex (upd G p o) H) : Ex G H := (Ex.new h).trans e

/-! ### what expressions come to -/
def Eg (te : TE) (σ : L2.St) (H : Hp) (R : V → Hp → Prop) : Prop := ∀ H1, Ex H H1 → ∀ Q : VK, (∀ v H' H2, R v H' → Ex H' H2 → Q v H2) → te σ H1 Q
def EgA (ta : TA) (σ : L2.St) (H : Hp) (R : List V → Hp → Prop) : Prop := ∀ H1, Ex H H1 → ∀ Q : List V → Hp → Prop, (∀ v H' H2, R v H' → Ex H' H2 → Q v H2) → ta σ H1 Q
def EgT (tt : TT) (σ : L2.St) (H : Hp) (R : Bool → Hp → Prop) : Prop := ∀ H1, Ex H H1 → ∀ Q : Bool → Hp → Prop, (∀ v H' H2, R v H' → Ex H' H2 → Q v H2) → tt σ H1 Q
section
variable {K : PySem.W.Frag} {σ : L2.St} {H H' : Hp} {ta tb te tx td ty tv : TE} {t u : TT} {x y z v w : V} {r : R2} {p a : Addr} {xs ys vs : List V}
theorem Eg.imp {R R' : V → Hp → Prop} (h : Eg te σ H R) (k : ∀ v H', R v H' → R' v H') : Eg te σ H R' := fun H1 e Q q => h H1 e Q fun v H' H2 r e2 => q v H' H2 (k v H' r) e2
theorem eg_ev (h : Ev te σ H v) : Eg te σ H (fun v' H' => v' = v ∧ H' = H) := fun H1 e Q q => h H1 e Q fun H2 e2 => q v H H2 ⟨rfl, rfl⟩ (e.trans e2)
theorem eg_l (h : EvL te σ H xs) : Eg te σ H (fun v' H' => ∃ p, v' = .ref p ∧ H p = none ∧ H' = upd H p (.lst xs)) := fun H1 e Q q =>
  h H1 e Q fun p H2 hp e2 h2 => q _ _ H2 ⟨p, rfl, fresh_back e hp, rfl⟩ (ex_new (e.trans e2) h2)
theorem eg_u (h : EvU te σ H xs) : Eg te σ H (fun v' H' => ∃ p, v' = .ref p ∧ H p = none ∧ H' = upd H p (.tup xs)) := fun H1 e Q q =>
  h H1 e Q fun p H2 hp e2 h2 => q _ _ H2 ⟨p, rfl, fresh_back e hp, rfl⟩ (ex_new (e.trans e2) h2)
theorem ega_nil : EgA tNil σ H (fun vs H' => vs = [] ∧ H' = H) := fun H1 e Q q => q [] H H1 ⟨rfl, rfl⟩ e
theorem ega_cons {tr : TA} {R : V → Hp → Prop} {S : V → Hp → List V → Hp → Prop} (h : Eg te σ H R) (hr : ∀ v H', R v H' → EgA tr σ H' (S v H')) : EgA (tCons te tr) σ H (fun vs H2 => ∃ v H' ws, vs = v :: ws ∧ R v H' ∧ S v H' ws H2) := fun H1 e Q q =>
  h H1 e _ fun v H' H2 r e2 => hr v H' r H2 e2 _ fun ws H3 H4 s e3 => q _ H3 H4 ⟨v, H', ws, rfl, r, s⟩ e3
theorem ega_ev {ta : TA} (h : EvA ta σ H vs) : EgA ta σ H (fun v' H' => v' = vs ∧ H' = H) := fun H1 e Q q => h H1 e Q fun H2 e2 => q vs H H2 ⟨rfl, rfl⟩ (e.trans e2)

/-! calls -/
theorem ev_meth {C : Addr} {m : Str} {sp : Sp} {E : XK} {ta : TE} {t : TA} {dx : Addr} {fs : List (Str × V)} (h : Ev ta σ H (.ref a)) (ho : H a = some (.ins C dx fs)) (hm : fs.lookup m = none) (hA : EvA t σ H vs) (hs : SpV sp (.ref a :: vs) H z) :
    Ev (tMeth C m sp [] E ta t) σ H z := fun H1 e Q q =>
  h H1 e _ fun H2 e2 => ⟨a, dx, fs, rfl, (e.trans e2) _ _ ho, hm, hA H2 (e.trans e2) _ fun H3 e3 => by
    rw [List.append_nil]
    exact hs H3 ((e.trans e2).trans e3) Q (fun H4 e4 => q H4 ((e2.trans e3).trans e4)) E⟩
theorem ev_fld {f : Str} {C dx : Addr} {fs : List (Str × V)} (h : Ev ta σ H (.ref a)) (ho : H a = some (.ins C dx fs)) (c : Cls K C) (n : NoAttr K C f) (hf : fs.lookup f = some v) : Ev (tFld K ta f) σ H v := fun H1 e Q q =>
  h H1 e _ fun H2 e2 => ⟨a, C, dx, fs, v, rfl, (e.trans e2) _ _ ho, c, n, hf, q H2 e2⟩
/-- a call: what the promise says over the known heap -/
def SpG (sp : Sp) (vs : List V) (H : Hp) (R : V → Hp → Prop) : Prop := ∀ H1, Ex H H1 → ∀ Q : VK, (∀ v H' H2, R v H' → Ex H' H2 → Q v H2) → ∀ E : XK, sp vs H1 Q E
def SpU (sp : Sp) (vs : List V) (H : Hp) (xs : List V) : Prop := ∀ H1, Ex H H1 → ∀ Q : VK, (∀ p H2, H1 p = none → Ex H1 H2 → H2 p = some (.tup xs) → Q (.ref p) H2) → ∀ E : XK, sp vs H1 Q E
theorem eu_call {sp : Sp} {E : XK} {ta : TA} (h : EvA ta σ H vs) (hs : SpU sp vs H xs) : EvU (tCall sp [] E ta) σ H xs := fun H1 e Q q =>
  h H1 e _ fun H2 e2 => by
    rw [List.append_nil]
    exact hs H2 (e.trans e2) Q (fun p H3 hp e3 h3 => q p H3 (fresh_back e2 hp) (e2.trans e3) h3) E
theorem ev_call0 {sp : Sp} {E : XK} {ta : TA} (h : EvA ta σ H vs) (hs : SpV sp vs H z) : Ev (tCall sp [] E ta) σ H z := ev_call h (by rw [List.append_nil]; exact hs)
theorem el_call0 {sp : Sp} {E : XK} {ta : TA} (h : EvA ta σ H vs) (hs : SpL sp vs H xs) : EvL (tCall sp [] E ta) σ H xs := el_call h (by rw [List.append_nil]; exact hs)
theorem eg_call {sp : Sp} {E : XK} {ta : TA} {R : V → Hp → Prop} (h : EvA ta σ H vs) (hs : SpG sp vs H R) : Eg (tCall sp [] E ta) σ H R := fun H1 e Q q =>
  h H1 e _ fun H2 e2 => by
    rw [List.append_nil]
    exact hs H2 (e.trans e2) Q q E
theorem eg_callG {sp : Sp} {E : XK} {ta : TA} {S : List V → Hp → Prop} {R : V → Hp → Prop} (h : EgA ta σ H S) (hs : ∀ vs H', S vs H' → SpG sp vs H' R) : Eg (tCall sp [] E ta) σ H R := fun H1 e Q q =>
  h H1 e _ fun vs H' H2 s e2 => by
    rw [List.append_nil]
    exact hs vs H' s H2 e2 Q q E

/-! operators -/
theorem rv_addS {i j : Str} (h : i.length + j.length ≤ sizeLine) : RV rAddS (.str i) (.str j) H (.str (i ++ j)) := fun H1 _ _ q => ⟨i, j, rfl, rfl, h, q H1 (Ex.refl H1)⟩
theorem rv_mulS {i : Str} {n : Int} (h : MulOk i n) : RV rMulS (.str i) (.int n) H (.str (Txt.mul i n)) := fun H1 _ _ q => ⟨i, n, rfl, rfl, h, q H1 (Ex.refl H1)⟩
theorem rv_inS {c : Nat} {z : Str} : RV rInS (.str ⟨#[c]⟩) (.str z) H (.bl (decide (c ∈ z.cps.toList))) := fun H1 _ _ q => ⟨c, z, rfl, rfl, q H1 (Ex.refl H1)⟩
theorem rv_ninS {c : Nat} {z : Str} : RV rNotInS (.str ⟨#[c]⟩) (.str z) H (.bl (!decide (c ∈ z.cps.toList))) := fun H1 _ _ q => ⟨c, z, rfl, rfl, q H1 (Ex.refl H1)⟩
theorem rv_isN : RV rIsN x .non H (.bl (decide (x = .non))) := fun H1 _ _ q => ⟨rfl, q H1 (Ex.refl H1)⟩
theorem rv_notN : RV rNotN x .non H (.bl (!decide (x = .non))) := fun H1 _ _ q => ⟨rfl, q H1 (Ex.refl H1)⟩
theorem rv_kd {w : World} {p : Addr} {s : Str} {v : V} (h : KDct K w p s v) : RV (rIxD K w) (.ref p) (.str s) H v := fun H1 _ _ q => ⟨p, s, v, rfl, rfl, h, q H1 (Ex.refl H1)⟩
theorem ev_un_neg {i : Int} (h : Ev ta σ H (.int i)) : Ev (tUn (rU fun i => .int (-i)) ta) σ H (.int (-i)) := ev_un h ru_neg
/-! built-in functions -/
theorem ev_lenS {s : Str} (h : Ev ta σ H (.str s)) (hl : s.length ≤ sizeLine) : Ev (tCB (fun xs H Q => ∃ z : Str, xs = [.str z] ∧ z.length ≤ sizeLine ∧ Q (.int z.length) H) (tCons ta tNil)) σ H (.int s.length) := fun H1 e Q q =>
  h H1 e _ fun H2 e2 => ⟨s, rfl, hl, q H2 e2⟩
theorem ev_lenL (h : Ev ta σ H (.ref a)) (hx : SqL K H a xs) : Ev (tCB (fun xs H Q => ∃ p ys, xs = [.ref p] ∧ (SqL K H p ys ∨ SqT K H p ys) ∧ Q (.int ys.length) H) (tCons ta tNil)) σ H (.int xs.length) := fun H1 e Q q =>
  h H1 e _ fun H2 e2 => ⟨a, xs, rfl, Or.inl (ex_l (e.trans e2) hx), q H2 e2⟩
theorem ev_lenNL (h : EvL ta σ H xs) : Ev (tCB (fun xs H Q => ∃ p ys, xs = [.ref p] ∧ (SqL K H p ys ∨ SqT K H p ys) ∧ Q (.int ys.length) H) (tCons ta tNil)) σ H (.int xs.length) := fun H1 e Q q =>
  h H1 e _ fun p H2 _ e2 h2 => ⟨p, xs, rfl, Or.inl (sq_of h2), q H2 e2⟩
theorem ev_lenT (h : Ev ta σ H (.ref a)) (hx : SqT K H a xs) : Ev (tCB (fun xs H Q => ∃ p ys, xs = [.ref p] ∧ (SqL K H p ys ∨ SqT K H p ys) ∧ Q (.int ys.length) H) (tCons ta tNil)) σ H (.int xs.length) := fun H1 e Q q =>
  h H1 e _ fun H2 e2 => ⟨a, xs, rfl, Or.inr (ex_t (e.trans e2) hx), q H2 e2⟩
theorem ev_lenD {kvs : List (Key × V)} (h : Ev ta σ H (.ref a)) (hx : H a = some (.dK kvs)) : Ev (tCB (fun xs H Q => ∃ a kvs, xs = [V.ref a] ∧ H a = some (.dK kvs) ∧ Q (.int kvs.length) H) (tCons ta tNil)) σ H (.int kvs.length) := fun H1 e Q q =>
  h H1 e _ fun H2 e2 => ⟨a, kvs, rfl, (e.trans e2) _ _ hx, q H2 e2⟩
theorem ev_abs {i : Int} (h : Ev ta σ H (.int i)) : Ev (tCB (fun xs H Q => ∃ i, xs = [.int i] ∧ Q (.int (if i < 0 then -i else i)) H) (tCons ta tNil)) σ H (.int (i.natAbs : Int)) := fun H1 e Q q =>
  h H1 e _ fun H2 e2 => ⟨i, rfl, by
    have : (if i < 0 then -i else i) = (i.natAbs : Int) := by split <;> omega
    rw [this]
    exact q H2 e2⟩
theorem ev_max {i j : Int} (h : Ev ta σ H (.int i)) (g : Ev tb σ H (.int j)) : Ev (tCB (fun xs H Q => ∃ i j, xs = [.int i, .int j] ∧ Q (.int (if j > i then j else i)) H) (tCons ta (tCons tb tNil))) σ H (.int (max i j)) := fun H1 e Q q =>
  h H1 e _ fun H2 e2 => g H2 (e.trans e2) _ fun H3 e3 => ⟨i, j, rfl, by
    have : (if j > i then j else i) = max i j := by split <;> omega
    rw [this]
    exact q H3 (e2.trans e3)⟩
theorem ev_min {i j : Int} (h : Ev ta σ H (.int i)) (g : Ev tb σ H (.int j)) : Ev (tCB (fun xs H Q => ∃ i j, xs = [.int i, .int j] ∧ Q (.int (if j < i then j else i)) H) (tCons ta (tCons tb tNil))) σ H (.int (min i j)) := fun H1 e Q q =>
  h H1 e _ fun H2 e2 => g H2 (e.trans e2) _ fun H3 e3 => ⟨i, j, rfl, by
    have : (if j < i then j else i) = min i j := by split <;> omega
    rw [this]
    exact q H3 (e2.trans e3)⟩
theorem ev_intI {i : Int} (h : Ev ta σ H (.int i)) : Ev (tCB (fun xs H Q => (∃ i, xs = [.int i] ∧ Q (.int i) H) ∨ ∃ k, xs = [.bl k] ∧ Q (.int (if k then 1 else 0)) H) (tCons ta tNil)) σ H (.int i) := fun H1 e Q q =>
  h H1 e _ fun H2 e2 => Or.inl ⟨i, rfl, q H2 e2⟩
theorem ev_intB {b : Bool} (h : Ev ta σ H (.bl b)) : Ev (tCB (fun xs H Q => (∃ i, xs = [.int i] ∧ Q (.int i) H) ∨ ∃ k, xs = [.bl k] ∧ Q (.int (if k then 1 else 0)) H) (tCons ta tNil)) σ H (.int (if b then 1 else 0)) := fun H1 e Q q =>
  h H1 e _ fun H2 e2 => Or.inr ⟨b, rfl, q H2 e2⟩
theorem ev_sumNL {ns : List Int} (h : EvL ta σ H (ns.map V.int)) : Ev (tCB (rSum K) (tCons ta tNil)) σ H (.int ns.sum) := fun H1 e Q q => h H1 e _ fun p H2 _ e2 h2 => ⟨p, ns, rfl, sq_of h2, q H2 e2⟩
theorem ev_allNL {bs : List Bool} (h : EvL ta σ H (bs.map V.bl)) : Ev (tCB (rAll K) (tCons ta tNil)) σ H (.bl (bs.all id)) := fun H1 e Q q => h H1 e _ fun p H2 _ e2 h2 => ⟨p, bs, rfl, sq_of h2, q H2 e2⟩
/-- the greatest of a list -/
theorem ev_maxNL {ns : List Int} {m : Int} (h : EvL ta σ H (ns.map V.int)) (hm : m ∈ ns) (hg : ∀ y ∈ ns, y ≤ m) : Ev (tCB (rMax K) (tCons ta tNil)) σ H (.int m) := fun H1 e Q q => h H1 e _ fun p H2 _ e2 h2 =>
  ⟨p, ns, rfl, sq_of h2, List.length_pos_of_mem hm, fun m' h1 h3 => by
    have : m' = m := Int.le_antisymm (hg m' h1) (h3 m hm)
    rw [this]; exact q H2 e2⟩
theorem ev_maxL {ns : List Int} {m : Int} (h : Ev ta σ H (.ref a)) (hx : SqL K H a (ns.map V.int)) (hm : m ∈ ns) (hg : ∀ y ∈ ns, y ≤ m) : Ev (tCB (rMax K) (tCons ta tNil)) σ H (.int m) := fun H1 e Q q => h H1 e _ fun H2 e2 =>
  ⟨a, ns, rfl, ex_l (e.trans e2) hx, List.length_pos_of_mem hm, fun m' h1 h3 => by
    have : m' = m := Int.le_antisymm (hg m' h1) (h3 m hm)
    rw [this]; exact q H2 e2⟩
theorem ev_minL {ns : List Int} {m : Int} (h : Ev ta σ H (.ref a)) (hx : SqL K H a (ns.map V.int)) (hm : m ∈ ns) (hg : ∀ y ∈ ns, m ≤ y) : Ev (tCB (rMin K) (tCons ta tNil)) σ H (.int m) := fun H1 e Q q => h H1 e _ fun H2 e2 =>
  ⟨a, ns, rfl, ex_l (e.trans e2) hx, List.length_pos_of_mem hm, fun m' h1 h3 => by
    have : m' = m := Int.le_antisymm (h3 m hm) (hg m' h1)
    rw [this]; exact q H2 e2⟩
theorem ev_minNL {ns : List Int} {m : Int} (h : EvL ta σ H (ns.map V.int)) (hm : m ∈ ns) (hg : ∀ y ∈ ns, m ≤ y) : Ev (tCB (rMin K) (tCons ta tNil)) σ H (.int m) := fun H1 e Q q => h H1 e _ fun p H2 _ e2 h2 =>
  ⟨p, ns, rfl, sq_of h2, List.length_pos_of_mem hm, fun m' h1 h3 => by
    have : m' = m := Int.le_antisymm (h3 m hm) (hg m' h1)
    rw [this]; exact q H2 e2⟩
theorem ev_isi {c : V} {t u : Value} {b : Bool} (h : Ev ta σ H x) (g : Ev tb σ H c) (hc : ClsV c u) (ht : ∀ H', Ex H H' → TyX K H' x t) (hk : PySem.W.kitOne K t u = some b) : Ev (tCB (rIsi K) (tCons ta (tCons tb tNil))) σ H (.bl b) := fun H1 e Q q =>
  h H1 e _ fun H2 e2 => g H2 (e.trans e2) _ fun H3 e3 => ⟨x, c, t, u, b, rfl, hc, ht H3 ((e.trans e2).trans e3), hk, q H3 (e2.trans e3)⟩
/-! subscripts, slices -/
theorem ev_slS {s : Str} {tl th : TO} {lo hi : Option Int} (h : Ev te σ H (.str s)) (h1 : EvO tl σ H lo) (h2 : EvO th σ H hi) (hl : s.length ≤ sizeLine) : Ev (tSl rSlS te tl th) σ H (.str (cutS s lo hi)) := fun H1 e Q q =>
  h H1 e _ fun H2 e2 => h1 H2 (e.trans e2) _ fun H3 e3 => h2 H3 ((e.trans e2).trans e3) _ fun H4 e4 => ⟨s, rfl, hl, q H4 ((e2.trans e3).trans e4)⟩
theorem rv_ixS' {w : Str} {i : Int} {c : Nat} (h : w.length ≤ sizeLine) (ha : atI w.cps.toList i = some c) : RV rIxS (.str w) (.int i) H (.str ⟨#[c]⟩) := fun H1 _ _ q => ⟨w, i, c, rfl, rfl, h, ha, q H1 (Ex.refl H1)⟩
/-- an index of a tuple that was just made -/
theorem ev_ixU {i : Int} (h : EvU ta σ H xs) (g : Ev tb σ H (.int i)) (ha : atI xs i = some v) : Ev (tOp (rIxT K) ta tb) σ H v := fun H1 e Q q =>
  h H1 e _ fun p H2 _ e2 h2 => g H2 (e.trans e2) _ fun H3 e3 => ⟨p, xs, i, v, rfl, rfl, st_of (e3 _ _ h2), ha, q H3 (e2.trans e3)⟩
theorem ev_ixNL {i : Int} (h : EvL ta σ H xs) (g : Ev tb σ H (.int i)) (ha : atI xs i = some v) : Ev (tOp (rIxL K) ta tb) σ H v := fun H1 e Q q =>
  h H1 e _ fun p H2 _ e2 h2 => g H2 (e.trans e2) _ fun H3 e3 => ⟨p, xs, i, v, rfl, rfl, sq_of (e3 _ _ h2), ha, q H3 (e2.trans e3)⟩
/-! dicts -/
theorem dget_ex {o : Option V} (e : Ex H H') (h : DGet H a y o) : DGet H' a y o := by
  rcases h with ⟨kvs, k, r, hy, ho⟩ | ⟨kvs, k, b, r, hy, hb, ho⟩
  · exact .inl ⟨kvs, k, ex_rd e r, hy, ho⟩
  · exact .inr ⟨kvs, k, b, ex_rd e r, hy, e _ _ hb, ho⟩
theorem ev_dget (h : Ev td σ H (.ref a)) (g : Ev ty σ H y) (hd : DGet H a y (some v)) : Ev (tDGet td ty) σ H v := fun H1 e Q q =>
  h H1 e _ fun H2 e2 => g H2 (e.trans e2) _ fun H3 e3 => ⟨a, v, rfl, dget_ex ((e.trans e2).trans e3) hd, q H3 (e2.trans e3)⟩
theorem ev_din {o : Option V} (g : Ev ty σ H y) (h : Ev td σ H (.ref a)) (hd : DGet H a y o) : Ev (tDIn ty td) σ H (.bl o.isSome) := fun H1 e Q q =>
  g H1 e _ fun H2 e2 => h H2 (e.trans e2) _ fun H3 e3 => ⟨a, o, rfl, dget_ex ((e.trans e2).trans e3) hd, q H3 (e2.trans e3)⟩
theorem ev_dnin {o : Option V} (g : Ev ty σ H y) (h : Ev td σ H (.ref a)) (hd : DGet H a y o) : Ev (tDNotIn ty td) σ H (.bl (!o.isSome)) := fun H1 e Q q =>
  g H1 e _ fun H2 e2 => h H2 (e.trans e2) _ fun H3 e3 => ⟨a, o, rfl, dget_ex ((e.trans e2).trans e3) hd, q H3 (e2.trans e3)⟩
/-! tests -/
theorem et_truS {s : Str} (h : Ev te σ H (.str s)) (hl : s.length ≤ sizeLine) : EvT (fun σ H Q => te σ H fun x H' => ∃ k, TruV K x H' k ∧ Q k H') σ H ((s.length : Int) != 0) := fun H1 e Q q =>
  h H1 e _ fun H2 e2 => ⟨_, ⟨hl, rfl⟩, q H2 e2⟩
theorem et_truI {i : Int} (h : Ev te σ H (.int i)) : EvT (fun σ H Q => te σ H fun x H' => ∃ k, TruV K x H' k ∧ Q k H') σ H (i != 0) := fun H1 e Q q =>
  h H1 e _ fun H2 e2 => ⟨_, rfl, q H2 e2⟩
theorem et_truL (h : Ev te σ H (.ref a)) (hx : SqL K H a xs) : EvT (fun σ H Q => te σ H fun x H' => ∃ k, TruV K x H' k ∧ Q k H') σ H (!xs.isEmpty) := fun H1 e Q q =>
  h H1 e _ fun H2 e2 => ⟨_, Or.inl ⟨xs, ex_l (e.trans e2) hx, rfl⟩, q H2 e2⟩
theorem ev_chain {r r' : R2} {tc : TE} {b c : Bool} (h : Ev ta σ H x) (g : Ev tb σ H y) (hr : RV r x y H (.bl b)) (k : b = true → Ev tc σ H z ∧ RV r' y z H (.bl c)) : Ev (tChain r r' ta tb tc) σ H (.bl (b && c)) := fun H1 e Q q =>
  h H1 e _ fun H2 e2 => g H2 (e.trans e2) _ fun H3 e3 => hr H3 ((e.trans e2).trans e3) _ fun H4 e4 => ⟨b, rfl, by
    cases b with
    | true =>
      obtain ⟨k1, k2⟩ := k rfl
      show tc σ H4 _
      exact k1 H4 (((e.trans e2).trans e3).trans e4) _ fun H5 e5 => k2 H5 ((((e.trans e2).trans e3).trans e4).trans e5) _ fun H6 e6 => q H6 ((((e2.trans e3).trans e4).trans e5).trans e6)
    | false =>
      show Q (.bl false) H4
      exact q H4 ((e2.trans e3).trans e4)⟩
end
end Kn

/-! Statements, loops and comprehensions over a known heap. -/
namespace Kn
open PySem PySem.Spec L2 Evl

/-- the block t runs well at every heap above the known one -/
def Run (t : TS) (D : Ends) (σ : L2.St) (H : Hp) : Prop := ∀ H1, Ex H H1 → t D σ H1
def Up (P : L2.St → Hp → Prop) : L2.St → Hp → Prop := fun σ H2 => ∃ H', Ex H' H2 ∧ P σ H'
section
variable {K : PySem.W.Frag} {σ : L2.St} {H H' : Hp} {ta tb te tx td ty tv : TE} {t : TT} {x y z v w : V} {r : R2} {p a : Addr} {xs ys vs : List V} {D : Ends} {u tu tw : TS} {i j l : Nat}
theorem Run.go (h : Run u D σ H) : u D σ H := h H (Ex.refl H)
theorem Run.mono (e : Ex H H') (h : Run u D σ H) : Run u D σ H' := fun H1 e1 => h H1 (e.trans e1)
theorem Run.start {N : List Str} {vs : List V} (e : L2.start N vs = σ) (h : Run u D σ H) : u D (L2.start N vs) H := by rw [e]; exact h.go
theorem run_asg (h : Ev te σ H v) (k : Run u D (σ.set i (some v)) H) : Run (tSeq (tAsg te (gName i)) u) D σ H := fun H1 e => h H1 e _ fun H2 e2 => k H2 (e.trans e2)
theorem run_asgL (h : EvL te σ H xs) (k : ∀ p, H p = none → Run u D (σ.set i (some (.ref p))) (upd H p (.lst xs))) : Run (tSeq (tAsg te (gName i)) u) D σ H := fun H1 e => h H1 e _ fun p H2 hp e2 h2 => k p (fresh_back e hp) H2 (ex_new (e.trans e2) h2)
theorem run_asgU (h : EvU te σ H xs) (k : ∀ p, H p = none → Run u D (σ.set i (some (.ref p))) (upd H p (.tup xs))) : Run (tSeq (tAsg te (gName i)) u) D σ H := fun H1 e => h H1 e _ fun p H2 hp e2 h2 => k p (fresh_back e hp) H2 (ex_new (e.trans e2) h2)
theorem run_asgG {R : V → Hp → Prop} (h : Eg te σ H R) (k : ∀ v H', R v H' → Run u D (σ.set i (some v)) H') : Run (tSeq (tAsg te (gName i)) u) D σ H := fun H1 e => h H1 e _ fun v H' H2 r e2 => k v H' r H2 e2
theorem run_asgD (k : ∀ p, H p = none → Run u D (σ.set i (some (.ref p))) (upd H p (.dK []))) : Run (tSeq (tAsg tDNewK (gName i)) u) D σ H := fun H1 e p hp => k p (fresh_back e hp) _ (exc e)
theorem run_ret (h : Ev te σ H v) (k : ∀ H2, Ex H H2 → D.rt v H2) : Run (tSeq (tRet te) u) D σ H := fun H1 e => h H1 e _ fun H2 e2 => k H2 (e.trans e2)
theorem run_retL (h : EvL te σ H xs) (k : ∀ p, H p = none → ∀ H2, Ex (upd H p (.lst xs)) H2 → D.rt (.ref p) H2) : Run (tSeq (tRet te) u) D σ H := fun H1 e => h H1 e _ fun p H2 hp e2 h2 => k p (fresh_back e hp) H2 (ex_new (e.trans e2) h2)
theorem run_retU (h : EvU te σ H xs) (k : ∀ p, H p = none → ∀ H2, Ex (upd H p (.tup xs)) H2 → D.rt (.ref p) H2) : Run (tSeq (tRet te) u) D σ H := fun H1 e => h H1 e _ fun p H2 hp e2 h2 => k p (fresh_back e hp) H2 (ex_new (e.trans e2) h2)
theorem run_retG {R : V → Hp → Prop} (h : Eg te σ H R) (k : ∀ v H', R v H' → ∀ H2, Ex H' H2 → D.rt v H2) : Run (tSeq (tRet te) u) D σ H := fun H1 e => h H1 e _ fun v H' H2 r e2 => k v H' r H2 e2
theorem run_if {b : Bool} (h : EvT t σ H b) (h1 : b = true → Run tu { D with nx := u D } σ H) (h2 : b = false → Run tw { D with nx := u D } σ H) : Run (tSeq (tIfS t tu tw) u) D σ H := fun H1 e => h H1 e _ fun H2 e2 => by
  cases b with
  | true =>
    show tu { D with nx := u D } σ H2
    exact h1 rfl H2 (e.trans e2)
  | false =>
    show tw { D with nx := u D } σ H2
    exact h2 rfl H2 (e.trans e2)
theorem run_ifG {R : Bool → Hp → Prop} (h : EgT t σ H R) (h1 : ∀ H', R true H' → Run tu { D with nx := u D } σ H') (h2 : ∀ H', R false H' → Run tw { D with nx := u D } σ H') : Run (tSeq (tIfS t tu tw) u) D σ H := fun H1 e => h H1 e _ fun b H' H2 r e2 => by
  cases b with
  | true =>
    show tu { D with nx := u D } σ H2
    exact h1 H' r H2 e2
  | false =>
    show tw { D with nx := u D } σ H2
    exact h2 H' r H2 e2
theorem run_drop (h : Ev te σ H v) (k : Run u D σ H) : Run (tSeq (tDrop te) u) D σ H := fun H1 e => h H1 e _ fun H2 e2 => k H2 (e.trans e2)
theorem run_dropG {R : V → Hp → Prop} (h : Eg te σ H R) (k : ∀ v H', R v H' → Run u D σ H') : Run (tSeq (tDrop te) u) D σ H := fun H1 e => h H1 e _ fun v H' H2 r e2 => k v H' r H2 e2
theorem run_pass (k : Run u D σ H) : Run (tSeq tNext u) D σ H := k
/-- the block's end, what is behind known -/
theorem run_next (k : ∀ H2, Ex H H2 → D.nx σ H2) : Run tNext D σ H := k
theorem run_end (k : Run u D σ H) : Run tNext { D with nx := u D } σ H := fun H1 e1 => k H1 e1
/-- an if without else -/
theorem run_when {b : Bool} (h : EvT t σ H b) (h1 : b = true → Run tu { D with nx := u D } σ H) (h2 : b = false → Run u D σ H) : Run (tSeq (tIfS t tu tNext) u) D σ H := run_if h h1 fun hb => run_end (h2 hb)
theorem run_then {w' : TS} {D0 : Ends} (e : D.nx = w' D0) (k : Run w' D0 σ H) : Run tNext D σ H := fun H1 e1 => by show D.nx σ H1; rw [e]; exact k H1 e1
theorem run_up {P : L2.St → Hp → Prop} (e : D.nx = Up P) (h : P σ H) : Run tNext D σ H := fun H1 e1 => by show D.nx σ H1; rw [e]; exact ⟨H, e1, h⟩
theorem run_par (h : EvA ta' σ H [v, w]) (k : Run u D ((σ.set i (some v)).set j (some w)) H) : Run (tSeq (tPar i j ta') u) D σ H := fun H1 e => h H1 e _ fun H2 e2 => ⟨v, w, rfl, k H2 (e.trans e2)⟩
theorem run_parG {R : List V → Hp → Prop} (h : EgA ta' σ H R) (k : ∀ vs H', R vs H' → ∃ v w, vs = [v, w] ∧ Run u D ((σ.set i (some v)).set j (some w)) H') : Run (tSeq (tPar i j ta') u) D σ H := fun H1 e => h H1 e _ fun vs H' H2 r e2 => by
  obtain ⟨v, w, e3, q⟩ := k vs H' r
  exact ⟨v, w, e3, q H2 e2⟩
theorem run_parG3 {R : List V → Hp → Prop} (h : EgA ta' σ H R) (k : ∀ vs H', R vs H' → ∃ v w z, vs = [v, w, z] ∧ Run u D (((σ.set i (some v)).set j (some w)).set l (some z)) H') : Run (tSeq (tPar3 i j l ta') u) D σ H := fun H1 e => h H1 e _ fun vs H' H2 r e2 => by
  obtain ⟨v, w, z, e3, q⟩ := k vs H' r
  exact ⟨v, w, z, e3, q H2 e2⟩
/-- a, b = a new tuple -/
theorem run_unp2 (h : EvU te σ H [v, w]) (k : Run u D ((σ.set i (some v)).set j (some w)) H) : Run (tSeq (tAsg te (gTup K 2 (gCons (gName i) (gCons (gName j) gNil)))) u) D σ H := fun H1 e => h H1 e _ fun p H2 _ e2 h2 =>
  ⟨p, [v, w], rfl, st_of h2, rfl, v, [w], rfl, w, [], rfl, rfl, k H2 (e.trans e2)⟩
theorem run_unp3 (h : EvU te σ H [v, w, z]) (k : Run u D (((σ.set i (some v)).set j (some w)).set l (some z)) H) : Run (tSeq (tAsg te (gTup K 3 (gCons (gName i) (gCons (gName j) (gCons (gName l) gNil))))) u) D σ H := fun H1 e => h H1 e _ fun p H2 _ e2 h2 =>
  ⟨p, [v, w, z], rfl, st_of h2, rfl, v, [w, z], rfl, w, [z], rfl, z, [], rfl, rfl, k H2 (e.trans e2)⟩
/-- .. = a tuple that stands -/
theorem run_unp3V (h : Ev te σ H (.ref a)) (hx : SqT K H a [v, w, z]) (k : Run u D (((σ.set i (some v)).set j (some w)).set l (some z)) H) : Run (tSeq (tAsg te (gTup K 3 (gCons (gName i) (gCons (gName j) (gCons (gName l) gNil))))) u) D σ H := fun H1 e => h H1 e _ fun H2 e2 =>
  ⟨a, [v, w, z], rfl, ex_t (e.trans e2) hx, rfl, v, [w, z], rfl, w, [z], rfl, z, [], rfl, rfl, k H2 (e.trans e2)⟩
theorem run_unp2V (h : Ev te σ H (.ref a)) (hx : SqT K H a [v, w]) (k : Run u D ((σ.set i (some v)).set j (some w)) H) : Run (tSeq (tAsg te (gTup K 2 (gCons (gName i) (gCons (gName j) gNil)))) u) D σ H := fun H1 e => h H1 e _ fun H2 e2 =>
  ⟨a, [v, w], rfl, ex_t (e.trans e2) hx, rfl, v, [w], rfl, w, [], rfl, rfl, k H2 (e.trans e2)⟩
/-- .. = a list that stands -/
theorem run_unl2V (h : Ev te σ H (.ref a)) (hx : SqL K H a [v, w]) (k : Run u D ((σ.set i (some v)).set j (some w)) H) : Run (tSeq (tAsg te (gLst K 2 (gCons (gName i) (gCons (gName j) gNil)))) u) D σ H := fun H1 e => h H1 e _ fun H2 e2 =>
  ⟨a, [v, w], rfl, ex_l (e.trans e2) hx, rfl, v, [w], rfl, w, [], rfl, rfl, k H2 (e.trans e2)⟩
theorem run_unl3V (h : Ev te σ H (.ref a)) (hx : SqL K H a [v, w, z]) (k : Run u D (((σ.set i (some v)).set j (some w)).set l (some z)) H) : Run (tSeq (tAsg te (gLst K 3 (gCons (gName i) (gCons (gName j) (gCons (gName l) gNil))))) u) D σ H := fun H1 e => h H1 e _ fun H2 e2 =>
  ⟨a, [v, w, z], rfl, ex_l (e.trans e2) hx, rfl, v, [w, z], rfl, w, [z], rfl, z, [], rfl, rfl, k H2 (e.trans e2)⟩
/-- d[k] = v -/
theorem run_dput {G : Hp} {kvs : List (Key × V)} {k : Key} (hv : Ev tv σ (upd G p (.dK kvs)) v) (hd : Ev td σ (upd G p (.dK kvs)) (.ref p)) (hk : Ev ty σ (upd G p (.dK kvs)) (kV k)) (hl : kvs.length < sizeLine) (q : Run u D σ (upd G p (.dK (putK kvs k v)))) :
    Run (tSeq (sDPut td ty tv) u) D σ (upd G p (.dK kvs)) := fun H1 e => hv H1 e _ fun H2 e2 => hd H2 (e.trans e2) _ fun H3 e3 => hk H3 ((e.trans e2).trans e3) _ fun H4 e4 =>
  ⟨p, _, rfl, DPut.k ((((e.trans e2).trans e3).trans e4) p _ upd_same) hl, q _ (exu (((e.trans e2).trans e3).trans e4))⟩
/-- xs.append(e) -/
theorem run_app {G : Hp} (hl : Ev ta σ (upd G p (.lst xs)) (.ref p)) (h : Ev te σ (upd G p (.lst xs)) v) (hz : xs.length < sizeLine) (q : Run u D σ (upd G p (.lst (xs ++ [v])))) :
    Run (tSeq (tDrop (tBM K "list" rAppend ta (tCons te tNil))) u) D σ (upd G p (.lst xs)) := fun H1 e => hl H1 e _ fun H2 e2 =>
  ⟨Or.inl ⟨rfl, xs, sq_of ((e.trans e2) p _ upd_same)⟩, h H2 (e.trans e2) _ fun H3 e3 => ⟨p, xs, v, rfl, rfl, ((e.trans e2).trans e3) p _ upd_same, hz, q _ (exu ((e.trans e2).trans e3))⟩⟩
/-- xs[i] = e -/
theorem run_setL {G : Hp} {k : Nat} (h : Ev te σ (upd G p (.lst xs)) v) (hl : Ev ta σ (upd G p (.lst xs)) (.ref p)) (hi : Ev tb σ (upd G p (.lst xs)) (.int (k : Int))) (hk : k < xs.length) (q : Run u D σ (upd G p (.lst (xs.set k v)))) :
    Run (tSeq (tAsg te (gSub ta tb rSetL)) u) D σ (upd G p (.lst xs)) := fun H1 e => h H1 e _ fun H2 e2 => hl H2 (e.trans e2) _ fun H3 e3 => hi H3 ((e.trans e2).trans e3) _ fun H4 e4 =>
  ⟨p, xs, (k : Int), k, rfl, rfl, (((e.trans e2).trans e3).trans e4) p _ upd_same, ixN_nat hk, q _ (exu (((e.trans e2).trans e3).trans e4))⟩
/-- self.f = e -/
theorem run_fld {G : Hp} {f : Str} {C dx : Addr} {fs : List (Str × V)} (hv : Ev tv σ (upd G p (.ins C dx fs)) v) (h : Ev ta σ (upd G p (.ins C dx fs)) (.ref p)) (c : Cls K C) (n : NoAttr K C f) (hf : fs.length < 1000) (q : Run u D σ (upd G p (.ins C dx (putF f v fs)))) :
    Run (tSeq (sFld K ta tv f) u) D σ (upd G p (.ins C dx fs)) := fun H1 e => hv H1 e _ fun H2 e2 => h H2 (e.trans e2) _ fun H3 e3 => ⟨p, C, dx, fs, rfl, ((e.trans e2).trans e3) p _ upd_same, c, n, hf, q _ (exu ((e.trans e2).trans e3))⟩
theorem run_fldL {G : Hp} {f : Str} {C dx : Addr} {fs : List (Str × V)} (hv : EvL tv σ (upd G p (.ins C dx fs)) xs) (h : ∀ H', Ex (upd G p (.ins C dx fs)) H' → Ev ta σ H' (.ref p)) (c : Cls K C) (n : NoAttr K C f) (hf : fs.length < 1000)
    (q : ∀ b, (upd G p (.ins C dx fs)) b = none → Run u D σ (upd (upd G b (.lst xs)) p (.ins C dx (putF f (.ref b) fs)))) :
    Run (tSeq (sFld K ta tv f) u) D σ (upd G p (.ins C dx fs)) := fun H1 e => hv H1 e _ fun b H2 hb e2 h2 => h H2 (e.trans e2) H2 (Ex.refl H2) _ fun H3 e3 => ⟨p, C, dx, fs, rfl, ((e.trans e2).trans e3) p _ upd_same, c, n, hf, q b (fresh_back e hb) _ (fun a' o' q' => by
      have hbp : p ≠ b := ne_of_none (e p _ upd_same) hb
      by_cases c1 : a' = p
      · subst c1; rw [upd_same] at q' ⊢; exact q'
      · rw [upd_ne c1] at q' ⊢
        by_cases c2 : a' = b
        · subst c2; rw [upd_same] at q'; cases q'; exact e3 _ _ h2
        · rw [upd_ne c2] at q'
          exact ((e.trans e2).trans e3) a' o' (by rw [upd_ne c1]; exact q'))⟩
theorem run_fldU {G : Hp} {f : Str} {C dx : Addr} {fs : List (Str × V)} (hv : EvU tv σ (upd G p (.ins C dx fs)) xs) (h : ∀ H', Ex (upd G p (.ins C dx fs)) H' → Ev ta σ H' (.ref p)) (c : Cls K C) (n : NoAttr K C f) (hf : fs.length < 1000)
    (q : ∀ b, (upd G p (.ins C dx fs)) b = none → Run u D σ (upd (upd G b (.tup xs)) p (.ins C dx (putF f (.ref b) fs)))) :
    Run (tSeq (sFld K ta tv f) u) D σ (upd G p (.ins C dx fs)) := fun H1 e => hv H1 e _ fun b H2 hb e2 h2 => h H2 (e.trans e2) H2 (Ex.refl H2) _ fun H3 e3 => ⟨p, C, dx, fs, rfl, ((e.trans e2).trans e3) p _ upd_same, c, n, hf, q b (fresh_back e hb) _ (fun a' o' q' => by
      have hbp : p ≠ b := ne_of_none (e p _ upd_same) hb
      by_cases c1 : a' = p
      · subst c1; rw [upd_same] at q' ⊢; exact q'
      · rw [upd_ne c1] at q' ⊢
        by_cases c2 : a' = b
        · subst c2; rw [upd_same] at q'; cases q'; exact e3 _ _ h2
        · rw [upd_ne c2] at q'
          exact ((e.trans e2).trans e3) a' o' (by rw [upd_ne c1]; exact q'))⟩
/-- raise X() -/
theorem run_raise {C : Addr} {W : WX} (k : ∀ H2, Ex H H2 → W (.ref C) none σ H2) : Run (tSeq (fun _ σ H => (fun (_ : L2.St) (H : Hp) (Q : XK) => Q (.ref C) none H) σ H fun cls d H' => W cls d σ H') u) D σ H := fun H1 e => k H1 e

/-! ### what is walked, as a list -/
structure Pur (J : It) (H : Hp) (xs : List V) : Prop where
  go : ∀ i H', Ex H H' → i < xs.length → J.go i H'
  yld : ∀ i H' x H'', Ex H H' → i < xs.length → J.yld i H' x H'' → H'' = H' ∧ xs[i]? = some x
  stop : ∀ H', Ex H H' → J.stop xs.length H'
theorem Pur.mono {J : It} (e : Ex H H') (h : Pur J H xs) : Pur J H' xs := ⟨fun i H2 e2 => h.go i H2 (e.trans e2), fun i H2 x H3 e2 => h.yld i H2 x H3 (e.trans e2), fun H2 e2 => h.stop H2 (e.trans e2)⟩
/-- the walked thing gives the values xs, one after the other, while the known heap stands -/
def EvI (wi : TI) (σ : L2.St) (H : Hp) (xs : List V) : Prop := ∀ H1, Ex H H1 → ∀ R : It → Hp → Prop, (∀ J H2, Ex H1 H2 → Pur J H xs → R J H2) → wi σ H1 R
/-- .. while the heap at its making stands (for comprehensions) -/
def EvJ (wi : TI) (σ : L2.St) (H : Hp) (xs : List V) : Prop := ∀ H1, Ex H H1 → ∀ R : It → Hp → Prop, (∀ J H2, Ex H1 H2 → Pur J H2 xs → R J H2) → wi σ H1 R
theorem EvI.toJ {wi : TI} (h : EvI wi σ H xs) : EvJ wi σ H xs := fun H1 e R q => h H1 e R fun J H2 e2 pu => q J H2 e2 (pu.mono (e.trans e2))
/-- .. where a new list is made and walked: known from then on -/
def EvIN (wi : TI) (σ : L2.St) (H : Hp) (xs : List V) : Prop := ∀ H1, Ex H H1 → ∀ R : It → Hp → Prop, (∀ J p H2, H p = none → Ex H1 H2 → H2 p = some (.lst xs) → Pur J (upd H p (.lst xs)) xs → R J H2) → wi σ H1 R
def rgs (lo : Int) (n : Nat) : List V := (List.range n).map fun i : Nat => V.int (lo + (i : Int))
theorem rgs_len (lo : Int) (n : Nat) : (rgs lo n).length = n := by unfold rgs; rw [List.length_map, List.length_range]
theorem rgs_at {lo : Int} {n i : Nat} (h : i < n) : (rgs lo n)[i]? = some (.int (lo + (i : Int))) := by
  unfold rgs; rw [List.getElem?_map, List.getElem?_range h]; rfl
theorem rgs_of {lo : Int} {n i : Nat} {x : V} (h : (rgs lo n)[i]? = some x) : i < n ∧ x = .int (lo + (i : Int)) := by
  have hl := (List.getElem?_eq_some_iff.mp h).1
  rw [rgs_len] at hl
  rw [rgs_at hl] at h
  exact ⟨hl, (Option.some.inj h).symm⟩
theorem pur_rng {lo : Int} {n : Nat} : Pur (Itr lo n) H (rgs lo n) := by
  refine ⟨fun i H' _ hi => by rw [rgs_len] at hi; exact hi, fun i H' x H'' _ hi y => ?_, fun H' _ => by rw [rgs_len]; exact Nat.le_refl n⟩
  rw [rgs_len] at hi
  obtain ⟨e1, e2⟩ := y
  exact ⟨e1, by rw [rgs_at hi, e2]⟩
theorem ei_rng1 {ta : TA} {n : Int} (h : EvA ta σ H [.int n]) (h1 : -(2 ^ 62) ≤ n) (h2 : n < 2 ^ 62) : EvI (iRng1 ta) σ H (rgs 0 n.toNat) := fun H1 e R q =>
  h H1 e _ fun H2 e2 => ⟨n, rfl, h1, h2, q _ H2 e2 pur_rng⟩
theorem ei_rng2 {ta : TA} {lo n : Int} (h : EvA ta σ H [.int lo, .int n]) (h1 : -(2 ^ 62) ≤ lo) (h2 : lo < 2 ^ 62) (h3 : -(2 ^ 62) ≤ n) (h4 : n < 2 ^ 62) : EvI (iRng2 ta) σ H (rgs lo (n - lo).toNat) := fun H1 e R q =>
  h H1 e _ fun H2 e2 => ⟨lo, n, rfl, ⟨h1, h2, h3, h4⟩, q _ H2 e2 pur_rng⟩
theorem pur_list (hx : SqL K H a xs) : Pur (Itl K a) H xs :=
  ⟨fun i H' e hi => ⟨xs, xs[i], ex_l e hx, by rw [List.getElem?_eq_getElem hi]⟩, fun i H' x H'' e _ y => ⟨y.1, y.2 xs (ex_l e hx)⟩, fun H' e => ⟨xs, ex_l e hx, Nat.le_refl _⟩⟩
theorem pur_tup (hx : SqT K H a xs) : Pur (Itt K a) H xs :=
  ⟨fun i H' e hi => ⟨xs, xs[i], ex_t e hx, by rw [List.getElem?_eq_getElem hi]⟩, fun i H' x H'' e _ y => ⟨y.1, y.2 xs (ex_t e hx)⟩, fun H' e => ⟨xs, ex_t e hx, Nat.le_refl _⟩⟩
theorem ei_list (h : Ev te σ H (.ref a)) (hx : SqL K H a xs) : EvI (iList K te) σ H xs := fun H1 e R q =>
  h H1 e _ fun H2 e2 => ⟨a, rfl, ⟨xs, ex_l (e.trans e2) hx⟩, q _ H2 e2 (pur_list hx)⟩
theorem ei_tup (h : Ev te σ H (.ref a)) (hx : SqT K H a xs) : EvI (iTup K te) σ H xs := fun H1 e R q =>
  h H1 e _ fun H2 e2 => ⟨a, rfl, ⟨xs, ex_t (e.trans e2) hx⟩, q _ H2 e2 (pur_tup hx)⟩
theorem ej_new (h : EvL te σ H xs) : EvJ (iList K te) σ H xs := fun H1 e R q =>
  h H1 e _ fun p H2 _ e2 h2 => ⟨p, rfl, ⟨xs, sq_of h2⟩, q _ H2 e2 (pur_list (sq_of h2))⟩
theorem ein_new (h : EvL te σ H xs) : EvIN (iList K te) σ H xs := fun H1 e R q =>
  h H1 e _ fun p H2 hp e2 h2 => ⟨p, rfl, ⟨xs, sq_of h2⟩, q _ p H2 (fresh_back e hp) e2 h2 (pur_list (sq_of upd_same))⟩
def signs (z : Str) : List V := z.cps.toList.map fun c => V.str ⟨#[c]⟩
theorem ei_str {z : Str} (h : Ev te σ H (.str z)) : EvI (iStr te) σ H (signs z) := fun H1 e R q =>
  h H1 e _ fun H2 e2 => ⟨z, rfl, q _ H2 e2 ⟨fun i H' _ hi => by
      have : i < z.cps.size := by simpa [signs] using hi
      exact this, fun i H' x H'' _ _ y => by
      obtain ⟨e1, c, hc, ex⟩ := y
      refine ⟨e1, ?_⟩
      unfold signs
      rw [List.getElem?_map, Array.getElem?_toList, hc, ex]; rfl, fun H' _ => by
      have : z.cps.size ≤ (signs z).length := by simp [signs]
      exact this⟩⟩

/-! ### for -/
/-- the body's ends in a loop -/
abbrev LpD (D : Ends) (u : TS) (P : L2.St → Hp → Prop) : Ends := { D with nx := Up P, ct := Up P, bk := u D }
theorem loop_core {J : It} {g : TG} {tb : TS} {H0 H2 : Hp} (pu : Pur J H0 xs) (P : Nat → L2.St → Hp → Prop) (h0 : Up (P 0) σ H2) (hx : ∀ i σ' H', P i σ' H' → Ex H0 H')
    (hs : ∀ i x σ' H', i < xs.length → xs[i]? = some x → P i σ' H' → ∀ H1, Ex H' H1 → g x σ' H1 fun σ2 H2 => tb (LpD D u (P (i + 1))) σ2 H2) (hd : ∀ σ' H', P xs.length σ' H' → Run u D σ' H') :
    ∃ W : Nat → Nat → L2.St → Hp → Prop, (∃ m, W 0 m σ H2) ∧ ∀ i m σ H, W i m σ H → (J.stop i H ∧ u D σ H) ∨ (J.go i H ∧ ∃ N : L2.St → Hp → Prop, (∀ σ' H', N σ' H' → ∃ m', m' < m ∧ W (i + 1) m' σ' H') ∧ ∀ x H', J.yld i H x H' → g x σ H' fun σ2 H2 => tb { nx := N, rt := D.rt, bk := u D, ct := N } σ2 H2) := by
  refine ⟨fun i m σ' H' => m = xs.length - i ∧ i ≤ xs.length ∧ Up (P i) σ' H', ⟨xs.length, by simp, Nat.zero_le _, h0⟩, ?_⟩
  rintro i m σ' H' ⟨rfl, hi, H4, e4, p⟩
  have e3 : Ex H0 H' := (hx i σ' H4 p).trans e4
  by_cases hlt : i < xs.length
  · refine .inr ⟨pu.go i H' e3 hlt, Up (P (i + 1)), fun σ5 H5 p' => ⟨xs.length - (i + 1), by omega, rfl, hlt, p'⟩, fun x H'' y => ?_⟩
    obtain ⟨e5, hx'⟩ := pu.yld i H' x H'' e3 hlt y
    subst e5
    exact hs i x σ' H4 hlt hx' p H'' e4
  · have e5 : i = xs.length := by omega
    subst e5
    exact .inl ⟨pu.stop H' e3, hd σ' H4 p H' e4⟩
theorem run_forG {wi : TI} {g : TG} {tb : TS} (h : EvI wi σ H xs) (P : Nat → L2.St → Hp → Prop) (h0 : P 0 σ H) (hx : ∀ i σ' H', P i σ' H' → Ex H H')
    (hs : ∀ i x σ' H', i < xs.length → xs[i]? = some x → P i σ' H' → ∀ H1, Ex H' H1 → g x σ' H1 fun σ2 H2 => tb (LpD D u (P (i + 1))) σ2 H2) (hd : ∀ σ' H', P xs.length σ' H' → Run u D σ' H') :
    Run (tSeq (tFor wi g tb) u) D σ H := fun H1 e => h H1 e _ fun J H2 e2 pu => loop_core (D := D) (u := u) pu P ⟨H, e.trans e2, h0⟩ hx hs hd
/-- the target a name -/
theorem run_for {wi : TI} {tb : TS} (h : EvI wi σ H xs) (P : Nat → L2.St → Hp → Prop) (h0 : P 0 σ H) (hx : ∀ i σ' H', P i σ' H' → Ex H H')
    (hs : ∀ i x σ' H', i < xs.length → xs[i]? = some x → P i σ' H' → Run tb (LpD D u (P (i + 1))) (σ'.set j (some x)) H') (hd : ∀ σ' H', P xs.length σ' H' → Run u D σ' H') :
    Run (tSeq (tFor wi (gName j) tb) u) D σ H := run_forG h P h0 hx (fun i x σ' H' hi hx' p H1 e => hs i x σ' H' hi hx' p H1 e) hd
/-- over a new list -/
theorem run_forN {wi : TI} {tb : TS} (h : EvIN wi σ H xs) (P : Addr → Nat → L2.St → Hp → Prop) (h0 : ∀ p, H p = none → P p 0 σ (upd H p (.lst xs))) (hx : ∀ p i σ' H', H p = none → P p i σ' H' → Ex (upd H p (.lst xs)) H')
    (hs : ∀ p i x σ' H', H p = none → i < xs.length → xs[i]? = some x → P p i σ' H' → Run tb (LpD D u (P p (i + 1))) (σ'.set j (some x)) H') (hd : ∀ p σ' H', H p = none → P p xs.length σ' H' → Run u D σ' H') :
    Run (tSeq (tFor wi (gName j) tb) u) D σ H := fun H1 e => h H1 e _ fun J p H2 hp e2 h2 pu => loop_core (D := D) (u := u) pu (P p) ⟨_, ex_new (e.trans e2) h2, h0 p hp⟩ (hx p · · · hp) (fun i x σ' H' hi hx' q H1 e => hs p i x σ' H' hp hi hx' q H1 e) (fun σ' H' q => hd p σ' H' hp q)
/-- range(n) -/
theorem run_rng1 {ta : TA} {tb : TS} {n : Int} (h : EvA ta σ H [.int n]) (h1 : -(2 ^ 62) ≤ n) (h2 : n < 2 ^ 62) (P : Nat → L2.St → Hp → Prop) (h0 : P 0 σ H)
    (hs : ∀ (i : Nat) σ' H', i < n.toNat → P i σ' H' → Run tb (LpD D u (P (i + 1))) (σ'.set j (some (.int (i : Int)))) H') (hd : ∀ σ' H', P n.toNat σ' H' → Run u D σ' H') :
    Run (tSeq (tFor (iRng1 ta) (gName j) tb) u) D σ H := fun H1 e => h H1 e _ fun H2 e2 => ⟨n, rfl, h1, h2, by
  have lc := loop_core (D := D) (u := u) (g := gName j) (tb := tb) (J := Itr 0 n.toNat) (xs := rgs 0 n.toNat) (H0 := fun _ => none) (H2 := H2) (σ := σ) pur_rng P ⟨H, e.trans e2, h0⟩ (fun _ _ _ _ _ _ q => by cases q)
    (fun i x σ' H' hi hx' p H1 e => by
      obtain ⟨hi', ex⟩ := rgs_of hx'
      rw [Int.zero_add] at ex
      subst ex
      exact hs i σ' H' hi' p H1 e) (fun σ' H' p => hd σ' H' (by rw [rgs_len] at p; exact p))
  exact lc⟩
/-- range(lo, n) -/
theorem run_rng2 {ta : TA} {tb : TS} {lo n : Int} (h : EvA ta σ H [.int lo, .int n]) (h1 : -(2 ^ 62) ≤ lo) (h2 : lo < 2 ^ 62) (h3 : -(2 ^ 62) ≤ n) (h4 : n < 2 ^ 62) (P : Nat → L2.St → Hp → Prop) (h0 : P 0 σ H)
    (hs : ∀ (i : Nat) σ' H', i < (n - lo).toNat → P i σ' H' → Run tb (LpD D u (P (i + 1))) (σ'.set j (some (.int (lo + (i : Int))))) H') (hd : ∀ σ' H', P (n - lo).toNat σ' H' → Run u D σ' H') :
    Run (tSeq (tFor (iRng2 ta) (gName j) tb) u) D σ H := fun H1 e => h H1 e _ fun H2 e2 => ⟨lo, n, rfl, ⟨h1, h2, h3, h4⟩, by
  have lc := loop_core (D := D) (u := u) (g := gName j) (tb := tb) (J := Itr lo (n - lo).toNat) (xs := rgs lo (n - lo).toNat) (H0 := fun _ => none) (H2 := H2) (σ := σ) pur_rng P ⟨H, e.trans e2, h0⟩ (fun _ _ _ _ _ _ q => by cases q)
    (fun i x σ' H' hi hx' p H1 e => by
      obtain ⟨hi', ex⟩ := rgs_of hx'
      subst ex
      exact hs i σ' H' hi' p H1 e) (fun σ' H' p => hd σ' H' (by rw [rgs_len] at p; exact p))
  exact lc⟩
/-- while, by a word that falls -/
theorem run_while {tb : TS} (W : Nat → L2.St → Hp → Prop) (m0 : Nat) (h0 : W m0 σ H)
    (hs : ∀ m σ' H', W m σ' H' → ∃ b, EvT t σ' H' b ∧ (b = true → Run tb (LpD D u (fun σ2 H2 => ∃ m', m' < m ∧ W m' σ2 H2)) σ' H') ∧ (b = false → Run u D σ' H')) : Run (tSeq (tWhile t tb) u) D σ H := fun H1 e =>
  ⟨fun m => Up (W m), ⟨m0, H, e, h0⟩, fun m σ' H' hw => by
    obtain ⟨H2, e2, w⟩ := hw
    obtain ⟨b, hb, h1, h2⟩ := hs m σ' H2 w
    refine hb H' e2 _ fun H3 e3 => ?_
    cases b with
    | true =>
      rw [if_pos rfl]
      exact ⟨Up (fun σ2 H2 => ∃ m', m' < m ∧ W m' σ2 H2), fun σ4 H4 ⟨H5, e5, m', hm, w'⟩ => ⟨m', hm, H5, e5, w'⟩, h1 rfl H3 (e2.trans e3)⟩
    | false =>
      rw [if_neg Bool.false_ne_true]
      exact h2 rfl H3 (e2.trans e3)⟩

/-! ### comprehensions whose parts change nothing -/
/-- turn by turn: kept or not, and what -/
theorem el_lc {α : Type} {wi : TI} {tt : TT} {vs : List Nat} {l : List α} {g : α → V} (f : α → Bool) (val : α → V) (h : EvJ wi σ H (l.map g)) (hz : l.length ≤ sizeLine) (hw : ∀ x, wipe ((wipe σ vs).set j (some x)) vs = wipe σ vs)
    (ht : ∀ c, c ∈ l → EvT tt ((wipe σ vs).set j (some (g c))) H (f c)) (he : ∀ c, c ∈ l → f c = true → Ev te ((wipe σ vs).set j (some (g c))) H (val c)) :
    EvL (tLc wi (gName j) tt te vs) σ H ((l.filter f).map val) := fun H0 e Q q => h H0 e _ fun J H1 e1 pu Dl hD => by
  have hlen : (l.map g).length = l.length := List.length_map _
  refine ⟨fun i m H' => m = l.length - i ∧ i ≤ l.length ∧ Ex H1 H' ∧ H' Dl = some (.lst (((l.take i).filter f).map val)), ⟨l.length, by simp, Nat.zero_le _, Ex.new hD, by simp [upd_same]⟩, ?_⟩
  rintro i m H' ⟨rfl, hi, e2, hl⟩
  by_cases hlt : i < l.length
  · refine .inr ⟨pu.go i H' e2 (by omega), fun H5 => i + 1 ≤ l.length ∧ Ex H1 H5 ∧ H5 Dl = some (.lst (((l.take (i + 1)).filter f).map val)), fun H5 p' => ⟨l.length - (i + 1), by omega, rfl, p'⟩, fun x H'' y => ?_⟩
    obtain ⟨e5, hx'⟩ := pu.yld i H' x H'' e2 (by omega) y
    subst e5
    obtain ⟨c, hc, rfl⟩ : ∃ c, l[i]? = some c ∧ x = g c := by
      rw [List.getElem?_map, List.getElem?_eq_getElem hlt] at hx'
      exact ⟨l[i], List.getElem?_eq_getElem hlt, (Option.some.inj hx').symm⟩
    have hm : c ∈ l := List.mem_of_getElem? hc
    refine ⟨hw _, ?_⟩
    have tk : l.take (i + 1) = l.take i ++ [c] := by rw [List.take_add_one, hc]; rfl
    refine ht c hm H'' ((e.trans e1).trans e2) _ fun H3 e3 => ?_
    cases hf : f c with
    | true =>
      rw [if_pos rfl]
      refine he c hm hf H3 (((e.trans e1).trans e2).trans e3) _ fun H4 e4 => ⟨_, e4 _ _ (e3 _ _ hl), ?_, hlt, ?_, ?_⟩
      · have l1 := List.length_filter_le f (l.take i)
        rw [List.length_map]
        rw [List.length_take] at l1
        omega
      · intro a' o' q'
        rw [upd_ne (ne_of_none q' hD)]
        exact ((e2.trans e3).trans e4) a' o' q'
      · rw [upd_same, tk, List.filter_append, List.map_append]
        simp [hf]
    | false =>
      rw [if_neg Bool.false_ne_true]
      refine ⟨hlt, e2.trans e3, ?_⟩
      rw [e3 _ _ hl, tk, List.filter_append, List.map_append]
      simp [hf]
  · have e5 : i = l.length := by omega
    subst e5
    refine .inl ⟨hlen ▸ pu.stop H' e2, q Dl H' ?_ (e1.trans e2) ?_⟩
    · exact fresh_back e1 hD
    · rw [List.take_length] at hl; exact hl
/-- .. without a test -/
theorem el_lcA {α : Type} {wi : TI} {vs : List Nat} {l : List α} {g : α → V} (val : α → V) (h : EvJ wi σ H (l.map g)) (hz : l.length ≤ sizeLine) (hw : ∀ x, wipe ((wipe σ vs).set j (some x)) vs = wipe σ vs)
    (he : ∀ c, c ∈ l → Ev te ((wipe σ vs).set j (some (g c))) H (val c)) : EvL (tLc wi (gName j) tYes te vs) σ H (l.map val) := by
  have := el_lc (tt := tYes) (fun _ => true) val h hz hw (fun x _ => fun H1 e Q q => q H1 (Ex.refl H1)) (fun x hx _ => he x hx)
  rw [List.filter_eq_self.mpr (fun _ _ => rfl)] at this
  exact this
end
end Kn

/-! Texts of steps as lists of codes; the module's table of steps. -/
namespace Kn
open PySem PySem.Spec L2 Evl Mw

def S (l : List Nat) : Str := ⟨l.toArray⟩
theorem S_len (l : List Nat) : (S l).length = l.length := by simp [S, Str.length]
theorem S_cps (l : List Nat) : (S l).cps.toList = l := by simp [S]
theorem S_inj {l m : List Nat} (h : S l = S m) : l = m := by
  have := congrArg (fun z : Str => z.cps.toList) h
  simpa [S] using this
theorem S_app (l m : List Nat) : S l ++ S m = S (l ++ m) := by
  show (⟨(S l).cps ++ (S m).cps⟩ : Str) = _
  simp [S]
theorem S_of (z : Str) : z = S z.cps.toList := by cases z; simp [S]
theorem S_signs (l : List Nat) : signs (S l) = l.map fun c => V.str (S [c]) := by unfold signs; rw [S_cps]; rfl
theorem S_eq_iff {l m : List Nat} : S l = S m ↔ l = m := ⟨S_inj, fun h => by rw [h]⟩
theorem cut_take (l : List Nat) {k : Int} (hk : 0 ≤ k) : cutS (S l) none (some k) = S (l.take k.toNat) := by
  unfold cutS
  rw [S_cps, S_len]
  simp only [HT.sIx, List.drop_zero, Nat.sub_zero]
  rw [if_neg (by omega)]
  unfold S
  congr 1
  congr 1
  rcases Nat.le_total k.toNat l.length with h | h
  · rw [Nat.min_eq_left h]
  · rw [Nat.min_eq_right h, List.take_of_length_le (Nat.le_refl _), List.take_of_length_le h]
theorem cut_drop (l : List Nat) {k : Int} (hk : 0 ≤ k) : cutS (S l) (some k) none = S (l.drop k.toNat) := by
  unfold cutS
  rw [S_cps, S_len]
  simp only [HT.sIx]
  rw [if_neg (by omega)]
  unfold S
  congr 2
  rcases Nat.le_total k.toNat l.length with h | h
  · rw [Nat.min_eq_left h, List.take_of_length_le (by rw [List.length_drop]; omega)]
  · rw [Nat.min_eq_right h, Nat.sub_self, List.take_zero, List.drop_of_length_le h]
theorem cut_last (l : List Nat) (hl : 0 < l.length) : cutS (S l) none (some (-1)) = S l.dropLast := by
  unfold cutS
  rw [S_cps, S_len]
  simp only [HT.sIx, List.drop_zero, Nat.sub_zero]
  rw [if_pos (by omega), List.dropLast_eq_take]
  unfold S
  congr 3
  omega
theorem at_last {α : Type} (l : List α) {c : α} (h : l.getLast? = some c) : atI l (-1) = some c := by
  unfold atI ixN
  have h0 : l ≠ [] := by intro e; rw [e] at h; cases h
  have hl : 0 < l.length := List.length_pos_iff.mpr h0
  rw [if_neg (by omega), if_pos (by omega)]
  show l[(-1 + (l.length : Int)).toNat]? = some c
  rw [List.getLast?_eq_getElem?] at h
  rw [← h]
  congr 1
  omega
theorem at_nat {α : Type} (l : List α) {i : Nat} {c : α} (h : l[i]? = some c) : atI l (i : Int) = some c := by
  have hi := (List.getElem?_eq_some_iff.mp h).1
  unfold atI ixN
  rw [if_pos (by omega), if_pos (by omega)]
  show l[((i : Int)).toNat]? = some c
  rw [Int.toNat_natCast]; exact h
theorem at_int {α : Type} (l : List α) {i : Int} {c : α} (h0 : 0 ≤ i) (h : l[i.toNat]? = some c) : atI l i = some c := by
  have := at_nat l h
  rw [Int.toNat_of_nonneg h0] at this
  exact this
theorem fold_rep (a : Array Nat) : ∀ (k : Nat) (acc : Array Nat), (List.replicate k a).foldl (· ++ ·) acc = acc ++ (rep a.toList k).toArray
  | 0, acc => by simp [rep]
  | k + 1, acc => by
    rw [List.replicate_succ, List.foldl_cons, fold_rep a k, rep]
    apply Array.toList_inj.mp
    simp
theorem mulS_rep (l : List Nat) {n : Int} (hn : 0 ≤ n) : Txt.mul (S l) n = S (rep l n.toNat) := by
  unfold Txt.mul
  by_cases h0 : n < 1
  · rw [if_pos h0, show n.toNat = 0 from by omega]; rfl
  · rw [if_neg h0]
    by_cases h1 : (n == 1 || (S l).length == 0) = true
    · rw [if_pos h1]
      rw [Bool.or_eq_true] at h1
      rcases h1 with h1 | h1
      · have : n = 1 := by simpa using h1
        subst this
        show S l = S (rep l 1)
        simp [rep]
      · have : l.length = 0 := by rw [S_len] at h1; simpa using h1
        have : l = [] := List.length_eq_zero_iff.mp this
        subst this
        congr 1
        generalize n.toNat = k
        induction k with
        | zero => rfl
        | succ k ih => rw [rep, ← ih]; rfl
    · rw [if_neg h1, fold_rep]
      simp [S]
theorem mulOk_small (l : List Nat) {n : Int} (hl : l.length ≤ 1000) (h0 : 0 ≤ n) (h1 : n ≤ 1000) : MulOk (S l) n := by
  unfold MulOk
  refine ⟨?_, fun h2 _ => ?_, fun _ _ => ?_⟩
  · rw [decide_eq_false (by omega), decide_eq_false (by omega)]; rfl
  · rw [S_len]
    have : (1000 : Int) ≤ (2 ^ 63 - 1) / n := by
      rw [Int.le_ediv_iff_mul_le (by omega)]
      omega
    omega
  · rw [S_len]
    have : l.length * n.toNat ≤ 1000 * 1000 := Nat.mul_le_mul hl (by omega)
    have h2 : (1000 * 1000 : Nat) ≤ sizeLine := by decide
    have h3 := Nat.le_trans this h2; show decide _ = false; exact decide_eq_false (Nat.not_lt.mpr h3)

/-! ### steps -/
def isStep (c : Nat) : Bool := c == 102 || c == 98 || c == 115
def Stp (l : List Nat) : Prop := l.all isStep = true
theorem Stp.take {l : List Nat} (h : Stp l) (k : Nat) : Stp (l.take k) := by
  unfold Stp at *
  rw [List.all_eq_true] at *
  exact fun x hx => h x (List.mem_of_mem_take hx)
theorem Stp.drop {l : List Nat} (h : Stp l) (k : Nat) : Stp (l.drop k) := by
  unfold Stp at *
  rw [List.all_eq_true] at *
  exact fun x hx => h x (List.mem_of_mem_drop hx)
theorem Stp.append {l m : List Nat} (h : Stp l) (h' : Stp m) : Stp (l ++ m) := by
  unfold Stp at *
  rw [List.all_append, h, h']; rfl
theorem Stp.nil : Stp [] := rfl
theorem Stp.mem {l : List Nat} (h : Stp l) {c : Nat} (hc : c ∈ l) : c = 102 ∨ c = 98 ∨ c = 115 := by
  have := (List.all_eq_true.mp h) c hc
  unfold isStep at this
  simp only [Bool.or_eq_true, beq_iff_eq] at this
  omega
/-- the table STEPS as it stands in the written part -/
structure StepsAt (K : PySem.W.Frag) (w : World) (d : Addr) : Prop where
  ex : ∃ (t1 t2 t3 u1 u2 u3 : Tok) (n : Nat), K.lookup d = some ⟨.type "dict", none, .dict #[⟨PyData.keyHash w.params "f", .str "f" t1, .int 1 u1⟩, ⟨PyData.keyHash w.params "b", .str "b" t2, .int (-1) u2⟩, ⟨PyData.keyHash w.params "s", .str "s" t3, .int 0 u3⟩] n, #[]⟩
  low : (d == sysModules) = false
section
variable {K : PySem.W.Frag} {w : World} {d : Addr}
theorem StepsAt.kd (T : StepsAt K w d) : ∃ es n, KDict K w d es n := by
  obtain ⟨t1, t2, t3, u1, u2, u3, n, h⟩ := T.ex
  exact ⟨_, _, h, ⟨⟨_, _, rfl, rfl⟩, ⟨_, _, rfl, rfl⟩, ⟨_, _, rfl, rfl⟩, trivial⟩, T.low⟩
theorem str_ne {a b : Str} (h : a.cps.toList ≠ b.cps.toList) : ¬ a = b := fun e => h (by rw [e])
theorem strf : ("f" : Str) = S [102] := by decide +kernel
theorem strb : ("b" : Str) = S [98] := by decide +kernel
theorem strs' : ("s" : Str) = S [115] := by decide +kernel
theorem isStr_S (l m : List Nat) (t : Tok) : (Value.str (S l) t).isStr (S m) = decide (l = m) := by
  rw [PySem.W.isStr_of]
  show (S l == S m) = _
  by_cases h : l = m
  · subst h; simp
  · rw [decide_eq_false h, beq_eq_false_iff_ne]
    exact fun e => h (S_inj e)
theorem StepsAt.ns (T : StepsAt K w d) (l : List Nat) : ∃ u1 u2 u3 : Tok, PySem.W.nsIn K d (S l) = some (if l = [102] then some (.int 1 u1) else if l = [98] then some (.int (-1) u2) else if l = [115] then some (.int 0 u3) else none) := by
  obtain ⟨t1, t2, t3, u1, u2, u3, n, h⟩ := T.ex
  refine ⟨u1, u2, u3, ?_⟩
  unfold PySem.W.nsIn
  rw [h, strf, strb, strs']
  dsimp only
  rw [List.find?_cons, isStr_S]
  by_cases h1 : l = [102]
  · subst h1; rfl
  · rw [decide_eq_false (fun e : [102] = l => h1 e.symm), if_neg h1]
    dsimp only
    rw [List.find?_cons, isStr_S]
    by_cases h2 : l = [98]
    · subst h2; rfl
    · rw [decide_eq_false (fun e : [98] = l => h2 e.symm), if_neg h2]
      dsimp only
      rw [List.find?_cons, isStr_S]
      by_cases h3 : l = [115]
      · subst h3; rfl
      · rw [decide_eq_false (fun e : [115] = l => h3 e.symm), if_neg h3]
        rfl
theorem StepsAt.get (T : StepsAt K w d) {c : Nat} (hc : c = 102 ∨ c = 98 ∨ c = 115) : KDct K w d (S [c]) (.int (sv c)) := by
  obtain ⟨es, n, kd⟩ := T.kd
  obtain ⟨u1, u2, u3, e⟩ := T.ns [c]
  rcases hc with rfl | rfl | rfl
  · exact ⟨es, n, _, kd.at_, kd.lit, e, ⟨_, rfl⟩⟩
  · exact ⟨es, n, _, kd.at_, kd.lit, e, ⟨_, rfl⟩⟩
  · exact ⟨es, n, _, kd.at_, kd.lit, e, ⟨_, rfl⟩⟩
end
section
variable {X : Cx} {d : Addr}
/-- c in STEPS -/
def rInK (d : Addr) : R2 := fun x y H Q => ∃ l, x = .str (S l) ∧ y = .ref d ∧ Q (.bl (decide (l = [102] ∨ l = [98] ∨ l = [115]))) H
theorem op_inSt (T : StepsAt X.K X.w d) : OpR X (compareOp .In) (rInK d) := by
  intro pins s σ H x y v u Q I rx ry h
  obtain ⟨l, rfl, rfl, q⟩ := h
  obtain ⟨es, n, kd⟩ := T.kd
  obtain ⟨u1, u2, u3, e⟩ := T.ns l
  refine op_in_kd kd pins s σ H _ _ v u Q I rx ry ⟨S l, _, rfl, rfl, e, ?_⟩
  have : (if l = [102] then some (Value.int 1 u1) else if l = [98] then some (.int (-1) u2) else if l = [115] then some (.int 0 u3) else none).isSome = decide (l = [102] ∨ l = [98] ∨ l = [115]) := by
    by_cases h1 : l = [102]
    · simp [h1]
    · by_cases h2 : l = [98]
      · simp [h2]
      · by_cases h3 : l = [115]
        · simp [h3]
        · simp [h1, h2, h3]
  rw [this]
  exact q
theorem rv_inK {l : List Nat} {H : Hp} : RV (rInK d) (.str (S l)) (.ref d) H (.bl (decide (l = [102] ∨ l = [98] ∨ l = [115]))) := fun H1 _ _ q => ⟨l, rfl, rfl, q H1 (Ex.refl H1)⟩
theorem ix_kdE {K : PySem.W.Frag} {w : World} (hK : X.K = K) (hw : X.w = w) : IxR X (rIxD K w) := by
  subst hK hw; exact ix_kdict
theorem ix_listE {K : PySem.W.Frag} (hK : X.K = K) : IxR X (rIxL K) := by
  subst hK; exact ix_list
/-- a module's constant -/
theorem pe_gc {x : Str} {v : V} {pos : Pos} (hg : Gl X x) (h : ∃ u, X.mg x = some u ∧ RelV v u) (hd : (x == ("__debug__" : Str)) = false := by decide) : PE X (.Name x pos) (tC v) := by
  obtain ⟨u, hm, r⟩ := h
  exact pe_glob hg hm r hd
end
/-! ### the built-in names -/
theorem b_isinstance : bootBuiltins "isinstance" = some (.builtin "isinstance") := by decide +kernel
theorem b_len : bootBuiltins "len" = some (.builtin "len") := by decide +kernel
theorem b_abs : bootBuiltins "abs" = some (.builtin "abs") := by decide +kernel
theorem b_max : bootBuiltins "max" = some (.builtin "max") := by decide +kernel
theorem b_min : bootBuiltins "min" = some (.builtin "min") := by decide +kernel
theorem b_sum : bootBuiltins "sum" = some (.builtin "sum") := by decide +kernel
theorem b_all : bootBuiltins "all" = some (.builtin "all") := by decide +kernel
theorem b_sorted : bootBuiltins "sorted" = some (.builtin "sorted") := by decide +kernel
theorem b_int : bootBuiltins "int" = some (.type "int") := by decide +kernel
theorem b_bool : bootBuiltins "bool" = some (.type "bool") := by decide +kernel
theorem b_str : bootBuiltins "str" = some (.type "str") := by decide +kernel
theorem b_list : bootBuiltins "list" = some (.type "list") := by decide +kernel
theorem b_dict : bootBuiltins "dict" = some (.type "dict") := by decide +kernel
theorem b_tuple : bootBuiltins "tuple" = some (.type "tuple") := by decide +kernel
theorem b_set : bootBuiltins "set" = some (.type "set") := by decide +kernel
end Kn
namespace Kn
open PySem PySem.Spec L2 Evl Mw
theorem strOk_S {l : List Nat} (h : Stp l) : PyData.strOk (S l) = true := by
  show (S l).cps.all _ = true
  rw [← Array.all_toList, S_cps, List.all_eq_true]
  intro c hc
  rcases h.mem hc with rfl | rfl | rfl <;> decide
theorem shaped2 {a b : Str} (h1 : PyData.strOk a = true) (h2 : PyData.strOk b = true) : SeqAt.shaped (.tuple [.str a, .str b]) = true := by
  unfold SeqAt.shaped PyData.canLay0 PyData.canLayAll0 PyData.canLayAll0 PyData.canLayAll0 PyData.canLay0
  rw [h1, h2]
  simp [PyData.depth, PyData.depthAll]
end Kn

/-! The law's draws: a list at d whose first item is the script's copy at l; its state is told by nothing but signs. -/
namespace Kn
open PySem PySem.Spec L2 Evl Mw

def Dro (l : Addr) (o : HO) : Prop := ∃ i c s : Int, 0 ≤ i ∧ 0 ≤ c ∧ o = .lst [.ref l, .int i, .int c, .int s]
/-- G: what is known beside the draws -/
structure Dw (G : Hp) (d l : Addr) : Prop where
  free : G d = none
  lst : ∃ ns : List Int, G l = some (.lst (ns.map V.int)) ∧ ns.length ≤ 1000
theorem Dw.ext {G G' : Hp} {d l : Addr} (w : Dw G d l) (e : Ex G G') (h : G' d = none) : Dw G' d l := ⟨h, let ⟨ns, h1, h2⟩ := w.lst; ⟨ns, e _ _ h1, h2⟩⟩
theorem upd_swap {G : Hp} {p d : Addr} {o x : HO} (h : p ≠ d) : upd (upd G d o) p x = upd (upd G p x) d o := by
  funext a
  by_cases c : a = p
  · subst c; rw [upd_same, upd_ne h, upd_same]
  · rw [upd_ne c]
    by_cases c2 : a = d
    · subst c2; rw [upd_same, upd_same]
    · rw [upd_ne c2, upd_ne c2, upd_ne c]
/-- what is behind: R of the value and of what is known beside the draws -/
abbrev DR (G : Hp) (d l : Addr) (R : V → Hp → Prop) : V → Hp → Prop := fun v H' => ∃ G' o', R v G' ∧ Ex G G' ∧ Dw G' d l ∧ Dro l o' ∧ H' = upd G' d o'
abbrev DRA (G : Hp) (d l : Addr) (R : List V → Hp → Prop) : List V → Hp → Prop := fun v H' => ∃ G' o', R v G' ∧ Ex G G' ∧ Dw G' d l ∧ Dro l o' ∧ H' = upd G' d o'
def ED (te : TE) (σ : L2.St) (G : Hp) (d l : Addr) (R : V → Hp → Prop) : Prop := ∀ o, Dro l o → Eg te σ (upd G d o) (DR G d l R)
def EDA (ta : TA) (σ : L2.St) (G : Hp) (d l : Addr) (R : List V → Hp → Prop) : Prop := ∀ o, Dro l o → EgA ta σ (upd G d o) (DRA G d l R)
def SpD (sp : Sp) (vs : List V) (G : Hp) (d l : Addr) (R : V → Hp → Prop) : Prop := ∀ o, Dro l o → SpG sp vs (upd G d o) (DR G d l R)
def RD (t : TS) (D : Ends) (σ : L2.St) (G : Hp) (d l : Addr) : Prop := ∀ o, Dro l o → Run t D σ (upd G d o)
section
variable {K : PySem.W.Frag} {σ : L2.St} {G G' H : Hp} {ta tb te tx : TE} {t : TT} {x y z v w : V} {r : R2} {p a d l : Addr} {xs ys vs : List V} {D : Ends} {u tu tw : TS} {i j k : Nat} {R S : V → Hp → Prop}
theorem ed_ev (w : Dw G d l) (h : Ev te σ G v) : ED te σ G d l (fun v' G' => v' = v ∧ G' = G) := fun o ho => (eg_ev (h.mono (ex_upd w.free))).imp fun v' H' ⟨e1, e2⟩ => ⟨G, o, ⟨e1, rfl⟩, Ex.refl G, w, ho, e2⟩
theorem ed_at (w : Dw G d l) (h : ∀ o, Dro l o → Ev te σ (upd G d o) v) : ED te σ G d l (fun v' G' => v' = v ∧ G' = G) := fun o ho => (eg_ev (h o ho)).imp fun v' H' ⟨e1, e2⟩ => ⟨G, o, ⟨e1, rfl⟩, Ex.refl G, w, ho, e2⟩
theorem dw_new {o : HO} (w : Dw G d l) (hp : G p = none) (hpd : p ≠ d) : Dw (upd G p o) d l := w.ext (ex_upd hp) (by rw [upd_ne (Ne.symm hpd)]; exact w.free)
theorem ed_l (w : Dw G d l) (h : EvL te σ G xs) : ED te σ G d l (fun v' G' => ∃ p, v' = .ref p ∧ G p = none ∧ p ≠ d ∧ G' = upd G p (.lst xs)) := fun o ho => by
  have h1 : EvL te σ (upd G d o) xs := fun H1 e Q q => h H1 (ex_skip w.free e) Q q
  refine (eg_l h1).imp ?_
  rintro v' H' ⟨p, rfl, hp, rfl⟩
  have hpd : p ≠ d := fun e => by subst e; rw [upd_same] at hp; cases hp
  rw [upd_ne hpd] at hp
  exact ⟨upd G p (.lst xs), o, ⟨p, rfl, hp, hpd, rfl⟩, ex_upd hp, dw_new w hp hpd, ho, upd_swap hpd⟩
theorem ED.imp (h : ED te σ G d l R) (k : ∀ v G', R v G' → S v G') : ED te σ G d l S := fun o ho => (h o ho).imp fun v H' ⟨G', o', h1, h2⟩ => ⟨G', o', k _ _ h1, h2⟩
/-- an operation whose parts draw -/
theorem ed_op {Ra : V → Hp → Prop} {Rb : V → V → Hp → Prop} (ha : ED ta σ G d l Ra) (hb : ∀ x G1, Ra x G1 → Ex G G1 → Dw G1 d l → ED tb σ G1 d l (Rb x)) (hr : ∀ x G1 y G2, Ra x G1 → Rb x y G2 → Ex G1 G2 → Dw G2 d l → ∃ z, RV r x y G2 z ∧ R z G2) : ED (tOp r ta tb) σ G d l R := fun o ho H1 e Q q =>
  ha o ho H1 e _ fun x H2 H3 ⟨G1, o1, r1, e1, w1, ho1, eq1⟩ e3 => by
    subst eq1
    refine hb x G1 r1 e1 w1 o1 ho1 H3 e3 _ fun y H4 H5 ⟨G2, o2, r2, e2, w2, ho2, eq2⟩ e5 => ?_
    subst eq2
    obtain ⟨z, hz, rz⟩ := hr x G1 y G2 r1 r2 e2 w2
    exact hz H5 (ex_skip w2.free e5) Q fun H6 e6 => q z _ H6 ⟨G2, o2, rz, e1.trans e2, w2, ho2, rfl⟩ (e5.trans e6)
/-- .. the left part plain, .. the right part plain -/
theorem ed_opR (w : Dw G d l) (ha : Ev ta σ G x) (hb : ED tb σ G d l S) (hr : ∀ y G2, S y G2 → Ex G G2 → Dw G2 d l → ∃ z, RV r x y G2 z ∧ R z G2) : ED (tOp r ta tb) σ G d l R :=
  ed_op (ed_ev w ha) (Rb := fun x' y G2 => x' = x ∧ S y G2) (fun x' G1 ⟨e1, e2⟩ _ _ => by subst e1 e2; exact hb.imp fun y G' h => ⟨rfl, h⟩) fun x' G1 y G2 ⟨e1, e2⟩ ⟨_, hs⟩ ex w2 => by subst e1 e2; exact hr y G2 hs ex w2
theorem ed_opL (ha : ED ta σ G d l S) (hb : ∀ x G1, S x G1 → Ex G G1 → Dw G1 d l → Ev tb σ G1 y) (hr : ∀ x G1, S x G1 → Ex G G1 → Dw G1 d l → ∃ z, RV r x y G1 z ∧ R z G1) : ED (tOp r ta tb) σ G d l R :=
  ed_op ha (Rb := fun x' y' G2 => y' = y ∧ S x' G2 ∧ Ex G G2) (fun x' G1 h1 e1 w1 => (ed_ev w1 (hb x' G1 h1 e1 w1)).imp fun y' G' ⟨e2, e3⟩ => ⟨e2, e3 ▸ h1, e3 ▸ e1⟩) fun x' G1 y' G2 _ ⟨e1, h2, e2⟩ _ w2 => by subst e1; exact hr x' G2 h2 e2 w2
theorem ed_call {sp : Sp} {E : XK} {ta : TA} (h : ∀ o, Dro l o → EvA ta σ (upd G d o) vs) (hs : SpD sp vs G d l R) : ED (tCall sp [] E ta) σ G d l R := fun o ho => eg_call (h o ho) (hs o ho)
theorem ed_callP {sp : Sp} {E : XK} {ta : TA} (w : Dw G d l) (h : EvA ta σ G vs) (hs : SpD sp vs G d l R) : ED (tCall sp [] E ta) σ G d l R := ed_call (fun o _ => h.mono (ex_upd w.free)) hs
/-- arguments, items -/
theorem eda_nil (w : Dw G d l) : EDA tNil σ G d l (fun vs G' => vs = [] ∧ G' = G) := fun o ho H1 e Q q => q [] _ H1 ⟨G, o, ⟨rfl, rfl⟩, Ex.refl G, w, ho, rfl⟩ e
theorem eda_cons {tr : TA} {T : V → List V → Hp → Prop} {U : List V → Hp → Prop} (h : ED te σ G d l R) (hr : ∀ v G1, R v G1 → Ex G G1 → Dw G1 d l → EDA tr σ G1 d l (T v)) (hu : ∀ v G1 ws G2, R v G1 → T v ws G2 → Ex G1 G2 → U (v :: ws) G2) : EDA (tCons te tr) σ G d l U := fun o ho H1 e Q q =>
  h o ho H1 e _ fun v H2 H3 ⟨G1, o1, r1, e1, w1, ho1, eq1⟩ e3 => by
    subst eq1
    refine hr v G1 r1 e1 w1 o1 ho1 H3 e3 _ fun ws H4 H5 ⟨G2, o2, r2, e2, w2, ho2, eq2⟩ e5 => ?_
    subst eq2
    exact q (v :: ws) _ H5 ⟨G2, o2, hu v G1 ws G2 r1 r2 e2, e1.trans e2, w2, ho2, rfl⟩ e5
/-- a list display whose items draw -/
theorem ed_lst {ta : TA} {U : List V → Hp → Prop} (h : EDA ta σ G d l U) (hz : ∀ vs G', U vs G' → vs.length ≤ 1000) : ED (tLst ta) σ G d l (fun v G' => ∃ p vs G1, v = .ref p ∧ U vs G1 ∧ Ex G G1 ∧ G1 p = none ∧ p ≠ d ∧ G' = upd G1 p (.lst vs)) := fun o ho H1 e Q q =>
  h o ho H1 e _ fun vs H2 H3 ⟨G1, o1, r1, e1, w1, ho1, eq1⟩ e3 => by
    subst eq1
    refine ⟨Nat.le_trans (hz vs G1 r1) (by decide), fun p hp => ?_⟩
    have hp2 := fresh_back e3 hp
    have hpd : p ≠ d := fun e => by subst e; rw [upd_same] at hp2; cases hp2
    have hp3 := hp2
    rw [upd_ne hpd] at hp3
    refine q _ (upd (upd G1 p (.lst vs)) d o1) _ ⟨_, o1, ⟨p, vs, G1, rfl, r1, e1, hp3, hpd, rfl⟩, e1.trans (ex_upd hp3), dw_new w1 hp3 hpd, ho1, rfl⟩ ?_
    rw [← upd_swap hpd]
    exact exc e3
/-- blocks -/
theorem RD.of (w : Dw G d l) (h : Run u D σ G) : RD u D σ G d l := fun o _ => h.mono (ex_upd w.free)
theorem rd_asg (h : ED te σ G d l R) (k : ∀ v G', R v G' → Ex G G' → Dw G' d l → RD u D (σ.set i (some v)) G' d l) : RD (tSeq (tAsg te (gName i)) u) D σ G d l := fun o ho => run_asgG (h o ho) fun v H' ⟨G', o', r1, e1, w1, ho1, eq1⟩ => by subst eq1; exact k v G' r1 e1 w1 o' ho1
theorem rd_asgP (w : Dw G d l) (h : Ev te σ G v) (k : RD u D (σ.set i (some v)) G d l) : RD (tSeq (tAsg te (gName i)) u) D σ G d l := fun o ho => run_asg (h.mono (ex_upd w.free)) (k o ho)
theorem rd_ret (h : ED te σ G d l R) (k : ∀ v G', R v G' → Ex G G' → Dw G' d l → ∀ o, Dro l o → ∀ H2, Ex (upd G' d o) H2 → D.rt v H2) : RD (tSeq (tRet te) u) D σ G d l := fun o ho => run_retG (h o ho) fun v H' ⟨G', o', r1, e1, w1, ho1, eq1⟩ => by subst eq1; exact k v G' r1 e1 w1 o' ho1
theorem rd_par {ta : TA} {U : List V → Hp → Prop} (h : EDA ta σ G d l U) (k : ∀ vs G', U vs G' → Ex G G' → Dw G' d l → ∃ v w, vs = [v, w] ∧ RD u D ((σ.set i (some v)).set j (some w)) G' d l) : RD (tSeq (tPar i j ta) u) D σ G d l := fun o ho => run_parG (h o ho) fun vs H' ⟨G', o', r1, e1, w1, ho1, eq1⟩ => by
  subst eq1
  obtain ⟨v, w, e2, q⟩ := k vs G' r1 e1 w1
  exact ⟨v, w, e2, q o' ho1⟩
theorem rd_if {b : Bool} (w : Dw G d l) (h : EvT t σ G b) (h1 : b = true → RD tu { D with nx := u D } σ G d l) (h2 : b = false → RD tw { D with nx := u D } σ G d l) : RD (tSeq (tIfS t tu tw) u) D σ G d l := fun o ho => run_if (h.mono (ex_upd w.free)) (fun hb => h1 hb o ho) (fun hb => h2 hb o ho)
/-- a test that draws -/
theorem rd_ifE (h : ED te σ G d l R) (hb : ∀ v G', R v G' → ∃ b, v = .bl b) (h1 : ∀ G', R (.bl true) G' → Ex G G' → Dw G' d l → RD tu { D with nx := u D } σ G' d l) (h2 : ∀ G', R (.bl false) G' → Ex G G' → Dw G' d l → RD tw { D with nx := u D } σ G' d l) : RD (tSeq (tIfS (tTest te) tu tw) u) D σ G d l := fun o ho H1 e =>
  h o ho H1 e _ fun v H2 H3 ⟨G1, o1, r1, e1, w1, ho1, eq1⟩ e3 => by
    subst eq1
    obtain ⟨b, rfl⟩ := hb v G1 r1
    refine ⟨b, rfl, ?_⟩
    cases b with
    | true =>
      show tu _ σ H3
      exact h1 G1 r1 e1 w1 o1 ho1 H3 e3
    | false =>
      show tw _ σ H3
      exact h2 G1 r1 e1 w1 o1 ho1 H3 e3
theorem rd_end (k : RD u D σ G d l) : RD tNext { D with nx := u D } σ G d l := fun o ho => run_end (k o ho)
end
end Kn

/-! More rules: a block cut at a word, comprehensions that draw, texts joined. -/
namespace Kn
open PySem PySem.Spec L2 Evl Mw
section
variable {K : PySem.W.Frag} {σ : L2.St} {G G' H : Hp} {ta tb te tx : TE} {t u : TS} {tt : TT} {x y z v w : V} {p a d l : Addr} {xs ys vs : List V} {D : Ends} {i j k : Nat} {R S' : V → Hp → Prop}
theorem run_cut (Mid : L2.St → Hp → Prop) (h : Run t { D with nx := Up Mid } σ H) (q : ∀ σ' H', Mid σ' H' → Run u D σ' H') : Run (Evl.tCut t u) D σ H := fun H1 e => ⟨Up Mid, h H1 e, fun σ' H' ⟨H2, e2, m⟩ => q σ' H2 m H' e2⟩
/-- an if alone -/
theorem run_ifO {t : TT} {tw : TS} {b : Bool} (h : EvT t σ H b) (h1 : b = true → Run u D σ H) (h2 : b = false → Run tw D σ H) : Run (tIfS t u tw) D σ H := fun H1 e => h H1 e _ fun H2 e2 => by
  cases b with
  | true =>
    show u D σ H2
    exact h1 rfl H2 (e.trans e2)
  | false =>
    show tw D σ H2
    exact h2 rfl H2 (e.trans e2)
/-- a comprehension over range(n) whose element draws -/
theorem ed_lc {ta : TA} {vs : List Nat} {n : Int} {C : V → Prop} (w : Dw G d l) (h : EvA ta σ G [.int n]) (h1 : -(2 ^ 62) ≤ n) (h2 : n < 2 ^ 62) (hz : n.toNat ≤ 1000) (hw : ∀ x, wipe ((wipe σ vs).set j (some x)) vs = wipe σ vs)
    (he : ∀ (i : Nat) G1, i < n.toNat → Ex G G1 → Dw G1 d l → ED te ((wipe σ vs).set j (some (.int (i : Int)))) G1 d l (fun v G2 => C v ∧ G2 = G1)) :
    ED (tLc (iRng1 ta) (gName j) tYes te vs) σ G d l (fun v G' => ∃ p xs, v = .ref p ∧ xs.length = n.toNat ∧ (∀ x ∈ xs, C x) ∧ G p = none ∧ p ≠ d ∧ G' = upd G p (.lst xs)) := fun o ho H0 e Q q =>
  h H0 (ex_skip w.free e) _ fun H1 e1 => ⟨n, rfl, h1, h2, fun Dl hD => by
    have hD0 := fresh_back e1 hD
    have hD1 := fresh_back e hD0
    have hpd : Dl ≠ d := fun z => by subst z; rw [upd_same] at hD1; cases hD1
    have hD2 : G Dl = none := by rw [upd_ne hpd] at hD1; exact hD1
    refine lc_range (lo := 0) (n := n.toNat) (fun i H' => ∃ xs o', xs.length = i ∧ (∀ x ∈ xs, C x) ∧ Dro l o' ∧ Ex (upd (upd G Dl (.lst xs)) d o') H') ⟨[], o, rfl, by simp, ho, ?_⟩ ?_ ?_
    · rw [← upd_swap hpd]; exact exc (e.trans e1)
    · rintro i H' hi ⟨xs, o', hl, hc, ho', e'⟩
      refine ⟨hw _, ?_⟩
      show te ((wipe σ vs).set j (some (.int (0 + (i : Int))))) H' _
      have dw := dw_new (o := .lst xs) w hD2 hpd
      have hh := he i _ hi (ex_upd hD2) dw o' ho' H' e'
      have e0 : (0 : Int) + (i : Int) = (i : Int) := Int.zero_add _
      rw [e0]
      refine hh _ fun v H2 H3 ⟨G2, o2, ⟨cv, eG⟩, _, w2, ho2, eq2⟩ e3 => ?_
      subst eG eq2
      refine ⟨xs, ?_, ?_, xs ++ [v], o2, by simp [hl], ?_, ho2, ?_⟩
      · exact e3 _ _ (by rw [upd_ne hpd, upd_same])
      · rw [hl]; exact Nat.lt_of_lt_of_le hi (Nat.le_trans hz (by decide))
      · intro x hx
        rcases List.mem_append.mp hx with hx | hx
        · exact hc x hx
        · rw [List.mem_singleton] at hx; subst hx; exact cv
      · have := exc (o' := HO.lst (xs ++ [v])) (p := Dl) e3
        rw [upd_swap hpd, upd_upd] at this
        exact this
    · rintro H' ⟨xs, o', hl, hc, ho', e'⟩
      exact q _ _ H' ⟨upd G Dl (.lst xs), o', ⟨Dl, xs, rfl, hl, hc, hD2, hpd, rfl⟩, ex_upd hD2, dw_new w hD2 hpd, ho', rfl⟩ e'⟩
/-- x.join(list) -/
theorem join_signs (m : List Nat) : Txt.join (S []) (m.map fun c => S [c]) = S m := by
  have h := SX.join_S [] (m.map fun c => [c])
  rw [List.map_map] at h
  have e : (SX.S ∘ fun c : Nat => [c]) = fun c => S [c] := by funext c; rfl
  rw [e] at h
  refine Eq.trans h ?_
  show SX.S _ = SX.S m
  congr 1
  clear h e
  induction m with
  | nil => rfl
  | cons c r ih =>
    cases r with
    | nil => rfl
    | cons c2 r2 =>
      show [c] ++ ([] ++ TL.joinL [] ((c2 :: r2).map fun c => [c])) = _
      rw [ih]
      rfl
theorem ev_join {f : V → List V → Hp → VK → Prop} {m : List Str} {s : Str} (hs : Ev ta σ H (.str s)) (h : Ev te σ H (.ref a)) (hx : SqL K H a (m.map V.str)) (hz : (m.map (·.length)).sum + m.length * s.length ≤ 16777216) :
    Ev (tM1 (fun x xs H Q => ∃ a p, ∃ ys : List Str, x = .str a ∧ xs = [.ref p] ∧ (SqL K H p (ys.map V.str) ∨ SqT K H p (ys.map V.str)) ∧ (ys.map (·.length)).sum + ys.length * a.length ≤ 16777216 ∧ Q (.str (Txt.join a ys)) H) ta te) σ H (.str (Txt.join s m)) := fun H1 e Q q =>
  hs H1 e _ fun H2 e2 => ⟨⟨s, rfl⟩, h H2 (e.trans e2) _ fun H3 e3 => ⟨s, a, m, rfl, rfl, .inl (ex_l ((e.trans e2).trans e3) hx), hz, q H3 (e2.trans e3)⟩⟩
/-- .. of a new list that was drawn -/
theorem ed_join {s : Str} {n : Nat} {C : V → Prop} {Z : Str → Prop} (w : Dw G d l) (hs : ∀ G', Ev ta σ G' (.str s)) (h : ED te σ G d l (fun v G' => ∃ p xs, v = .ref p ∧ xs.length = n ∧ (∀ x ∈ xs, C x) ∧ G p = none ∧ p ≠ d ∧ G' = upd G p (.lst xs)))
    (hc : ∀ xs : List V, xs.length = n → (∀ x ∈ xs, C x) → ∃ m : List Str, xs = m.map V.str ∧ (m.map (·.length)).sum + m.length * s.length ≤ 16777216 ∧ Z (Txt.join s m)) :
    ED (tM1 (fun x xs H Q => ∃ a p, ∃ ys : List Str, x = .str a ∧ xs = [.ref p] ∧ (SqL K H p (ys.map V.str) ∨ SqT K H p (ys.map V.str)) ∧ (ys.map (·.length)).sum + ys.length * a.length ≤ 16777216 ∧ Q (.str (Txt.join a ys)) H) ta te) σ G d l (fun v G' => ∃ z, v = .str z ∧ Z z ∧ G' = G) := fun o ho H1 e Q q =>
  hs (upd G d o) H1 e _ fun H2 e2 => ⟨⟨s, rfl⟩, h o ho H2 (e.trans e2) _ fun v H3 H4 ⟨G1, o1, ⟨p, xs, ev, hl, hx, hp, hpd, eG⟩, e3, w3, ho3, eq3⟩ e4 => by
    subst ev eG eq3
    obtain ⟨m, rfl, hz, hZ⟩ := hc xs hl hx
    have hat : H4 p = some (.lst (m.map V.str)) := e4 _ _ (by rw [upd_ne hpd, upd_same])
    refine ⟨s, p, m, rfl, rfl, .inl (sq_of hat), hz, q _ _ H4 ⟨G, o1, ⟨_, rfl, hZ, rfl⟩, Ex.refl G, w, ho3, rfl⟩ ?_⟩
    intro c oc hcc
    refine e4 c oc ?_
    by_cases c1 : c = d
    · subst c1; rw [upd_same] at hcc ⊢; exact hcc
    · rw [upd_ne c1] at hcc ⊢
      rw [upd_ne (ne_of_none hcc hp)]
      exact hcc⟩
/-- f"..": two parts and more -/
theorem ev_fmt {s : Str} (h : Ev te σ H (.str s)) (hl : s.length ≤ sizeLine) : Ev (tFmt te) σ H (.str s) := fun H1 e Q q => h H1 e _ fun H2 e2 => .inl ⟨s, rfl, hl, q H2 e2⟩
/-- the parts of f".." one behind the other -/
def EvJs (ts : List TE) (acc : Str) (σ : L2.St) (H : Hp) (out : Str) : Prop := ∀ H1, Ex H H1 → ∀ Q : Str → Hp → Prop, (∀ H2, Ex H1 H2 → Q out H2) → tJs ts acc σ H1 Q
theorem evjs_nil {acc : Str} : EvJs [] acc σ H acc := fun H1 _ Q q => q H1 (Ex.refl H1)
theorem evjs_cons {ts : List TE} {acc s out : Str} (h : Ev te σ H (.str s)) (hl : (acc ++ s).length ≤ sizeLine) (hr : EvJs ts (acc ++ s) σ H out) : EvJs (te :: ts) acc σ H out := fun H1 e Q q =>
  h H1 e _ fun H2 e2 => ⟨s, rfl, hl, hr H2 (e.trans e2) Q fun H3 e3 => q H3 (e2.trans e3)⟩
theorem ev_joined {ts : List TE} {out : Str} (h : EvJs ts Str.empty σ H out) : Ev (fun σ H Q => tJs ts Str.empty σ H fun out H1 => Q (.str out) H1) σ H (.str out) := fun H1 e Q q => h H1 e _ q
/-- list(xs) -/
theorem el_listOf (h : Ev ta σ H (.ref a)) (hx : SqL K H a xs) : EvL (tCB (fun xs H Q => ∃ p ys, xs = [.ref p] ∧ (SqL K H p ys ∨ SqT K H p ys) ∧ ∀ l, H l = none → Q (.ref l) (upd H l (.lst ys))) (tCons ta tNil)) σ H xs := fun H1 e Q q =>
  h H1 e _ fun H2 e2 => ⟨a, xs, rfl, .inl (ex_l (e.trans e2) hx), fun l hl => q l _ (fresh_back e2 hl) (e2.trans (ex_upd hl)) upd_same⟩
/-- [..], parts made one by one -/
theorem eg_lst {ta : TA} {U : List V → Hp → Prop} (h : EgA ta σ H U) (hz : ∀ vs H', U vs H' → vs.length ≤ 1000) : Eg (tLst ta) σ H (fun v H2 => ∃ p vs H', v = .ref p ∧ U vs H' ∧ H' p = none ∧ H2 = upd H' p (.lst vs)) := fun H1 e Q q =>
  h H1 e _ fun vs H' H2 r e2 => ⟨Nat.le_trans (hz _ _ r) (by decide), fun p hp => q _ _ _ ⟨p, vs, H', rfl, r, fresh_back e2 hp, rfl⟩ (exc e2)⟩
/-- a def that draws: what is asked of its arguments, what it gives -/
def spDR {A : Type} (args : A → Addr → List V) (pre : A → Hp → Prop) (R : A → Hp → V → Hp → Prop) : Sp := fun vs H Q _ => ∃ x G d l o, vs = args x d ∧ pre x G ∧ Ex (upd G d o) H ∧ Dro l o ∧ Dw G d l ∧ ∀ v G' o' H2, R x G v G' → Ex G G' → Dw G' d l → Dro l o' → Ex (upd G' d o') H2 → Q v H2
theorem use_DR {A : Type} {args : A → Addr → List V} {pre : A → Hp → Prop} {R : A → Hp → V → Hp → Prop} (x : A) (w : Dw G d l) (h : pre x G) : SpD (spDR args pre R) (args x d) G d l (R x G) := fun o ho H1 e Q q E =>
  ⟨x, G, d, l, o, rfl, h, e, ho, w, fun v G' o' H2 r e1 w1 ho1 e2 => q v _ H2 ⟨G', o', r, e1, w1, ho1, rfl⟩ e2⟩
theorem RD.run {o : HO} (e : Ex (upd G d o) H) (ho : Dro l o) (h : RD u D σ G d l) : Run u D σ H := (h o ho).mono e
end
end Kn

/-! Texts cut at blanks; lists joined. -/
namespace Kn
open PySem PySem.Spec L2 Evl Mw
theorem spl_wds : ∀ (z acc : List Nat), TL.spl [32] 0 acc z = wds acc z
  | [], acc => by rw [TL.spl_nil, wds]
  | c :: r, acc => by
    have hp : TL.pre [32] (c :: r) = decide (c = 32) := by
      unfold TL.pre
      show ([c] == [32]) = _
      by_cases h : c = 32
      · subst h; rfl
      · rw [decide_eq_false h, beq_eq_false_iff_ne]
        exact fun e => h (by injection e)
    rw [wds]
    by_cases h : c = 32
    · rw [if_pos h, TL.spl_hit (by rw [hp, decide_eq_true h])]
      show acc :: TL.spl [32] 0 [] r = _
      rw [spl_wds r []]
    · rw [if_neg h, TL.spl_miss (by rw [hp, decide_eq_false h]), spl_wds r _]
theorem split_wds (z : List Nat) : Txt.split (S z) (S [32]) = (wds [] z).map S := by
  have h := SX.split_S (a := z) (b := [32]) (by simp) (by decide)
  rw [spl_wds] at h
  exact h
section
variable {K : PySem.W.Frag} {σ : L2.St} {G G' H : Hp} {ta tb te tx : TE} {x y z v w : V} {p a d l : Addr} {xs ys vs : List V}
theorem el_split {z : List Nat} {b : Str} (h : Ev ta σ H (.str (S z))) (hb : Ev te σ H (.str b)) (e0 : b = S [32]) (hz : z.length ≤ 1000) :
    EvL (tM1 (fun x xs H Q => ∃ a b, x = .str a ∧ xs = [.str b] ∧ (b.length == 0) = false ∧ a.length + 2 ≤ sizeLine ∧ rNewStrs (Txt.split a b) H Q) ta te) σ H ((wds [] z).map fun w => V.str (S w)) := fun H1 e Q q =>
  h H1 e _ fun H2 e2 => ⟨⟨S z, rfl⟩, hb H2 (e.trans e2) _ fun H3 e3 => by
    subst e0
    refine ⟨S z, S [32], rfl, rfl, rfl, ?_, fun p hp => ?_⟩
    · rw [S_len]
      exact Nat.le_trans (Nat.add_le_add_right hz 2) (by decide)
    · rw [split_wds, List.map_map]
      exact q p _ (fresh_back (e2.trans e3) hp) ((e2.trans e3).trans (ex_upd hp)) upd_same⟩
/-- a new list + a list -/
theorem el_cat (h : EvL ta σ H xs) (g : ∀ H', Ex H H' → Ev tb σ H' (.ref a)) (hx : H a = some (.lst ys)) (hz : xs.length + ys.length ≤ 100000) : EvL (tOp rCat ta tb) σ H (xs ++ ys) := fun H1 e Q q =>
  h H1 e _ fun p H2 hp e2 h2 => g H2 (e.trans e2) H2 (Ex.refl H2) _ fun H3 e3 => ⟨p, a, xs, ys, rfl, rfl, e3 _ _ h2, ((e.trans e2).trans e3) _ _ hx, Nat.le_trans hz (by decide), fun b hb =>
    q b _ (fresh_back (e2.trans e3) hb) ((e2.trans e3).trans (ex_upd hb)) upd_same⟩
/-- a call whose arguments are made on the way -/
theorem ev_callN {sp : Sp} {E : XK} {ta : TA} (h : ∀ H1, Ex H H1 → EgA ta σ H1 (fun vs H' => Ex H1 H' ∧ SpV sp vs H' z)) : Ev (tCall sp [] E ta) σ H z := fun H1 e Q q =>
  h H1 e H1 (Ex.refl H1) _ fun vs H' H2 ⟨e1, hs⟩ e2 => by
    rw [List.append_nil]
    exact hs H2 e2 Q (fun H3 e3 => q H3 ((e1.trans e2).trans e3)) E
theorem ega1 {R : V → Hp → Prop} (h : Eg te σ H R) : EgA (tCons te tNil) σ H (fun vs H' => ∃ v, vs = [v] ∧ R v H') := fun H1 e Q q => h H1 e _ fun v H' H2 r e2 => q [v] H' H2 ⟨v, rfl, r⟩ e2
theorem EgA.imp {ta : TA} {S S' : List V → Hp → Prop} (h : EgA ta σ H S) (k : ∀ v H', S v H' → S' v H') : EgA ta σ H S' := fun H1 e Q q => h H1 e Q fun v H' H2 r e2 => q v H' H2 (k v H' r) e2
theorem rv_same (h : scal x x = true) : RV rEq x x H (.bl true) := by
  have := rv_eq (H := H) h
  rw [decide_eq_true rfl] at this
  exact this
/-! ### try -/
theorem run_dropS {D : Ends} {u : TS} {sp : Sp} {E : L2.St → XK} {ta : TA} (h : EvA ta σ H vs) (k : ∀ H1, Ex H H1 → sp vs H1 (fun _ H2 => u D σ H2) (E σ)) : Run (tSeq (tDrop (tCallS sp E ta)) u) D σ H := fun H1 e => h H1 e _ fun H2 e2 => k H2 (e.trans e2)
theorem run_tryB {D : Ends} {t u : TS} (h : ∀ H1, Ex H H1 → t { D with nx := u D } σ H1) : Run (tSeq t u) D σ H := h
theorem run_par3 {D : Ends} {u : TS} {ta' : TA} {i j l : Nat} (h : EvA ta' σ H [v, w, z]) (k : Run u D (((σ.set i (some v)).set j (some w)).set l (some z)) H) : Run (tSeq (tPar3 i j l ta') u) D σ H := fun H1 e => h H1 e _ fun H2 e2 => ⟨v, w, z, rfl, k H2 (e.trans e2)⟩
end
end Kn

/-! Draws in loops, slices, picks. -/
namespace Kn
open PySem PySem.Spec L2 Evl Mw
section
variable {K : PySem.W.Frag} {σ : L2.St} {G G' H : Hp} {ta tb te tx tl : TE} {x y z v w : V} {p a d l : Addr} {xs ys vs : List V} {D : Ends} {u tu tw : TS} {i j k : Nat} {R S' : V → Hp → Prop}
/-- one turn is over: only what was known before counts -/
theorem rd_up {Pv : L2.St → Hp → Prop} (e : D.nx = Up Pv) (eG : Ex G' G) (h : ∀ o, Dro l o → Pv σ (upd G' d o)) : RD tNext D σ G d l := fun o ho H1 e1 => by
  show D.nx σ H1
  rw [e]
  exact ⟨upd G' d o, (exc eG).trans e1, h o ho⟩
/-- for k in range(n): the body draws -/
theorem rd_rng1 {ta : TA} {tb : TS} {n : Int} (w : Dw G d l) (h : EvA ta σ G [.int n]) (h1 : -(2 ^ 62) ≤ n) (h2 : n < 2 ^ 62) (P : Nat → L2.St → Prop) (h0 : P 0 σ)
    (hs : ∀ (i : Nat) σ', i < n.toNat → P i σ' → RD tb (LpD D u (fun σ2 H2 => P (i + 1) σ2 ∧ ∃ o, Dro l o ∧ H2 = upd G d o)) (σ'.set j (some (.int (i : Int)))) G d l) (hd : ∀ σ', P n.toNat σ' → RD u D σ' G d l) :
    RD (tSeq (tFor (iRng1 ta) (gName j) tb) u) D σ G d l := fun o ho => by
  refine run_rng1 (h.mono (ex_upd w.free)) h1 h2 (fun i σ' H' => P i σ' ∧ ∃ o, Dro l o ∧ H' = upd G d o) ⟨h0, o, ho, rfl⟩ ?_ ?_
  · rintro i σ' H' hi ⟨p, o', ho', rfl⟩
    exact hs i σ' hi p o' ho'
  · rintro σ' H' ⟨p, o', ho', rfl⟩
    exact hd σ' p o' ho'
/-- s[lo:], lo drawn -/
theorem ed_slLo {s : Str} {C : Int → Prop} (w : Dw G d l) (h : Ev te σ G (.str s)) (h1 : ED tl σ G d l (fun v G' => ∃ i, v = .int i ∧ C i ∧ G' = G)) (hl : s.length ≤ sizeLine) :
    ED (tSl rSlS te (tPart tl) tNoPart) σ G d l (fun v G' => ∃ i, v = .str (cutS s (some i) none) ∧ C i ∧ G' = G) := fun o ho H1 e Q q =>
  h H1 (ex_skip w.free e) _ fun H2 e2 => h1 o ho H2 (e.trans e2) _ fun v H3 H4 ⟨G1, o1, ⟨i, ev, hc, eG⟩, e1, w1, ho1, eq1⟩ e4 => by
    subst ev eG eq1
    exact ⟨i, rfl, s, rfl, hl, q _ _ H4 ⟨_, o1, ⟨i, rfl, hc, rfl⟩, Ex.refl _, w1, ho1, rfl⟩ e4⟩
/-- xs[draw], a new list -/
theorem ed_pick {n : Nat} (w : Dw G d l) (hl : EvL ta σ G xs) (hn : xs.length = n) (hi : ∀ G1, Ex G G1 → Dw G1 d l → ED tb σ G1 d l (fun v G' => ∃ i : Nat, v = .int (i : Int) ∧ (i : Int) < (n : Int) ∧ G' = G1)) :
    ED (tOp (rIxL K) ta tb) σ G d l (fun v _ => v ∈ xs) :=
  ed_op (ed_l w hl) (Rb := fun x y G2 => ∃ p, x = .ref p ∧ G2 p = some (.lst xs) ∧ ∃ i : Nat, y = .int (i : Int) ∧ i < n) (fun x G1 hx e1 w1 => by
    obtain ⟨p, rfl, hp, hpd, rfl⟩ := hx
    exact (hi _ e1 w1).imp fun v G' ⟨i, e, h, eG⟩ => ⟨p, rfl, by subst eG; exact upd_same, i, e, by omega⟩) fun x G1 y G2 _ hy _ _ => by
    obtain ⟨p, rfl, hp, i, rfl, hlt⟩ := hy
    have hlt : i < xs.length := by omega
    exact ⟨xs[i], rv_ixL (sq_of hp) (at_nat _ (List.getElem?_eq_getElem hlt)), List.getElem_mem hlt⟩
/-- .. a list that stands -/
theorem ed_pickV {n : Nat} (w : Dw G d l) (hl : Ev ta σ G (.ref a)) (hx : G a = some (.lst xs)) (hn : xs.length = n) (hi : ED tb σ G d l (fun v G' => ∃ i : Nat, v = .int (i : Int) ∧ (i : Int) < (n : Int) ∧ G' = G)) :
    ED (tOp (rIxL K) ta tb) σ G d l (fun v G' => v ∈ xs ∧ G' = G) :=
  ed_opR w hl hi fun y G2 hy _ _ => by
    obtain ⟨i, rfl, hlt, rfl⟩ := hy
    have hlt : i < xs.length := by omega
    exact ⟨xs[i], rv_ixL (sq_of hx) (at_nat _ (List.getElem?_eq_getElem hlt)), List.getElem_mem hlt, rfl⟩
/-- a test that draws, an if alone -/
theorem rd_ifEO (h : ED te σ G d l R) (hb : ∀ v G', R v G' → ∃ b, v = .bl b) (h1 : ∀ G', R (.bl true) G' → Ex G G' → Dw G' d l → RD tu D σ G' d l) (h2 : ∀ G', R (.bl false) G' → Ex G G' → Dw G' d l → RD tw D σ G' d l) : RD (tIfS (tTest te) tu tw) D σ G d l := fun o ho H1 e =>
  h o ho H1 e _ fun v H2 H3 ⟨G1, o1, r1, e1, w1, ho1, eq1⟩ e3 => by
    subst eq1
    obtain ⟨b, rfl⟩ := hb v G1 r1
    refine ⟨b, rfl, ?_⟩
    cases b with
    | true => exact h1 G1 r1 e1 w1 o1 ho1 H3 e3
    | false => exact h2 G1 r1 e1 w1 o1 ho1 H3 e3
/-- a call with drawn arguments, whose value is plain -/
theorem ed_callR {sp : Sp} {E : XK} {ta : TA} {U : List V → Hp → Prop} (h : EDA ta σ G d l U) (hs : ∀ vs G1, U vs G1 → Ex G G1 → Dw G1 d l → ∃ z, (∀ o, Dro l o → SpV sp vs (upd G1 d o) z) ∧ R z G1) : ED (tCall sp [] E ta) σ G d l R := fun o ho H1 e Q q =>
  h o ho H1 e _ fun vs H2 H3 ⟨G1, o1, r1, e1, w1, ho1, eq1⟩ e3 => by
    subst eq1
    obtain ⟨z, hz, rz⟩ := hs vs G1 r1 e1 w1
    rw [List.append_nil]
    exact hz o1 ho1 H3 e3 Q (fun H4 e4 => q z _ H4 ⟨G1, o1, rz, e1, w1, ho1, rfl⟩ (e3.trans e4)) E
theorem eda1 (h : ED te σ G d l R) : EDA (tCons te tNil) σ G d l (fun vs G' => ∃ v, vs = [v] ∧ R v G') := fun o ho H1 e Q q => h o ho H1 e _ fun v H2 H3 ⟨G1, o1, r1, e1, w1, ho1, eq1⟩ e3 => q [v] H2 H3 ⟨G1, o1, ⟨v, rfl, r1⟩, e1, w1, ho1, eq1⟩ e3
end
end Kn

namespace Lw
open PySem PySem.Spec L2 Evl Kn Mw
def topS (i : Nat) : Stmt := PySem.Challenge.pw_meetwalks_k09_texts_refused.main.body.getD i (.Pass ⟨0, 0, 0, 0⟩)
abbrev s_are_steps : Stmt := topS 8
abbrev s_least_round : Stmt := topS 9
abbrev s_Plan_init : Stmt := inClass (topS 10) 0
abbrev s_Plan_eq : Stmt := inClass (topS 10) 4
abbrev s_plain_parts : Stmt := topS 11
abbrev s_read : Stmt := topS 13
abbrev s_l_begin : Stmt := topS 15
abbrev s_l_draw : Stmt := topS 16
abbrev s_l_steps : Stmt := topS 17
abbrev s_l_bad : Stmt := topS 18
abbrev s_l_good : Stmt := topS 19
abbrev s_law : Stmt := topS 20
structure Tx (K : PySem.W.Frag) (mg : Str → Option Value) (w : World) where
  n_isinstance : mg "isinstance" = none
  n_len : mg "len" = none
  n_all : mg "all" = none
  n_int : mg "int" = none
  n_str : mg "str" = none
  n_list : mg "list" = none
  n_range : mg "range" = none
  aSteps : Addr
  gSTEPS : mg "STEPS" = some (.ref aSteps)
  st : StepsAt K w aSteps
  gMOST : ∃ u, mg "MOST" = some u ∧ RelV (.int 6) u
  cPlan : Addr
  gPlan : mg "Plan" = some (.ref cPlan)
  clPlan : Cls K cPlan
  nPlan_head : NoAttr K cPlan "head"
  nPlan_ring : NoAttr K cPlan "ring"
  isiPlan : PySem.W.findIn K (.ref cPlan) "__class__" = some (some (.builtin "object.__class__"))
  mroPlan : PySem.W.mroIn K cPlan (.type "object") = some true
  spec : PySem.W.specialIn K (.builtin "object.__class__") "__get__" = some (some (.builtin "getset_descriptor.__get__"))
  takes : PySem.W.takesIn K (.builtin "object.__class__") = some true
  cMeetError : Addr
  gMeetError : mg "MeetError" = some (.ref cMeetError)
  xMeetError : PySem.W.excIn K cMeetError [.type "ValueError", .type "Exception", .type "BaseException", .type "object"] "ValueError.__new__" = true
  kMeetError : PySem.W.keepIn K (.ref cMeetError) = true
  bMeetError : PySem.W.subIn K (.ref cMeetError) (.type "BaseException") = some true
  tMeetError : PySem.W.typeIn K (.ref cMeetError) = some (.type "type")
  cBadPlan : Addr
  gBadPlan : mg "BadPlan" = some (.ref cBadPlan)
  xBadPlan : PySem.W.excIn K cBadPlan [.type "ValueError", .type "Exception", .type "BaseException", .type "object"] "ValueError.__new__" = true
  kBadPlan : PySem.W.keepIn K (.ref cBadPlan) = true
  bBadPlan : PySem.W.subIn K (.ref cBadPlan) (.type "BaseException") = some true
  tBadPlan : PySem.W.typeIn K (.ref cBadPlan) = some (.type "type")
  cBadText : Addr
  gBadText : mg "BadText" = some (.ref cBadText)
  xBadText : PySem.W.excIn K cBadText [.type "ValueError", .type "Exception", .type "BaseException", .type "object"] "ValueError.__new__" = true
  kBadText : PySem.W.keepIn K (.ref cBadText) = true
  bBadText : PySem.W.subIn K (.ref cBadText) (.type "BaseException") = some true
  tBadText : PySem.W.typeIn K (.ref cBadText) = some (.type "type")
  mBadText : PySem.W.exmOne K (.ref cBadText) (.ref cBadText) = some true
section
variable {P : Program} {w : World} {K : PySem.W.Frag} {mg : Str → Option Value} {base : Heap}
/-- a plan that stands at a -/
def pF (p : Pl) : List (Str × V) := [(("head" : Str), V.str (S p.h)), (("ring" : Str), V.str (S p.r))]
def PlanAt (C : Addr) (H : Hp) (a : Addr) (p : Pl) : Prop := ∃ dx, H a = some (.ins C dx (pF p))
structure POk (p : Pl) : Prop where
  ok : Mw.Ok p
  sh : Stp p.h
  sr : Stp p.r
theorem PlanAt.mono {C : Addr} {H H' : Hp} {a : Addr} {p : Pl} (e : Ex H H') (h : PlanAt C H a p) : PlanAt C H' a p := let ⟨dx, h⟩ := h; ⟨dx, e _ _ h⟩
theorem hd_look (p : Pl) : (pF p).lookup ("head" : Str) = some (.str (S p.h)) := rfl
theorem rg_look (p : Pl) : (pF p).lookup ("ring" : Str) = some (.str (S p.r)) := by
  have : (("ring" : Str) == ("head" : Str)) = false := by decide +kernel
  unfold pF
  rw [List.lookup_cons, this]
  rfl
theorem no_look {m : Str} (p : Pl) (h1 : (m == ("head" : Str)) = false) (h2 : (m == ("ring" : Str)) = false) : (pF p).lookup m = none := by
  unfold pF
  rw [List.lookup_cons, h1]
  show List.lookup m [(("ring" : Str), V.str (S p.r))] = none
  rw [List.lookup_cons, h2]
  rfl
theorem ev_head {ta : TE} {σ : L2.St} {H : Hp} {a : Addr} {p : Pl} (T : Tx K mg w) (h : Ev ta σ H (.ref a)) (hp : PlanAt T.cPlan H a p) : Ev (tFld K ta "head") σ H (.str (S p.h)) := let ⟨_, hp⟩ := hp; ev_fld h hp T.clPlan T.nPlan_head (hd_look p)
theorem ev_ring {ta : TE} {σ : L2.St} {H : Hp} {a : Addr} {p : Pl} (T : Tx K mg w) (h : Ev ta σ H (.ref a)) (hp : PlanAt T.cPlan H a p) : Ev (tFld K ta "ring") σ H (.str (S p.r)) := let ⟨_, hp⟩ := hp; ev_fld h hp T.clPlan T.nPlan_ring (rg_look p)
theorem ev_pmeth {ta : TE} {t : TA} {σ : L2.St} {H : Hp} {a : Addr} {p : Pl} {m : Str} {sp : Sp} {E : XK} {vs : List V} {z : V} (T : Tx K mg w) (h : Ev ta σ H (.ref a)) (hp : PlanAt T.cPlan H a p) (h1 : (m == ("head" : Str)) = false) (h2 : (m == ("ring" : Str)) = false) (hA : EvA t σ H vs) (hs : SpV sp (.ref a :: vs) H z) :
    Ev (tMeth T.cPlan m sp [] E ta t) σ H z := let ⟨_, hp⟩ := hp; ev_meth h hp (no_look p h1 h2) hA hs
theorem stp_ok {p : Pl} (h : POk p) (k : Nat) : ∀ c, c = stp p.h p.r k → isStep c = true := by
  intro c hc
  have r0 := h.ok.r0
  by_cases c1 : k < p.h.length
  · have := stp_head (r := p.r) c1
    rw [← hc] at this
    exact (List.all_eq_true.mp h.sh) c (List.mem_of_getElem? this)
  · have e : stp p.h p.r k = stp p.h p.r (p.h.length + (k - p.h.length) % p.r.length) := by
      unfold stp
      rw [if_neg c1, if_neg (by omega), Nat.add_sub_cancel_left, Nat.mod_mod]
    have := stp_ring (h := p.h) (r := p.r) (k := (k - p.h.length) % p.r.length) (Nat.mod_lt _ r0)
    rw [← e, ← hc] at this
    exact (List.all_eq_true.mp h.sr) c (List.mem_of_getElem? this)
theorem plain_ok {p : Pl} (h : POk p) : POk (plainP p) := by
  have n := plain_norm h.ok.r0
  have hl := h.ok.hl
  have rl := h.ok.rl
  refine ⟨⟨by omega, n.1.r0, by omega⟩, ?_, ?_⟩
  · unfold Stp
    rw [List.all_eq_true]
    intro c hc
    obtain ⟨i, hi⟩ := List.mem_iff_getElem?.mp hc
    have hlt := (List.getElem?_eq_some_iff.mp hi).1
    have := stp_head (h := (plainP p).h) (r := (plainP p).r) hlt
    rw [this, n.1.seq] at hi
    exact stp_ok h i c (Option.some.inj hi).symm
  · unfold Stp
    rw [List.all_eq_true]
    intro c hc
    obtain ⟨i, hi⟩ := List.mem_iff_getElem?.mp hc
    have hlt := (List.getElem?_eq_some_iff.mp hi).1
    have := stp_ring (h := (plainP p).h) (r := (plainP p).r) hlt
    rw [this, n.1.seq] at hi
    exact stp_ok h _ c (Option.some.inj hi).symm
def RetU (xs : List V) (H : Hp) (Q : VK) : Prop := ∀ p, H p = none → ∀ H2, Ex (upd H p (.tup xs)) H2 → Q (.ref p) H2
theorem RetU.u {sp : Sp} {vs xs : List V} {H : Hp} (h : ∀ H1, Ex H H1 → ∀ Q : VK, RetU xs H1 Q → ∀ E : XK, sp vs H1 Q E) : SpU sp vs H xs := fun H1 e Q q E => h H1 e Q (fun b hb H2 e2 => q b H2 hb (ex_skip hb e2) (e2 _ _ upd_same)) E
def RetP (C : Addr) (p : Pl) (H : Hp) (Q : VK) : Prop := ∀ x dx, H x = none → ∀ H2, Ex (upd H x (.ins C dx (pF p))) H2 → Q (.ref x) H2
def NewP (C : Addr) (p : Pl) (H : Hp) : V → Hp → Prop := fun v H' => ∃ x dx, v = .ref x ∧ H x = none ∧ H' = upd H x (.ins C dx (pF p))
theorem RetP.g {sp : Sp} {vs : List V} {H : Hp} {C : Addr} {p : Pl} (h : ∀ H1, Ex H H1 → ∀ Q, RetP C p H1 Q → ∀ E, sp vs H1 Q E) : SpG sp vs H (NewP C p H) := fun H1 e Q q E => h H1 e Q (fun x dx hx H2 e2 => q _ _ H2 ⟨x, dx, rfl, fresh_back e hx, rfl⟩ ((exc e).trans e2)) E
def PartsAt (K : PySem.W.Frag) (H : Hp) (a : Addr) (p : Pl) : Prop := SqL K H a [.str (S p.h), .str (S p.r)]
theorem thenS : ("then " : Str) = S (thenL ++ [32]) := by decide +kernel
theorem blankT : (" " : Str) = S [32] := by decide +kernel
theorem noneT : ("" : Str) = S [] := by decide +kernel
theorem S_dec {l m : List Nat} : decide (V.str (S l) = V.str (S m)) = decide (l = m) := by
  by_cases c : l = m
  · subst c; simp
  · rw [decide_eq_false c, decide_eq_false (fun e => by injection e with e; exact c (S_inj e))]
theorem szl {n : Nat} (h : n ≤ 1000) : n ≤ sizeLine := Nat.le_trans h (by decide)
theorem S_szl {l : List Nat} (h : l.length ≤ 1000) : (S l).length ≤ sizeLine := by rw [S_len]; exact szl h
theorem ea1 {ta : TE} {σ : L2.St} {H : Hp} {x : V} (h : Ev ta σ H x) : EvA (tCons ta tNil) σ H [x] := ea_cons h ea_nil
theorem ea2 {ta tb : TE} {σ : L2.St} {H : Hp} {x y : V} (h : Ev ta σ H x) (h2 : Ev tb σ H y) : EvA (tCons ta (tCons tb tNil)) σ H [x, y] := ea_cons h (ea_cons h2 ea_nil)
theorem ea3 {ta tb tc : TE} {σ : L2.St} {H : Hp} {x y z : V} (h : Ev ta σ H x) (h2 : Ev tb σ H y) (h3 : Ev tc σ H z) : EvA (tCons ta (tCons tb (tCons tc tNil))) σ H [x, y, z] := ea_cons h (ea_cons h2 (ea_cons h3 ea_nil))
theorem ea4 {ta tb tc td : TE} {σ : L2.St} {H : Hp} {x y z v : V} (h : Ev ta σ H x) (h2 : Ev tb σ H y) (h3 : Ev tc σ H z) (h4 : Ev td σ H v) : EvA (tCons ta (tCons tb (tCons tc (tCons td tNil)))) σ H [x, y, z, v] := ea_cons h (ea_cons h2 (ea_cons h3 (ea_cons h4 ea_nil)))
/-! are_steps -/
theorem sc_are_steps : FnScope ["thing", "least", "step"] ["thing", "least"] (defScope s_are_steps) := ⟨rfl, rfl, rfl, by decide +kernel, rfl, by decide +kernel, by decide +kernel⟩
def areB (z : List Nat) (k : Int) : Bool := (decide (k ≤ (z.length : Int)) && decide ((z.length : Int) ≤ 6)) && z.all isStep
theorem isStep_dec (c : Nat) : decide ([c] = [102] ∨ [c] = [98] ∨ [c] = [115]) = isStep c := by
  by_cases h1 : c = 102
  · subst h1; rfl
  · by_cases h2 : c = 98
    · subst h2; rfl
    · by_cases h3 : c = 115
      · subst h3; rfl
      · have e : isStep c = false := by unfold isStep; simp [h1, h2, h3]
        rw [e]
        simp [h1, h2, h3]
/-- what are_steps says of a thing -/
def ArgV (K : PySem.W.Frag) (H : Hp) (x : V) (k : Int) (b : Bool) : Prop := (∃ z, x = .str (S z) ∧ z.length ≤ 1000 ∧ b = areB z k) ∨ (b = false ∧ ∃ t, (∀ H', Ex H H' → TyX K H' x t) ∧ PySem.W.kitOne K t (.type "str") = some false)
theorem ArgV.mono {H H' : Hp} {x : V} {k : Int} {b : Bool} (e : Ex H H') (h : ArgV K H x k b) : ArgV K H' x k b := h.elim (fun h => .inl h) fun ⟨hb, t, h1, h2⟩ => .inr ⟨hb, t, fun H2 e2 => h1 H2 (e.trans e2), h2⟩
theorem argv_str {H : Hp} {z : List Nat} {k : Int} {b : Bool} (hl : z.length ≤ 1000) (h : areB z k = b) : ArgV K H (.str (S z)) k b := .inl ⟨z, rfl, hl, h.symm⟩
theorem argv_non {H : Hp} {k : Int} : ArgV K H .non k false := .inr ⟨rfl, _, fun _ _ => .base .non, kit_ty (by decide +kernel)⟩
theorem argv_int {H : Hp} {i k : Int} : ArgV K H (.int i) k false := .inr ⟨rfl, _, fun _ _ => .base (.int i), kit_ty (by decide +kernel)⟩
theorem argv_lst {H : Hp} {a : Addr} {xs : List V} {k : Int} (h : H a = some (.lst xs)) : ArgV K H (.ref a) k false := .inr ⟨rfl, _, fun _ e => .base (.lst (e _ _ h)), kit_ty (by decide +kernel)⟩
def sp_are (K : PySem.W.Frag) : Sp := fun vs H Q _ => ∃ x k b, vs = [x, .int k] ∧ ArgV K H x k b ∧ RetV (.bl b) H Q
theorem use_are {x : V} {k : Int} {b : Bool} {H : Hp} (h : ArgV K H x k b) : SpV (sp_are K) [x, .int k] H (.bl b) := fun H1 e Q q E => ⟨x, k, b, rfl, h.mono e, fun H2 e2 => q H2 e2⟩
theorem ok_are_steps {f : Addr} {fd : FuncData} (F : Fun K "are_steps" "are_steps" s_are_steps f fd) (T : Tx K mg w) : FnOk P w K mg base CX0 1 f fd ["thing", "least"] (sp_are K) := by
  refine F.ok sc_are_steps (fun vs H Q E h => ?_) (fun cdv A outer s H vs Q E hr h => ?_)
  · obtain ⟨x, k, b, rfl, _⟩ := h; rfl
  · obtain ⟨x, k, b, rfl, ha, kk⟩ := h
    refine ⟨_, (pss_cons (ps_ret (pe_and (pe_callB call_isi (by rfl) T.n_isinstance b_isinstance (pa_cons (pv 0) (pa_cons (pe_bltn (v := .ty "str") (by rfl) T.n_str b_str rfl) pa_nil))) (pe_and (pe_chain op_le op_le (pv 1) (pe_callB call_len_str (by rfl) T.n_len b_len (pa_cons (pv 0) pa_nil)) (pe_gc (by rfl) T.gMOST)) (pe_one (pe_callB (cr_all rfl) (by rfl) T.n_all b_all (pa_cons (pe_lc (own := [("step", 2)]) (g := gName 2) rfl sc_are_steps.nd (pi_str (pv 0)) (blkOk_by (own := [("step", 2)]) (N := ["thing", "least", "step"]) (sc := defScope s_are_steps) (by decide +kernel)) (fun _ _ _ _ _ => pg_name (i := 2) sc_are_steps.nd rfl (Or.inl rfl)) (fun _ _ _ _ _ => pts_nil) (fun _ _ _ _ _ => (pe_cmpR (op_inSt T.st) (pv 2) (pe_glob (v := .ref T.aSteps) (by rfl) T.gSTEPS rfl) (by rfl)))) pa_nil))))))
          pss_nil), Run.start (σ := [some x, some (.int k), none]) rfl ?_⟩
    rcases ha with ⟨z, rfl, hl, rfl⟩ | ⟨rfl, t, ht, hk⟩
    · refine run_ret ?_ kk
      have e1 : areB z k = (true && (((decide (k ≤ (z.length : Int)) && decide ((z.length : Int) ≤ 6)) && z.all isStep))) := by rw [Bool.true_and]; rfl
      rw [e1]
      refine ev_andV (ev_isi (ev_var rfl) ev_c (.ty "str") (fun H' _ => .base (.str _)) (kit_ty (by decide +kernel))) fun _ => ?_
      refine ev_andV ?_ fun _ => ?_
      · exact ev_is (ev_chain (ev_var rfl) (ev_lenS (ev_var rfl) (S_szl hl)) rv_I0 (fun _ => ⟨ev_c, rv_I0⟩)) (by rw [S_len])
      · have e2 : z.all isStep = (z.map isStep).all id := by rw [List.all_map]; rfl
        rw [e2]
        refine ev_allNL ?_
        rw [List.map_map]
        refine el_lcA (α := Nat) (l := z) (g := fun c => V.str (S [c])) (V.bl ∘ isStep) ?_ (szl hl) (fun x => rfl) fun c hc => ?_
        · rw [← S_signs]; exact (ei_str (ev_var rfl)).toJ
        · refine ev_is (ev_op (ev_var rfl) ev_c rv_inK) ?_
          show V.bl _ = V.bl (isStep c)
          rw [isStep_dec]
    · refine run_ret ?_ kk
      have e1 : false = (false && false) := rfl
      rw [e1]
      exact ev_andV (ev_isi (ev_var rfl) ev_c (.ty "str") ht hk) fun h => by cases h
/-! Plan.__init__ -/
theorem sc_Plan_init : FnScope ["self", "head", "ring"] ["self", "head", "ring"] (defScope s_Plan_init) := ⟨rfl, rfl, rfl, by decide +kernel, rfl, by decide +kernel, by decide +kernel⟩
theorem areB_ok {h r : List Nat} (h1 : areB h 0 = true) (h2 : areB r 1 = true) : POk ⟨h, r⟩ := by
  unfold areB at h1 h2
  simp only [Bool.and_eq_true, decide_eq_true_eq] at h1 h2
  exact ⟨⟨show h.length ≤ 6 by omega, show 0 < r.length by omega, show r.length ≤ 6 by omega⟩, h1.2, h2.2⟩
theorem ok_areB {p : Pl} (h : POk p) : areB p.h 0 = true ∧ areB p.r 1 = true := by
  have h1 := h.ok.hl
  have h2 := h.ok.r0
  have h3 := h.ok.rl
  unfold areB
  refine ⟨?_, ?_⟩
  · rw [decide_eq_true (by omega), decide_eq_true (by omega)]; exact h.sh
  · rw [decide_eq_true (by omega), decide_eq_true (by omega)]; exact h.sr
def sp_Plan (T : Tx K mg w) : Sp := fun vs H Q E => ∃ x dx a b, vs = [.ref x, a, b] ∧ H x = some (.ins T.cPlan dx []) ∧
  ((∃ h r, a = .str (S h) ∧ b = .str (S r) ∧ areB h 0 = true ∧ areB r 1 = true ∧ ∀ H', Ex (upd H x (.ins T.cPlan dx (pF ⟨h, r⟩))) H' → Q .non H') ∨
   (∃ ba bb, ArgV K H a 0 ba ∧ ArgV K H b 1 bb ∧ (ba && bb) = false ∧ ∀ H', Ex H H' → E (.ref T.cBadPlan) none H'))
theorem pF_put (h r : List Nat) : putF "ring" (V.str (S r)) (putF "head" (V.str (S h)) []) = pF ⟨h, r⟩ := by
  have : ¬ (("head" : Str) = "ring") := by decide +kernel
  show (if ("head" : Str) = "ring" then [(("head" : Str), V.str (S r))] else (("head" : Str), V.str (S h)) :: putF "ring" (V.str (S r)) []) = _
  rw [if_neg this]
  rfl
theorem ok_Plan_init {f : Addr} {fd : FuncData} (F : Fun K "__init__" "Plan.__init__" s_Plan_init f fd) (T : Tx K mg w) (c_are_steps : Cal P w K mg base CX0 1 "are_steps" (sp_are K)) : FnOk P w K mg base (L2.CX P w) 2 f fd ["self", "head", "ring"] (sp_Plan T) := by
  refine F.okX sc_Plan_init (fun vs H Q E h => ?_) (fun cdv A outer s H vs Q E hr h => ?_)
  · obtain ⟨x, dx, a, b, rfl, _⟩ := h; rfl
  · obtain ⟨x, dx, a, b, rfl, hx, h⟩ := h
    refine ⟨_, (pss_cons (ps_if (PW.pt (pw_or (pt_not (pt_val (pe_cx c_are_steps hr (by decide) (by rfl) pass0 (pa_cons (pv 1) (pa_cons pe_int pa_nil))))) (pw_or1 (pt_not (pt_val (pe_cx c_are_steps hr (by decide) (by rfl) pass0 (pa_cons (pv 2) (pa_cons pe_int pa_nil))))))))
            (pss_cons (ps_raise rfl (takes_of rfl rfl rfl rfl) (pmk_own0 PySem.F.excBase_ValueError T.xBadPlan T.gBadPlan T.kBadPlan (raises_own T.bBadPlan T.tBadPlan) (by rfl)))
            pss_nil)
            pss_nil)
          (pss_cons (ps_fld (pv 0) (pv 1) rfl)
          (pss_cons (ps_fld (pv 0) (pv 2) rfl)
          pss_nil))), Run.start (σ := [some (.ref x), some a, some b]) rfl ?_⟩
    have args : ∃ ba bb, ArgV K H a 0 ba ∧ ArgV K H b 1 bb ∧ (((ba && bb) = true ∧ ∃ h r, a = .str (S h) ∧ b = .str (S r) ∧ ∀ H', Ex (upd H x (.ins T.cPlan dx (pF ⟨h, r⟩))) H' → Q .non H') ∨ ((ba && bb) = false ∧ ∀ H', Ex H H' → E (.ref T.cBadPlan) none H')) := by
      rcases h with ⟨h, r, rfl, rfl, h1, h2, k⟩ | ⟨ba, bb, h1, h2, h3, k⟩
      · refine ⟨true, true, argv_str ?_ h1, argv_str ?_ h2, .inl ⟨rfl, h, r, rfl, rfl, k⟩⟩
        · have : h.length ≤ 6 := (areB_ok h1 h2).ok.hl
          omega
        · have : r.length ≤ 6 := (areB_ok h1 h2).ok.rl
          omega
      · exact ⟨ba, bb, h1, h2, .inr ⟨h3, k⟩⟩
    obtain ⟨ba, bb, h1, h2, hk⟩ := args
    refine run_if (b := !ba || !bb) (et_or (et_not (et_B (ev_call0 (ea2 (ev_var rfl) ev_c) (use_are h1)))) fun _ => et_not (et_B (ev_call0 (ea2 (ev_var rfl) ev_c) (use_are h2)))) (fun hb => ?_) (fun hb => ?_)
    · rcases hk with ⟨h3, _⟩ | ⟨_, k⟩
      · exact absurd hb (by revert h3; cases ba <;> cases bb <;> decide)
      · exact fun H1 e1 => k H1 e1
    · rcases hk with ⟨_, h, r, rfl, rfl, k⟩ | ⟨h3, _⟩
      · refine run_end ?_
        have eH : H = upd H x (.ins T.cPlan dx []) := by
          funext c
          by_cases c1 : c = x
          · subst c1; rw [upd_same, hx]
          · rw [upd_ne c1]
        rw [eH]
        refine run_fld (ev_var rfl) (ev_var rfl) T.clPlan T.nPlan_head (by decide) ?_
        refine run_fld (ev_var rfl) (ev_var rfl) T.clPlan T.nPlan_ring (by show 1 < 1000; decide) ?_
        rw [pF_put]
        exact run_next k
      · exact absurd hb (by revert h3; cases ba <;> cases bb <;> decide)
/-- a plan made -/
theorem eg_plan {t : TA} {σ : L2.St} {H : Hp} {h r : List Nat} {E : XK} (T : Tx K mg w) (hA : EvA t σ H [.str (S h), .str (S r)]) (h1 : areB h 0 = true) (h2 : areB r 1 = true) :
    Eg (tMake T.cPlan (sp_Plan T) [] E t) σ H (fun v H' => ∃ x dx, v = .ref x ∧ H x = none ∧ H' = upd H x (.ins T.cPlan dx (pF ⟨h, r⟩))) := fun H1 e Q q => hA H1 e _ fun H2 e2 x dx hx hdx hne =>
  ⟨x, dx, .str (S h), .str (S r), rfl, upd_same, .inl ⟨h, r, rfl, rfl, h1, h2, fun H' e' => ⟨rfl, q _ _ H' ⟨x, dx, rfl, fresh_back (e.trans e2) hx, rfl⟩ fun c o hc => by
    refine e' c o ?_
    by_cases c1 : c = x
    · subst c1; rw [upd_same] at hc ⊢; exact hc
    · rw [upd_ne c1] at hc
      rw [upd_ne c1, upd_ne c1]
      have h3 := (e.trans e2) c o hc
      rw [upd_ne (ne_of_none h3 hdx)]
      exact h3⟩⟩⟩
theorem PlanAt.new {C : Addr} {H : Hp} {x dx : Addr} {p : Pl} : PlanAt C (upd H x (.ins C dx (pF p))) x p := ⟨dx, upd_same⟩
/-! read -/
theorem sc_read : FnScope ["text", "words"] ["text"] (defScope s_read) := ⟨rfl, rfl, rfl, by decide +kernel, rfl, by decide +kernel, by decide +kernel⟩
theorem thenT : ("then" : Str) = S thenL := by decide +kernel
def wsV (ws : List (List Nat)) : List V := ws.map fun w => V.str (S w)
def rdA : List Nat → Bool := fun z => areB z 0
def rdB : List Nat → Bool := fun z => areB z 1
def goodL (z : List Nat) : Bool := (readL rdA rdB z).isSome
def sp_read (T : Tx K mg w) : Sp := fun vs H Q E => ∃ z, vs = [.str (S z)] ∧ z.length ≤ 1000 ∧ ((∃ p, readL rdA rdB z = some p ∧ RetP T.cPlan p H Q) ∨ (readL rdA rdB z = none ∧ ∀ H', Ex H H' → E (.ref T.cBadText) none H'))
theorem use_read (T : Tx K mg w) {z : List Nat} {p : Pl} {H : Hp} (hz : z.length ≤ 1000) (h : readL rdA rdB z = some p) : SpG (sp_read T) [.str (S z)] H (NewP T.cPlan p H) := RetP.g fun H1 e Q k E => ⟨z, rfl, hz, .inl ⟨p, h, k⟩⟩
theorem rd3_some {A B : List Nat → Bool} {ws : List (List Nat)} {p : Pl} (h : rd3 A B ws = some p) : ws = [p.h, thenL, p.r] ∧ A p.h = true ∧ B p.r = true := by
  match ws, h with
  | [], h => simp [rd3] at h
  | [_], h => simp [rd3] at h
  | [_, _], h => simp [rd3] at h
  | [a, b, c], h =>
    simp only [rd3] at h
    split at h
    · rename_i hc
      have := Option.some.inj h
      subst this
      obtain ⟨h1, h2, h3⟩ := hc
      subst h1
      exact ⟨rfl, h2, h3⟩
    · cases h
  | _ :: _ :: _ :: _ :: _, h => simp [rd3] at h
theorem ok_read {f : Addr} {fd : FuncData} (F : Fun K "read" "read" s_read f fd) (T : Tx K mg w) (c_are_steps : Cal P w K mg base CX0 1 "are_steps" (sp_are K)) (k_Plan : Mak P w K mg base (L2.CX P w) 2 "Plan" T.cPlan (sp_Plan T)) :
    FnOk P w K mg base (L2.CX P w) 4 f fd ["text"] (sp_read T) := by
  refine F.okX sc_read (fun vs H Q E h => ?_) (fun cdv A outer s H vs Q E hr h => ?_)
  · obtain ⟨z, rfl, _⟩ := h; rfl
  · obtain ⟨z, rfl, hz, h⟩ := h
    refine ⟨_, (pss_cons (ps_set (i := 1) sc_read.nd rfl (Or.inl rfl) (pe_split (pv 0) pe_str))
          (Evl.pss_cut (ps_if (pt_cmpR op_eq (pe_callB call_len_seq (by rfl) T.n_len b_len (pa_cons (pv 1) pa_nil)) pe_int (nomark _))
            (pss_cons (ps_set (i := 1) sc_read.nd rfl (Or.inl rfl) (pe_op op_cat (pe_lst (pa_cons pe_str pa_nil)) (pv 1)))
            pss_nil)
            (pss_cons (ps_if (pt_cmpR op_eq (pe_ix ix_list (pv 1) pe_int (fun _ _ => rfl)) pe_str (nomark _))
              (pss_cons (ps_raise rfl (takes_of rfl rfl rfl rfl) (pmk_own0 PySem.F.excBase_ValueError T.xBadText T.gBadText T.kBadText (raises_own T.bBadText T.tBadText) (by rfl)))
              pss_nil)
              pss_nil)
            pss_nil))
          (pss_cons (ps_if (PW.pt (pw_or (pt_cmpR op_ne (pe_callB call_len_seq (by rfl) T.n_len b_len (pa_cons (pv 1) pa_nil)) pe_int (nomark _)) (pw_or (pt_cmpR op_ne (pe_ix ix_list (pv 1) pe_int (fun _ _ => rfl)) pe_str (nomark _)) (pw_or (pt_not (pt_val (pe_cx c_are_steps hr (by decide) (by rfl) pass0 (pa_cons (pe_ix ix_list (pv 1) pe_int (fun _ _ => rfl)) (pa_cons pe_int pa_nil))))) (pw_or1 (pt_not (pt_val (pe_cx c_are_steps hr (by decide) (by rfl) pass0 (pa_cons (pe_ix ix_list (pv 1) pe_int (fun _ _ => rfl)) (pa_cons pe_int pa_nil))))))))))
            (pss_cons (ps_raise rfl (takes_of rfl rfl rfl rfl) (pmk_own0 PySem.F.excBase_ValueError T.xBadText T.gBadText T.kBadText (raises_own T.bBadText T.tBadText) (by rfl)))
            pss_nil)
            pss_nil)
          (pss_cons (ps_ret (pe_kx k_Plan hr (by decide) (by rfl) passE (pa_cons (pe_ix ix_list (pv 1) pe_int (fun _ _ => rfl)) (pa_cons (pe_ix ix_list (pv 1) pe_int (fun _ _ => rfl)) pa_nil))))
          pss_nil)))), Run.start (σ := [some (.str (S z)), none]) rfl ?_⟩
    refine run_asgL (el_split (ev_var rfl) ev_c blankT hz) fun p hp => ?_
    have hlen : ∀ w ∈ wds [] z, w.length ≤ 1000 := fun w hw => by
      have := wds_len z [] w hw
      rw [List.length_nil] at this
      omega
    have hcnt := wds_cnt z []
    have hne := wds_ne z []
    have hread : readL rdA rdB z = rdW rdA rdB (wds [] z) := rfl
    generalize wds [] z = ws at *
    have hq : ∀ ws : List (List Nat), SqL K (upd H p (.lst (wsV ws))) p (wsV ws) := fun ws => sq_of upd_same
    refine run_cut (fun σ' H' => ∃ q vs, σ' = [some (.str (S z)), some (.ref q)] ∧ H' q = some (.lst (wsV vs)) ∧ Ex H H' ∧ (∀ w ∈ vs, w.length ≤ 1000) ∧ readL rdA rdB z = rd3 rdA rdB vs) ?_ ?_
    · refine run_ifO (et_test (ev_op (ev_lenL (ev_var rfl) (hq ws)) ev_c (rv_eq rfl))) (fun hb => ?_) (fun hb => ?_)
      · have hb := of_decide_eq_true hb
        have hb2 : ws.length = 2 := by injection hb with hb; unfold wsV at hb; rw [List.length_map] at hb; omega
        refine run_asgL (el_cat (el_lst (ea1 ev_c) (by show 1 ≤ 100000; decide)) (fun H' _ => ev_var rfl) upd_same (by show 1 + (wsV ws).length ≤ 100000; unfold wsV; rw [List.length_map]; omega)) fun q hq2 => ?_
        refine run_up rfl ⟨q, [] :: ws, rfl, ?_, (ex_upd hp).trans (ex_upd hq2), ?_, ?_⟩
        · rw [upd_same, noneT]; rfl
        · intro w hw
          rcases List.mem_cons.mp hw with rfl | hw
          · decide
          · exact hlen w hw
        · rw [hread]; unfold rdW; rw [if_pos hb2]
      · have hb := of_decide_eq_false hb
        have hb2 : ¬ ws.length = 2 := fun e => hb (by unfold wsV; rw [List.length_map, e]; rfl)
        obtain ⟨w0, wr, rfl⟩ := List.exists_cons_of_ne_nil hne
        refine run_ifO (b := decide (w0 = [])) (et_is (et_test (ev_op (ev_op (ev_var rfl) ev_c (rv_ixL (hq _) (at_nat (wsV (w0 :: wr)) (i := 0) rfl))) ev_c (rv_eq rfl))) (by rw [noneT, S_dec])) (fun hb3 => ?_) (fun hb3 => ?_)
        · have hb3 := of_decide_eq_true hb3
          subst hb3
          refine fun H2 e2 => ?_
          have hn : readL rdA rdB z = none := by rw [hread]; unfold rdW; rw [if_neg hb2]; rfl
          rcases h with ⟨pl, h1, _⟩ | ⟨_, k⟩
          · rw [hn] at h1; cases h1
          · exact k H2 ((ex_upd hp).trans e2)
        · have hb3 := of_decide_eq_false hb3
          refine run_up rfl ⟨p, _, rfl, upd_same, ex_upd hp, hlen, ?_⟩
          rw [hread]; unfold rdW; rw [if_neg hb2, if_neg (by intro e; exact hb3 (Option.some.inj e))]
    · rintro σ' H' ⟨q, vs, rfl, hq, eH, hv, hr3⟩
      have hsq : SqL K H' q (wsV vs) := sq_of hq
      have hbad : readL rdA rdB z = none → ∀ H2, Ex H' H2 → E (.ref T.cBadText) none H2 := fun hn H2 e2 => by
        rcases h with ⟨pl, h1, _⟩ | ⟨_, k⟩
        · rw [hn] at h1; cases h1
        · exact k H2 (eH.trans e2)
      have el : (wsV vs).length = vs.length := by unfold wsV; rw [List.length_map]
      by_cases h3 : vs.length = 3
      · obtain ⟨a, b, c, rfl⟩ : ∃ a b c, vs = [a, b, c] := by
          match vs, h3 with
          | [a, b, c], _ => exact ⟨a, b, c, rfl⟩
        have ha := hv a (by simp)
        have hc := hv c (by simp)
        refine run_if (b := (false || (!decide (b = thenL) || (!rdA a || !rdB c)))) (et_or (et_is (et_test (ev_op (ev_lenL (ev_var rfl) hsq) ev_c (rv_ne rfl))) rfl) fun _ => et_or (et_is (et_test (ev_op (ev_op (ev_var rfl) ev_c (rv_ixL hsq rfl)) ev_c (rv_ne rfl))) (by rw [thenT, S_dec])) fun _ =>
          et_or (et_not (et_B (ev_call0 (ea2 (ev_op (ev_var rfl) ev_c (rv_ixL hsq rfl)) ev_c) (use_are (argv_str ha rfl))))) fun _ => et_not (et_B (ev_call0 (ea2 (ev_op (ev_var rfl) ev_c (rv_ixL hsq rfl)) ev_c) (use_are (argv_str hc rfl))))) (fun hb => ?_) (fun hb => ?_)
        · refine fun H2 e2 => hbad ?_ H2 e2
          rw [hr3, rd3, if_neg]
          rintro ⟨h1, h2, h4⟩
          rw [decide_eq_true h1, h2, h4] at hb
          cases hb
        · refine run_end ?_
          have hbt : b = thenL ∧ rdA a = true ∧ rdB c = true := by
            by_cases h1 : b = thenL
            · rw [decide_eq_true h1] at hb
              revert hb
              cases rdA a <;> cases rdB c <;> simp [h1]
            · rw [decide_eq_false h1] at hb; cases hb
          have hs : readL rdA rdB z = some ⟨a, c⟩ := by rw [hr3, rd3, if_pos hbt]
          refine run_retG (eg_plan T (ea2 (ev_op (ev_var rfl) ev_c (rv_ixL hsq rfl)) (ev_op (ev_var rfl) ev_c (rv_ixL hsq rfl))) hbt.2.1 hbt.2.2) ?_
          rintro v H1 ⟨x, dx, rfl, hx, rfl⟩ H2 e2
          rcases h with ⟨pl, h1, k⟩ | ⟨h1, _⟩
          · rw [hs] at h1
            have := Option.some.inj h1
            subst this
            exact k x dx (fresh_back eH hx) H2 ((exc eH).trans e2)
          · rw [hs] at h1; cases h1
      · refine run_if (b := true) (et_is (et_or (a := true) (b := true) (et_is (et_test (ev_op (ev_lenL (ev_var rfl) hsq) ev_c (rv_ne rfl))) ?_) fun h => nomatch h) rfl) (fun hb => ?_) fun hb => nomatch hb
        · rw [el, decide_eq_false (fun e => by injection e with e; omega)]; rfl
        · refine fun H2 e2 => hbad ?_ H2 e2
          rw [hr3]
          match vs, h3 with
          | [], _ => rfl
          | [_], _ => rfl
          | [_, _], _ => rfl
          | [_, _, _], h => exact absurd rfl h
          | _ :: _ :: _ :: _ :: _, _ => rfl
/-! _law_begin -/
theorem sc_l_begin : FnScope ["_law_script"] ["_law_script"] (defScope s_l_begin) := ⟨rfl, rfl, rfl, by decide +kernel, rfl, by decide +kernel, by decide +kernel⟩
def sp_begin (K : PySem.W.Frag) : Sp := fun vs H Q _ => ∃ a, ∃ ns : List Int, vs = [.ref a] ∧ SqL K H a (ns.map V.int) ∧ ns.length ≤ 1000 ∧ ∀ l d o H2, H l = none → H d = none → d ≠ l → Dro l o → Ex (upd (upd H l (.lst (ns.map V.int))) d o) H2 → Q (.ref d) H2
theorem use_begin {a : Addr} {ns : List Int} {H : Hp} (hs : SqL K H a (ns.map V.int)) (hl : ns.length ≤ 1000) : SpG (sp_begin K) [.ref a] H (fun v H' => ∃ d l G o, v = .ref d ∧ Ex H G ∧ Dw G d l ∧ Dro l o ∧ H' = upd G d o) := fun H1 e Q q E =>
  ⟨a, ns, rfl, ex_l e hs, hl, fun l d o H2 h1 h2 h3 ho e2 => by
    have hl1 := fresh_back e h1
    have hd1 := fresh_back e h2
    refine q _ _ H2 ⟨d, l, upd H l (.lst (ns.map V.int)), o, rfl, ex_upd hl1, ⟨by rw [upd_ne h3]; exact hd1, ns, upd_same, hl⟩, ho, rfl⟩ ?_
    exact (exc (exc e)).trans e2⟩
theorem ok_l_begin {f : Addr} {fd : FuncData} (F : Fun K "_law_begin" "_law_begin" s_l_begin f fd) (T : Tx K mg w) : FnOk P w K mg base CX0 1 f fd ["_law_script"] (sp_begin K) := by
  refine F.ok sc_l_begin (fun vs H Q E h => ?_) (fun cdv A outer s H vs Q E hr h => ?_)
  · obtain ⟨a, ns, rfl, _⟩ := h; rfl
  · obtain ⟨a, ns, rfl, hs, hl, k⟩ := h
    refine ⟨_, (pss_cons (ps_ret (pe_lst (pa_cons (pe_callTy call_list_of (by rfl) T.n_list b_list (pa_cons (pv 0) pa_nil)) (pa_cons pe_int (pa_cons pe_int (pa_cons pe_int pa_nil))))))
          pss_nil), Run.start (σ := [some (.ref a)]) rfl ?_⟩
    refine run_retG (eg_lst (U := fun vs H' => ∃ l, vs = [.ref l, .int 0, .int 0, .int 7] ∧ H l = none ∧ H' = upd H l (.lst (ns.map V.int))) ?_ ?_) ?_
    · intro H1 e Q' q'
      refine ega_cons (eg_l (el_listOf (ev_var rfl) hs)) (S := fun v H' vs H2 => vs = [.int 0, .int 0, .int 7] ∧ H2 = H') (fun v H' r => ?_) H1 e Q' fun vs H' H2 r e2 => ?_
      · exact ega_ev (ea3 ev_c ev_c ev_c)
      · obtain ⟨v, H3, ws, rfl, ⟨l, rfl, hl, rfl⟩, rfl, rfl⟩ := r
        exact q' _ _ _ ⟨l, rfl, hl, rfl⟩ e2
    · rintro vs H' ⟨l, rfl, _⟩; show 4 ≤ 1000; decide
    · rintro v H' ⟨d, vs, H1, rfl, ⟨l, rfl, hl, rfl⟩, hd, rfl⟩ H2 e2
      have hdl : d ≠ l := fun e => by subst e; rw [upd_same] at hd; cases hd
      rw [upd_ne hdl] at hd
      exact k l d _ H2 hl hd hdl ⟨0, 0, 7, by decide, by decide, rfl⟩ e2
/-- a law: true for every script -/
def spLaw (K : PySem.W.Frag) : Sp := fun vs H Q _ => ∃ a, ∃ ns : List Int, vs = [.ref a] ∧ SqL K H a (ns.map V.int) ∧ ns.length ≤ 63 ∧ ∀ H2, Q (.bl true) H2
theorem run_begin {x : PySem.W.Frag} {σ : L2.St} {H : Hp} {D : Ends} {u : TS} {i j : Nat} {E : XK} {a : Addr} {ns : List Int} (hv : σ[j]? = some (some (.ref a))) (hs : SqL x H a (ns.map V.int)) (hl : ns.length ≤ 63) (k : ∀ d l G, Ex H G → Dw G d l → RD u D (σ.set i (some (.ref d))) G d l) :
    Run (tSeq (tAsg (tCall (sp_begin x) [] E (tCons (tVar j) tNil)) (gName i)) u) D σ H := by
  refine run_asgG (eg_call (ea1 (ev_var hv)) (use_begin hs (Nat.le_trans hl (by decide)))) ?_
  rintro v H' ⟨d, l, G, o, rfl, eG, dw, ho, rfl⟩
  exact k d l G eG dw o ho
/-! _law_draw -/
theorem sc_l_draw : FnScope ["_law_draws", "_law_size", "_law_cell", "_law_found"] ["_law_draws", "_law_size"] (defScope s_l_draw) := ⟨rfl, rfl, rfl, by decide +kernel, rfl, by decide +kernel, by decide +kernel⟩
def sp_draw : Sp := fun vs H Q _ => ∃ G d l o n, vs = [.ref d, .int n] ∧ Ex (upd G d o) H ∧ Dro l o ∧ Dw G d l ∧ 0 < n ∧ n < 1000 ∧ ∀ v o' H2, 0 ≤ v → v < n → Dro l o' → Ex (upd G d o') H2 → Q (.int v) H2
theorem use_draw {G : Hp} {d l : Addr} {n : Int} (w : Dw G d l) (h0 : 0 < n) (hn : n < 1000) : SpD sp_draw [.ref d, .int n] G d l (fun v G' => ∃ i : Nat, v = .int (i : Int) ∧ (i : Int) < n ∧ G' = G) := fun o ho H1 e Q q E =>
  ⟨G, d, l, o, n, rfl, e, ho, w, h0, hn, fun v o' H2 h1 h2 ho' e2 => q _ _ H2 ⟨G, o', ⟨v.toNat, by rw [Int.toNat_of_nonneg h1], by omega, rfl⟩, Ex.refl G, w, ho', rfl⟩ e2⟩
theorem ok_l_draw {f : Addr} {fd : FuncData} (F : Fun K "_law_draw" "_law_draw" s_l_draw f fd) (T : Tx K mg w) : FnOk P w K mg base CX0 1 f fd ["_law_draws", "_law_size"] sp_draw := by
  refine F.ok sc_l_draw (fun vs H Q E h => ?_) (fun cdv A outer s H vs Q E hr h => ?_)
  · obtain ⟨G, d, l, o, n, rfl, _⟩ := h; rfl
  · obtain ⟨G, d, l, o, n, rfl, eH, ho, dw, h0, hn, k⟩ := h
    refine ⟨_, (Evl.pss_cut (ps_if (pt_cmpR op_eq (pe_ix ix_list (pv 0) pe_int (fun _ _ => rfl)) pe_int (nomark _))
            (pss_cons (ps_if (pt_cmpR op_lt (pe_ix ix_list (pv 0) pe_int (fun _ _ => rfl)) (pe_callB call_len_seq (by rfl) T.n_len b_len (pa_cons (pe_ix ix_list (pv 0) pe_int (fun _ _ => rfl)) pa_nil)) (nomark _))
              (pss_cons (ps_set (i := 2) sc_l_draw.nd rfl (Or.inl rfl) (pe_ix ix_list (pe_ix ix_list (pv 0) pe_int (fun _ _ => rfl)) (pe_ix ix_list (pv 0) pe_int (fun _ _ => rfl)) (fun _ _ => rfl)))
              (pss_cons (ps_asg (pe_op op_add (pe_ix ix_list (pv 0) pe_int (fun _ _ => rfl)) pe_int) (pg_sub (pv 0) pe_int set_list))
              (pss_cons (ps_if (pt_cmpR op_ge (pv 2) (pe_op op_pow pe_int pe_int) (nomark _))
                (pss_cons (ps_asg (pv 2) (pg_sub (pv 0) pe_int set_list))
                pss_nil)
                (pss_cons (ps_asg (pe_op op_mod (pe_callTy call_int1 (by rfl) T.n_int b_int (pa_cons (pe_op op_add (pe_op op_add (pe_op op_mul (pe_ix ix_list (pv 0) pe_int (fun _ _ => rfl)) pe_int) (pe_op op_mul (pv 2) pe_int)) pe_int) pa_nil)) pe_int) (pg_sub (pv 0) pe_int set_list))
                pss_nil))
              pss_nil)))
              (pss_cons (ps_asg (pe_op op_mod (pe_callTy call_int1 (by rfl) T.n_int b_int (pa_cons (pe_op op_add (pe_op op_mul (pe_ix ix_list (pv 0) pe_int (fun _ _ => rfl)) pe_int) pe_int) pa_nil)) pe_int) (pg_sub (pv 0) pe_int set_list))
              pss_nil))
            pss_nil)
            pss_nil)
          (pss_cons (ps_if (pt_cmpR op_gt (pe_ix ix_list (pv 0) pe_int (fun _ _ => rfl)) pe_int (nomark _))
            (pss_cons (ps_set (i := 3) sc_l_draw.nd rfl (Or.inl rfl) (pe_op op_mod (pe_callTy call_int1 (by rfl) T.n_int b_int (pa_cons (pe_ix ix_list (pv 0) pe_int (fun _ _ => rfl)) pa_nil)) (pv 1)))
            (pss_cons (ps_asg (pe_op op_fdiv (pe_ix ix_list (pv 0) pe_int (fun _ _ => rfl)) (pv 1)) (pg_sub (pv 0) pe_int set_list))
            (pss_cons (ps_ret (pv 3))
            pss_nil)))
            pss_nil)
          (pss_cons (ps_ret (pe_op op_mod (pe_op op_mod (pe_callTy call_int1 (by rfl) T.n_int b_int (pa_cons (pe_op op_mul (pe_ix ix_list (pv 0) pe_int (fun _ _ => rfl)) pe_int) pa_nil)) pe_int) (pv 1)))
          pss_nil))), Run.start (σ := [some (.ref d), some (.int n), none, none]) rfl (Run.mono eH ?_)⟩
    have at0 : ∀ {σ : L2.St} {G : Hp} {i c s : Int} {x : V} {m : Int}, σ[0]? = some (some (.ref d)) → atI [V.ref l, .int i, .int c, .int s] m = some x → Ev (tOp (rIxL K) (tVar 0) (tC (.int m))) σ (upd G d (.lst [V.ref l, .int i, .int c, .int s])) x := fun h ha => ev_op (ev_var h) ev_c (rv_ixL (sq_of upd_same) ha)
    refine run_cut (fun σ' H' => ∃ o' v, Dro l o' ∧ H' = upd G d o' ∧ σ' = [some (.ref d), some (.int n), v, none]) ?_ ?_
    · obtain ⟨i, c, s, hi, hc, rfl⟩ := ho
      refine run_ifO (et_test (ev_op (at0 rfl rfl) ev_c (rv_eq rfl))) (fun hb => ?_) (fun hb => ?_)
      · have hc0 : c = 0 := by have := of_decide_eq_true hb; injection this
        subst hc0
        obtain ⟨ns, hl, hz⟩ := dw.lst
        have hld : l ≠ d := fun e => by subst e; rw [dw.free] at hl; cases hl
        have hl' : ∀ o, (upd G d o) l = some (.lst (ns.map V.int)) := fun o => by rw [upd_ne hld]; exact hl
        refine run_if (et_test (ev_op (at0 rfl rfl) (ev_lenL (at0 rfl rfl) (sq_of (hl' _))) rv_I0)) (fun hb => ?_) (fun hb => ?_)
        · have hb := of_decide_eq_true hb
          rw [List.length_map] at hb
          have hlt : i.toNat < ns.length := by omega
          refine run_asg (v := .int ns[i.toNat]) (ev_op (at0 rfl rfl) (at0 rfl rfl) (rv_ixL (sq_of (hl' _)) (at_int _ hi ?_))) ?_
          · rw [List.getElem?_map, List.getElem?_eq_getElem hlt]; rfl
          generalize ns[i.toNat] = cell
          refine run_setL (k := 1) (ev_op (at0 rfl rfl) ev_c rv_I0) (ev_var rfl) ev_c (by show 1 < 4; decide) ?_
          refine run_if (et_test (ev_op (ev_var rfl) (ev_op ev_c ev_c (rv_I ⟨by decide, by decide, by decide⟩)) rv_I0)) (fun hb => ?_) (fun hb => ?_)
          · have hb := of_decide_eq_true hb
            refine run_setL (k := 2) (ev_var rfl) (ev_var rfl) ev_c (by show 2 < 4; decide) ?_
            have : (0 : Int) ≤ 10 ^ (18 : Int).toNat := by decide
            exact run_end (run_end (run_up rfl ⟨_, _, ⟨i + 1, cell, s, by omega, by omega, rfl⟩, rfl, rfl⟩))
          · refine run_setL (k := 3) (ev_op (ev_intI (ev_op (ev_op (ev_op (at0 rfl rfl) ev_c (rv_I (.inr ⟨by decide, by decide⟩))) (ev_op (ev_var rfl) ev_c (rv_I (.inr ⟨by decide, by decide⟩))) rv_I0) ev_c rv_I0)) ev_c (rv_I (by decide))) (ev_var rfl) ev_c (by show 3 < 4; decide) ?_
            exact run_end (run_end (run_up rfl ⟨_, _, ⟨i + 1, 0, _, by omega, by omega, rfl⟩, rfl, rfl⟩))
        · refine run_setL (k := 3) (ev_op (ev_intI (ev_op (ev_op (at0 rfl rfl) ev_c (rv_I (.inr ⟨by decide, by decide⟩))) ev_c rv_I0)) ev_c (rv_I (by decide))) (ev_var rfl) ev_c (by show 3 < 4; decide) ?_
          exact run_end (run_up rfl ⟨_, _, ⟨i, 0, _, hi, by decide, rfl⟩, rfl, rfl⟩)
      · exact run_up rfl ⟨_, _, ⟨i, c, s, hi, hc, rfl⟩, rfl, rfl⟩
    · rintro σ' H' ⟨o', v, ⟨i, c, s, hi, hc, rfl⟩, rfl, rfl⟩
      refine run_if (et_test (ev_op (at0 rfl rfl) ev_c rv_I0)) (fun hb => ?_) (fun hb => ?_)
      · refine run_asg (ev_op (ev_intI (at0 rfl rfl)) (ev_var rfl) (rv_I h0)) ?_
        refine run_setL (k := 2) (ev_op (at0 rfl rfl) (ev_var rfl) (rv_I ⟨h0, by omega⟩)) (ev_var rfl) ev_c (by show 2 < 4; decide) ?_
        refine run_ret (ev_var rfl) fun H2 e2 => k _ _ H2 (Int.emod_nonneg _ (by omega)) (Int.emod_lt_of_pos _ h0) ⟨i, c / n, s, hi, Int.ediv_nonneg hc (by omega), rfl⟩ e2
      · refine run_end ?_
        refine run_ret (ev_op (ev_op (ev_intI (ev_op (at0 rfl rfl) ev_c (rv_I (.inr ⟨by decide, by decide⟩)))) ev_c (rv_I (by decide))) (ev_var rfl) (rv_I h0)) fun H2 e2 => k _ _ H2 (Int.emod_nonneg _ (by omega)) (Int.emod_lt_of_pos _ h0) ⟨i, c, s, hi, hc, rfl⟩ e2
/-! _law_steps -/
theorem sc_l_steps : FnScope ["_law_draws", "_law_least", "_law_most", "_law_size", "_law_k"] ["_law_draws", "_law_least", "_law_most"] (defScope s_l_steps) := ⟨rfl, rfl, rfl, by decide +kernel, rfl, by decide +kernel, by decide +kernel⟩
def IsTxt (lo hi : Nat) (v : V) : Prop := ∃ m, v = .str (S m) ∧ Stp m ∧ lo ≤ m.length ∧ m.length ≤ hi
def sp_steps : Sp := spDR (fun (x : Nat × Nat) d => [.ref d, .int (x.1 : Int), .int (x.2 : Int)]) (fun x _ => x.1 ≤ x.2 ∧ x.2 ≤ 100) (fun x G v G' => IsTxt x.1 x.2 v ∧ G' = G)
theorem use_steps {G : Hp} {d l : Addr} (lo hi : Nat) (w : Dw G d l) (h : lo ≤ hi) (h2 : hi ≤ 100) : SpD sp_steps [.ref d, .int (lo : Int), .int (hi : Int)] G d l (fun v G' => IsTxt lo hi v ∧ G' = G) := use_DR (lo, hi) w ⟨h, h2⟩
theorem ok_l_steps {f : Addr} {fd : FuncData} (F : Fun K "_law_steps" "_law_steps" s_l_steps f fd) (T : Tx K mg w) (c_l_draw : Cal P w K mg base CX0 1 "_law_draw" sp_draw) : FnOk P w K mg base CX0 2 f fd ["_law_draws", "_law_least", "_law_most"] sp_steps := by
  refine F.ok sc_l_steps (fun vs H Q E h => ?_) (fun cdv A outer s H vs Q E hr h => ?_)
  · obtain ⟨⟨lo, hi⟩, G, d, l, o, rfl, _⟩ := h; rfl
  · obtain ⟨⟨lo, hi⟩, G, d, l, o, rfl, ⟨h1, h2⟩, eH, ho, dw, k⟩ := h
    refine ⟨_, (pss_cons (ps_set (i := 3) sc_l_steps.nd rfl (Or.inl rfl) (pe_op op_add (pv 1) (pe_cx c_l_draw hr (by decide) (by rfl) pass0 (pa_cons (pv 0) (pa_cons (pe_op op_sub (pe_op op_add (pv 2) pe_int) (pv 1)) pa_nil)))))
          (pss_cons (ps_ret (pe_join pe_str (pe_lc (own := [("_law_k", 4)]) (g := gName 4) rfl sc_l_steps.nd (pi_range1 rfl T.n_range (pa_cons (pv 3) pa_nil)) (blkOk_by (own := [("_law_k", 4)]) (N := ["_law_draws", "_law_least", "_law_most", "_law_size", "_law_k"]) (sc := defScope s_l_steps) (by decide +kernel)) (fun _ _ _ _ _ => pg_name (i := 4) sc_l_steps.nd rfl (Or.inl rfl)) (fun _ _ _ _ _ => pts_nil) (fun _ _ _ _ _ => (pe_ix ix_str pe_str (pe_cx c_l_draw hr (by decide) (by rfl) pass0 (pa_cons (pv 0) (pa_cons pe_int pa_nil))) (fun _ _ => rfl))))))
          pss_nil)), Run.start (σ := [some (.ref d), some (.int (lo : Int)), some (.int (hi : Int)), none, none]) rfl (RD.run eH ho ?_)⟩
    have h1 : lo ≤ hi := h1
    have h2 : hi ≤ 100 := h2
    refine rd_asg (R := fun v G' => ∃ n : Nat, v = .int (n : Int) ∧ lo ≤ n ∧ n ≤ hi ∧ G' = G) (ed_opR dw (ev_var rfl) (ed_callP dw (ea2 (ev_var rfl) (ev_op (ev_op (ev_var rfl) ev_c rv_I0) (ev_var rfl) rv_I0)) (use_draw dw (by omega) (by omega))) ?_) ?_
    · rintro y G2 ⟨i, rfl, hi2, rfl⟩ _ _
      exact ⟨_, rv_I0, lo + i, by rw [Int.natCast_add], by omega, by omega, rfl⟩
    · rintro v G' ⟨n, rfl, n1, n2, rfl⟩ _ dw'
      refine rd_ret (R := fun v G2 => ∃ z, v = .str z ∧ (∃ m, z = S m ∧ Stp m ∧ m.length = n) ∧ G2 = G') (ed_join (s := "") (n := n) (C := fun v => ∃ c, v = .str (S [c]) ∧ isStep c = true) dw (fun _ => ev_c) ?_ ?_) ?_
      · refine (ed_lc (n := (n : Int)) dw (ea1 (ev_var rfl)) (by omega) (by omega) (by omega) (fun x => rfl) ?_)
        intro i G1 hi2 e1 w1
        refine ed_opR w1 ev_c (ed_callP w1 (ea2 (ev_var rfl) ev_c) (use_draw w1 (by decide) (by decide))) ?_
        rintro y G2 ⟨j, rfl, hj, rfl⟩ _ _
        have : j = 0 ∨ j = 1 ∨ j = 2 := by omega
        rcases this with rfl | rfl | rfl
        · exact ⟨_, rv_ixS' (by decide +kernel) (by decide +kernel), ⟨102, rfl, rfl⟩, rfl⟩
        · exact ⟨_, rv_ixS' (by decide +kernel) (by decide +kernel), ⟨98, rfl, rfl⟩, rfl⟩
        · exact ⟨_, rv_ixS' (by decide +kernel) (by decide +kernel), ⟨115, rfl, rfl⟩, rfl⟩
      · intro xs hl hx
        have hm : ∃ m : List Nat, xs = m.map (fun c => V.str (S [c])) ∧ Stp m := by
          clear hl
          induction xs with
          | nil => exact ⟨[], rfl, rfl⟩
          | cons x xs ih =>
            obtain ⟨m, e, hs⟩ := ih fun x hx' => hx x (List.mem_cons_of_mem _ hx')
            obtain ⟨c, e2, hc⟩ := hx x List.mem_cons_self
            refine ⟨c :: m, by rw [e, e2]; rfl, ?_⟩
            unfold Stp
            rw [List.all_cons, hc]
            exact hs
        obtain ⟨m, rfl, hs⟩ := hm
        have hl : m.length = n := by rw [List.length_map] at hl; exact hl
        refine ⟨m.map fun c => S [c], by rw [List.map_map]; rfl, ?_, m, ?_, hs, hl⟩
        · rw [List.map_map, List.length_map, show ("" : Str).length = 0 from rfl, Nat.mul_zero, Nat.add_zero]
          have : ((·.length) ∘ fun c => S [c]) = fun _ : Nat => 1 := by funext c; rfl
          rw [this, List.map_const', List.sum_replicate_nat]
          omega
        · rw [show ("" : Str) = S [] from rfl]
          exact join_signs m
      · rintro v G2 ⟨z, rfl, ⟨m, rfl, hs, hl⟩, rfl⟩ e3 w3 o3 ho3 H2 e4
        exact k _ _ o3 H2 ⟨⟨m, rfl, hs, by show lo ≤ _; omega, by show _ ≤ hi; omega⟩, rfl⟩ (Ex.refl _) w3 ho3 e4
/-- parts drawn -/
theorem eda_parts {σ : L2.St} {G : Hp} {d l : Addr} {i : Nat} {E E' : XK} (a b a' b' : Nat) (dw : Dw G d l) (hv : σ[i]? = some (some (.ref d))) (h1 : a ≤ b) (h2 : b ≤ 6) (h3 : a' ≤ b') (h4 : b' ≤ 6) (h5 : 0 < a') :
    EDA (tCons (tCall sp_steps [] E (tCons (tVar i) (tCons (tC (.int (a : Int))) (tCons (tC (.int (b : Int))) tNil)))) (tCons (tCall sp_steps [] E' (tCons (tVar i) (tCons (tC (.int (a' : Int))) (tCons (tC (.int (b' : Int))) tNil)))) tNil)) σ G d l
      (fun vs G' => ∃ p, vs = [.str (S p.h), .str (S p.r)] ∧ POk p ∧ p.h.length ≤ b ∧ p.r.length ≤ b' ∧ G' = G) := by
  refine eda_cons (ed_callP dw (ea3 (ev_var hv) ev_c ev_c) (use_steps a b dw h1 (by omega))) (T := fun v vs G' => G' = G ∧ ∃ w, vs = [w] ∧ IsTxt a' b' w) (fun v G1 ⟨hv1, e1⟩ _ w1 => ?_) ?_
  · subst e1
    refine eda_cons (T := fun _ vs G' => vs = [] ∧ G' = G1) (ed_callP w1 (ea3 (ev_var hv) ev_c ev_c) (use_steps a' b' w1 h3 (by omega))) (fun v2 G2 ⟨hv2, e2⟩ _ w2 => by subst e2; exact eda_nil w2) ?_
    · rintro v2 G2 ws G3 ⟨hv2, rfl⟩ ⟨rfl, rfl⟩ _
      exact ⟨rfl, v2, rfl, hv2⟩
  · rintro v G1 ws G2 ⟨⟨m, rfl, s1, l1, l2⟩, rfl⟩ ⟨rfl, _, rfl, m', rfl, s2, l3, l4⟩ _
    exact ⟨⟨m, m'⟩, rfl, ⟨⟨by show m.length ≤ 6; omega, by show 0 < m'.length; omega, by show m'.length ≤ 6; omega⟩, s1, s2⟩, l2, l4, rfl⟩
/-- a new list of parts -/
def NewParts (p : Pl) (G : Hp) (d : Addr) (v : V) (G' : Hp) : Prop := ∃ a, v = .ref a ∧ G a = none ∧ a ≠ d ∧ G' = upd G a (.lst [.str (S p.h), .str (S p.r)])
theorem NewParts.at {K : PySem.W.Frag} {p : Pl} {G G' : Hp} {d : Addr} {v : V} (h : NewParts p G d v G') : ∃ a, v = .ref a ∧ PartsAt K G' a p ∧ Ex G G' := by
  obtain ⟨a, rfl, h1, h2, rfl⟩ := h
  exact ⟨a, rfl, sq_of upd_same, ex_upd h1⟩
theorem ed_parts {σ : L2.St} {G : Hp} {d l : Addr} {i : Nat} {E E' : XK} (a b a' b' : Nat) (dw : Dw G d l) (hv : σ[i]? = some (some (.ref d))) (h1 : a ≤ b) (h2 : b ≤ 6) (h3 : a' ≤ b') (h4 : b' ≤ 6) (h5 : 0 < a') :
    ED (tLst (tCons (tCall sp_steps [] E (tCons (tVar i) (tCons (tC (.int (a : Int))) (tCons (tC (.int (b : Int))) tNil)))) (tCons (tCall sp_steps [] E' (tCons (tVar i) (tCons (tC (.int (a' : Int))) (tCons (tC (.int (b' : Int))) tNil)))) tNil))) σ G d l
      (fun v G' => ∃ p, NewParts p G d v G' ∧ POk p ∧ p.h.length ≤ b ∧ p.r.length ≤ b') := by
  refine (ed_lst (eda_parts a b a' b' dw hv h1 h2 h3 h4 h5) ?_).imp ?_
  · rintro vs G' ⟨p, rfl, _⟩; show 2 ≤ 1000; decide
  · rintro v G' ⟨q, vs, G1, rfl, ⟨p, rfl, ok, l1, l2, rfl⟩, _, hq, hqd, rfl⟩
    exact ⟨p, ⟨q, rfl, hq, hqd, rfl⟩, ok, l1, l2⟩
theorem sp32 {l : List Nat} (h : Stp l) : 32 ∉ l := fun hc => by rcases h.mem hc with h | h | h <;> cases h
/-! _law_bad -/
theorem sc_l_bad : FnScope ["_law_text", "_law_told"] ["_law_text"] (defScope s_l_bad) := ⟨rfl, rfl, rfl, by decide +kernel, rfl, by decide +kernel, by decide +kernel⟩
def sp_bad : Sp := fun vs H Q _ => ∃ z, vs = [.str (S z)] ∧ z.length ≤ 500 ∧ RetV (.bl (!goodL z)) H Q
theorem use_bad {z : List Nat} {H : Hp} (hz : z.length ≤ 500) : SpV sp_bad [.str (S z)] H (.bl (!goodL z)) := fun H1 e Q q E => ⟨z, rfl, hz, fun H2 e2 => q H2 e2⟩
theorem ok_l_bad {f : Addr} {fd : FuncData} (F : Fun K "_law_bad" "_law_bad" s_l_bad f fd) (T : Tx K mg w) (c_read : Cal P w K mg base (L2.CX P w) 4 "read" (sp_read T)) : FnOk P w K mg base CX0 5 f fd ["_law_text"] sp_bad := by
  refine F.ok sc_l_bad (fun vs H Q E h => ?_) (fun cdv A outer s H vs Q E hr h => ?_)
  · obtain ⟨z, rfl, _⟩ := h; rfl
  · obtain ⟨z, rfl, hz, k⟩ := h
    refine ⟨_, (pss_cons (ps_set (i := 1) sc_l_bad.nd rfl (Or.inl rfl) pe_bl)
          (pss_cons (ps_try_only (tb := fun W => tSeq (tDrop (tCallS (sp_read T) (WE W) (tCons (tVar 0) tNil))) tNext) (ts := fun _ _ _ => tSeq (tAsg (tC (.bl true)) (gName 1)) tNext) rfl rfl ⟨rfl, by decide, Or.inl T.gBadText⟩ takes0
            (fun W pn xe tk _ => (pss_cons (ps_expr (pe_cxS c_read hr (by decide) (by rfl) (fun σ => passAt tk σ) (pa_cons (pv 0) pa_nil)))
              pss_nil))
            (fun a oe cls d pn hz hf => (pss_cons (ps_set (i := 1) sc_l_bad.nd rfl (Or.inl rfl) pe_bl)
              pss_nil)))
          (pss_cons (ps_ret (pv 1))
          pss_nil))), Run.start (σ := [some (.str (S z)), none]) rfl ?_⟩
    have fin : ∀ b, b = (!goodL z) → Run (tSeq (tRet (tVar 1)) tNext) { nx := fun _ H' => Q .non H', rt := Q } [some (.str (S z)), some (.bl b)] H := fun b e => run_ret (ev_var rfl) fun H2 e2 => by subst e; exact k H2 e2
    refine run_asg ev_c ?_
    refine run_tryB fun H1 e1 => run_dropS (ea1 (ev_var rfl)) (fun H1 e1 => ?_) H1 e1
    cases hr : readL rdA rdB z with
    | some p => exact ⟨z, rfl, by omega, .inl ⟨p, hr, fun x dx hx H2 e2 => fin false (by unfold goodL; rw [hr]; rfl) H2 (e1.trans ((ex_upd hx).trans e2))⟩⟩
    | none =>
      refine ⟨z, rfl, by omega, .inr ⟨hr, fun H2 e2 => ⟨true, T.mBadText, fun _ a ha => ?_, fun h => nomatch h⟩⟩⟩
      refine (run_asg ev_c (run_end (D := { nx := fun _ H' => Q .non H', rt := Q }) (fin true ?_)) : Run (tSeq (tAsg (tC (.bl true)) (gName 1)) tNext) _ [some (.str (S z)), some (.bl false)] H) H2 (e1.trans e2)
      unfold goodL; rw [hr]; rfl
/-! _law_good -/
theorem sc_l_good : FnScope ["_law_text", "_law_words", "_law_head", "_law_word", "_law_ring", "_law_steps_here", "_law_step"] ["_law_text"] (defScope s_l_good) := ⟨rfl, rfl, rfl, by decide +kernel, rfl, by decide +kernel, by decide +kernel⟩
theorem fbsS : ("fbs" : Str) = S [102, 98, 115] := by decide +kernel
def sp_good : Sp := fun vs H Q _ => ∃ z, vs = [.str (S z)] ∧ z.length ≤ 500 ∧ RetV (.bl (goodL z)) H Q
theorem use_good {z : List Nat} {H : Hp} (hz : z.length ≤ 500) : SpV sp_good [.str (S z)] H (.bl (goodL z)) := fun H1 e Q q E => ⟨z, rfl, hz, fun H2 e2 => q H2 e2⟩
theorem good3 (h a b : List Nat) : (rd3 rdA rdB [h, a, b]).isSome = (decide (a = thenL) && (decide (((h ++ b).filter fun c => !isStep c).length = 0) && (decide (h.length ≤ 6) && (decide (1 ≤ b.length) && decide (b.length ≤ 6))))) := by
  have e1 : rdA h = (decide (h.length ≤ 6) && h.all isStep) := by
    unfold rdA areB
    rw [decide_eq_true (Int.natCast_nonneg _), Bool.true_and]
    congr 1
    exact decide_eq_decide.mpr (by omega)
  have e2 : rdB b = ((decide (1 ≤ b.length) && decide (b.length ≤ 6)) && b.all isStep) := by
    unfold rdB areB
    congr 2
    · exact decide_eq_decide.mpr (by omega)
    · exact decide_eq_decide.mpr (by omega)
  have e3 : decide (((h ++ b).filter fun c => !isStep c).length = 0) = (h.all isStep && b.all isStep) := by
    rw [← List.all_append]
    generalize h ++ b = l
    induction l with
    | nil => rfl
    | cons c l ih =>
      rw [List.filter_cons, List.all_cons]
      cases hc : isStep c with
      | true => simpa using ih
      | false => simp
  rw [e3]
  simp only [rd3]
  by_cases c1 : a = thenL
  · rw [decide_eq_true c1, e1, e2]
    cases decide (h.length ≤ 6) <;> cases h.all isStep <;> cases decide (1 ≤ b.length) <;> cases decide (b.length ≤ 6) <;> cases b.all isStep <;> simp [c1]
  · rw [decide_eq_false c1]; simp [c1]
theorem ok_l_good {f : Addr} {fd : FuncData} (F : Fun K "_law_good" "_law_good" s_l_good f fd) (T : Tx K mg w) : FnOk P w K mg base CX0 1 f fd ["_law_text"] sp_good := by
  refine F.ok sc_l_good (fun vs H Q E h => ?_) (fun cdv A outer s H vs Q E hr h => ?_)
  · obtain ⟨z, rfl, _⟩ := h; rfl
  · obtain ⟨z, rfl, hz, k⟩ := h
    refine ⟨_, (pss_cons (ps_set (i := 1) sc_l_good.nd rfl (Or.inl rfl) (pe_split (pv 0) pe_str))
          (Evl.pss_cut (ps_if (pt_cmpR op_eq (pe_callB call_len_seq (by rfl) T.n_len b_len (pa_cons (pv 1) pa_nil)) pe_int (nomark _))
            (pss_cons (ps_par3 (i := 2) (j := 3) (l := 4) rfl sc_l_good.nd rfl rfl rfl (by decide) (by decide) (by decide) rfl rfl rfl (pa_cons pe_str (pa_cons (pe_ix ix_list (pv 1) pe_int (fun _ _ => rfl)) (pa_cons (pe_ix ix_list (pv 1) pe_int (fun _ _ => rfl)) pa_nil))) rfl)
            pss_nil)
            (pss_cons (ps_if (PW.pt (pw_and (pt_cmpR op_eq (pe_callB call_len_seq (by rfl) T.n_len b_len (pa_cons (pv 1) pa_nil)) pe_int (nomark _)) (pw_and1 (pt_cmpR op_ne (pe_ix ix_list (pv 1) pe_int (fun _ _ => rfl)) pe_str (nomark _)))))
              (pss_cons (ps_asg (pv 1) (pg_lst rfl (pgs_cons (pg_name (i := 2) sc_l_good.nd rfl (Or.inl rfl)) (pgs_cons (pg_name (i := 3) sc_l_good.nd rfl (Or.inl rfl)) (pgs_cons (pg_name (i := 4) sc_l_good.nd rfl (Or.inl rfl)) pgs_nil)))))
              pss_nil)
              (pss_cons (ps_ret pe_bl)
              pss_nil))
            pss_nil))
          (pss_cons (ps_setLc (i := 5) (own := [("_law_step", 6)]) (g := gName 6) rfl sc_l_good.nd rfl rfl (sw_true rfl rfl rfl (by decide +kernel)) (pi_str (pe_op op_addS (pv 2) (pv 4))) (blkOk_by (own := [("_law_step", 6)]) (N := ["_law_text", "_law_words", "_law_head", "_law_word", "_law_ring", "_law_steps_here", "_law_step"]) (sc := defScope s_l_good) (by decide +kernel)) (fun _ _ _ _ _ => pg_name (i := 6) sc_l_good.nd rfl (Or.inl rfl)) (fun _ _ _ _ _ => pts_one (pt_cmpR op_notInS (pv 6) pe_str rfl)) (fun _ _ _ _ _ => (pv 6)))
          (pss_cons (ps_ret (pe_and (pe_cmpR op_eq (pv 3) pe_str (nomark _)) (pe_and (pe_cmpR op_eq (pe_callB call_len_seq (by rfl) T.n_len b_len (pa_cons (pv 5) pa_nil)) pe_int (nomark _)) (pe_and (pe_cmpR op_le (pe_callB call_len_str (by rfl) T.n_len b_len (pa_cons (pv 2) pa_nil)) pe_int (nomark _)) (pe_one (pe_chain op_le op_le pe_int (pe_callB call_len_str (by rfl) T.n_len b_len (pa_cons (pv 4) pa_nil)) pe_int))))))
          pss_nil)))), Run.start (σ := [some (.str (S z)), none, none, none, none, none, none]) rfl ?_⟩
    refine run_asgL (el_split (ev_var rfl) ev_c blankT (by omega)) fun p hp => ?_
    have hlen : ∀ w ∈ wds [] z, w.length ≤ 500 := fun w hw => by
      have := wds_len z [] w hw
      rw [List.length_nil] at this
      omega
    have hgood : goodL z = (rdW rdA rdB (wds [] z)).isSome := rfl
    generalize wds [] z = ws at *
    have hq : SqL K (upd H p (.lst (wsV ws))) p (wsV ws) := sq_of upd_same
    have el : (wsV ws).length = ws.length := by unfold wsV; rw [List.length_map]
    have k' : ∀ b, b = goodL z → ∀ H2, Ex (upd H p (.lst (wsV ws))) H2 → Q (.bl b) H2 := fun b e H2 e2 => by subst e; exact k H2 ((ex_upd hp).trans e2)
    refine run_cut (fun σ' H' => ∃ h a b, σ' = [some (.str (S z)), some (.ref p), some (.str (S h)), some (.str (S a)), some (.str (S b)), none, none] ∧ upd H p (.lst (wsV ws)) = H' ∧ h.length ≤ 500 ∧ b.length ≤ 500 ∧ goodL z = (rd3 rdA rdB [h, a, b]).isSome) ?_ ?_
    · refine run_ifO (et_test (ev_op (ev_lenL (ev_var rfl) hq) ev_c (rv_eq rfl))) (fun hb => ?_) (fun hb => ?_)
      · have hb := of_decide_eq_true hb
        have hb2 : ws.length = 2 := by injection hb with hb; omega
        obtain ⟨a, b, rfl⟩ : ∃ a b, ws = [a, b] := by
          match ws, hb2 with
          | [a, b], _ => exact ⟨a, b, rfl⟩
        refine run_par3 (ea3 ev_c (ev_op (ev_var rfl) ev_c (rv_ixL hq rfl)) (ev_op (ev_var rfl) ev_c (rv_ixL hq rfl))) ?_
        refine run_up rfl ⟨[], a, b, rfl, rfl, by decide, hlen b (by simp), ?_⟩
        rw [hgood]; unfold rdW; rw [if_pos hb2]
      · have hb := of_decide_eq_false hb
        have hb2 : ¬ ws.length = 2 := fun e => hb (by rw [el, e]; rfl)
        by_cases h3 : ws.length = 3
        · obtain ⟨h, a, b, rfl⟩ : ∃ h a b, ws = [h, a, b] := by
            match ws, h3 with
            | [h, a, b], _ => exact ⟨h, a, b, rfl⟩
          refine run_ifO (b := true && !decide (h = [])) (et_and (et_is (et_test (ev_op (ev_lenL (ev_var rfl) hq) ev_c (rv_eq rfl))) rfl) fun _ => et_is (et_test (ev_op (ev_op (ev_var rfl) ev_c (rv_ixL hq rfl)) ev_c (rv_ne rfl))) (by rw [noneT, S_dec])) (fun hb3 => ?_) (fun hb3 => ?_)
          · have hb4 : ¬ h = [] := fun e => by rw [decide_eq_true e] at hb3; cases hb3
            refine run_unl3V (ev_var rfl) hq ?_
            refine run_up rfl ⟨h, a, b, rfl, rfl, hlen h (by simp), hlen b (by simp), ?_⟩
            rw [hgood]; unfold rdW; rw [if_neg hb2, if_neg (by intro e; exact hb4 (Option.some.inj e))]
          · have hb4 : h = [] := of_decide_eq_true (by revert hb3; cases decide (h = []) <;> simp)
            refine run_ret ev_c (k' false ?_)
            rw [hgood]; unfold rdW; rw [if_neg hb2, hb4]; rfl
        · refine run_ifO (b := false) (et_is (et_and (a := false) (b := false) (et_is (et_test (ev_op (ev_lenL (ev_var rfl) hq) ev_c (rv_eq rfl))) (by rw [el, decide_eq_false (fun e => by injection e with e; omega)])) fun h => nomatch h) rfl) (fun hb => nomatch hb) (fun hb3 => ?_)
          refine run_ret ev_c (k' false ?_)
          rw [hgood]; unfold rdW; rw [if_neg hb2]
          split
          · rfl
          · match ws, h3 with
            | [], _ => rfl
            | [_], _ => rfl
            | [_, _], _ => rfl
            | [_, _, _], h => exact absurd rfl h
            | _ :: _ :: _ :: _ :: _, _ => rfl
    · rintro _ _ ⟨h, a, b, rfl, rfl, lh, lb, hg⟩
      refine run_asgL (xs := ((h ++ b).filter fun c => !isStep c).map fun c => V.str (S [c])) (el_lc (fun c => !isStep c) (fun c => V.str (S [c])) (g := fun c => V.str (S [c])) (l := h ++ b) ?_ ?_ (fun x => rfl) (fun c hc => ?_) (fun c hc _ => ev_var rfl)) fun q hq2 => ?_
      · rw [← S_signs, ← S_app]
        exact (ei_str (ev_op (ev_var rfl) (ev_var rfl) (rv_addS (by rw [S_len, S_len]; exact szl (by omega))))).toJ
      · rw [List.length_append]; exact szl (by omega)
      · refine et_is (et_test (ev_op (ev_var rfl) ev_c rv_ninS)) ?_
        rw [fbsS, S_cps]
        congr 1
        unfold isStep
        by_cases c1 : c = 102
        · subst c1; rfl
        · by_cases c2 : c = 98
          · subst c2; rfl
          · by_cases c3 : c = 115
            · subst c3; rfl
            · simp [c1, c2, c3]
      · have sq2 : SqL K (upd (upd H p (.lst (wsV ws))) q (.lst (((h ++ b).filter fun c => !isStep c).map fun c => V.str (S [c])))) q (((h ++ b).filter fun c => !isStep c).map fun c => V.str (S [c])) := sq_of upd_same
        refine run_ret (ev_andV (a := decide (a = thenL)) (ev_is (ev_op (ev_var rfl) ev_c (rv_eq rfl)) (by rw [thenT, S_dec])) fun _ => ev_andV (a := decide (((h ++ b).filter fun c => !isStep c).length = 0)) (ev_is (ev_op (ev_lenL (ev_var rfl) sq2) ev_c (rv_eq rfl)) ?_) fun _ => ev_andV (a := decide (h.length ≤ 6)) (ev_is (ev_op (ev_lenS (ev_var rfl) (S_szl (by omega))) ev_c rv_I0) ?_) fun _ =>
          ev_is (ev_chain (b := decide (1 ≤ b.length)) (c := decide (b.length ≤ 6)) ev_c (ev_lenS (ev_var rfl) (S_szl (by omega))) ?_ fun _ => ⟨ev_c, ?_⟩) rfl) ?_
        · rw [List.length_map]
          congr 1
          exact decide_eq_decide.mpr ⟨fun e => by injection e with e; omega, fun e => by rw [e]; rfl⟩
        · rw [S_len]; congr 1; exact decide_eq_decide.mpr (by omega)
        · have : decide ((1 : Int) ≤ ((S b).length : Int)) = decide (1 ≤ b.length) := by rw [S_len]; exact decide_eq_decide.mpr (by omega)
          rw [← this]
          exact rv_I0
        · have : decide (((S b).length : Int) ≤ 6) = decide (b.length ≤ 6) := by rw [S_len]; exact decide_eq_decide.mpr (by omega)
          rw [← this]
          exact rv_I0
        · intro H2 e2
          refine k' _ ?_ H2 ((ex_upd hq2).trans e2)
          rw [hg, good3]
/-! law -/
theorem sc_law : FnScope ["_law_script", "_law_draws", "_law_text", "_law_k", "_law_at", "_law_sign", "_law_spoilt", "_law_odd"] ["_law_script"] (defScope s_law) := ⟨rfl, rfl, rfl, by decide +kernel, rfl, by decide +kernel, by decide +kernel⟩
def signL : List (List Nat) := [[102], [115], [32], [120], [70], [], [116, 104, 101, 110]]
def oddL : List (List Nat) := [[], thenL, thenL ++ [32], 32 :: (thenL ++ [32, 102]), [102, 32] ++ thenL, [102, 32, 102], [102, 32] ++ thenL ++ [32, 102, 32, 102], thenL ++ [32, 102, 32] ++ thenL ++ [32, 102], [102, 102, 102, 102, 102, 102, 102, 32] ++ thenL ++ [32, 102], thenL ++ [32, 32, 102]]
theorem signE : [V.str "f", .str "s", .str " ", .str "x", .str "F", .str "", .str "then"] = wsV signL := by
  have : [("f" : Str), "s", " ", "x", "F", "", "then"] = signL.map S := by decide +kernel
  refine (congrArg (fun l => l.map V.str) this).trans ?_
  show List.map _ (List.map _ _) = List.map _ _
  rw [List.map_map]; rfl
theorem oddE : [V.str "", .str "then", .str "then ", .str " then f", .str "f then", .str "f f", .str "f then f f", .str "then f then f", .str "fffffff then f", .str "then  f"] = wsV oddL := by
  have : [("" : Str), "then", "then ", " then f", "f then", "f f", "f then f f", "then f then f", "fffffff then f", "then  f"] = oddL.map S := by decide +kernel
  refine (congrArg (fun l => l.map V.str) this).trans ?_
  show List.map _ (List.map _ _) = List.map _ _
  rw [List.map_map]; rfl
theorem mem_wsV {v : V} {ws : List (List Nat)} (h : v ∈ wsV ws) : ∃ z ∈ ws, v = .str (S z) := by
  obtain ⟨z, hz, e⟩ := List.mem_map.mp h
  exact ⟨z, hz, e.symm⟩
theorem ok_law {f : Addr} {fd : FuncData} (F : Fun K "law" "law" s_law f fd) (T : Tx K mg w) (c_l_begin : Cal P w K mg base CX0 1 "_law_begin" (sp_begin K)) (c_l_draw : Cal P w K mg base CX0 1 "_law_draw" sp_draw) (c_l_steps : Cal P w K mg base CX0 2 "_law_steps" sp_steps) (c_l_good : Cal P w K mg base CX0 1 "_law_good" sp_good) (c_l_bad : Cal P w K mg base CX0 5 "_law_bad" sp_bad) :
    FnOk P w K mg base CX0 6 f fd ["_law_script"] (spLaw K) := by
  refine F.ok sc_law (fun vs H Q E h => ?_) (fun cdv A outer s H vs Q E hr h => ?_)
  · obtain ⟨a, ns, rfl, _⟩ := h; rfl
  · obtain ⟨a, ns, rfl, hs, hl, k⟩ := h
    refine ⟨_, (pss_cons (ps_set (i := 1) sc_law.nd rfl (Or.inl rfl) (pe_cx c_l_begin hr (by decide) (by rfl) pass0 (pa_cons (pv 0) pa_nil)))
          (pss_cons (ps_set (i := 2) sc_law.nd rfl (Or.inl rfl) (pe_op op_addS pe_str (pe_cx c_l_steps hr (by decide) (by rfl) pass0 (pa_cons (pv 1) (pa_cons pe_int (pa_cons pe_int pa_nil))))))
          (Evl.pss_cut (ps_if (pt_cmpR op_eq (pe_cx c_l_draw hr (by decide) (by rfl) pass0 (pa_cons (pv 1) (pa_cons pe_int pa_nil))) pe_int (nomark _))
            (pss_cons (ps_set (i := 2) sc_law.nd rfl (Or.inl rfl) (pe_op op_addS (pe_op op_addS (pe_cx c_l_steps hr (by decide) (by rfl) pass0 (pa_cons (pv 1) (pa_cons pe_int (pa_cons pe_int pa_nil)))) pe_str) (pv 2)))
            pss_nil)
            pss_nil)
          (pss_cons (ps_for PassesOwn.never rfl (pi_range1 rfl T.n_range (pa_cons pe_int pa_nil)) (pg_name (i := 3) sc_law.nd rfl (Or.inl rfl))
            (pss_cons (ps_set (i := 4) sc_law.nd rfl (Or.inl rfl) (pe_cx c_l_draw hr (by decide) (by rfl) pass0 (pa_cons (pv 1) (pa_cons (pe_op op_add (pe_callB call_len_str (by rfl) T.n_len b_len (pa_cons (pv 2) pa_nil)) pe_int) pa_nil))))
            (pss_cons (ps_set (i := 5) sc_law.nd rfl (Or.inl rfl) (pe_ix ix_list (pe_lst (pa_cons pe_str (pa_cons pe_str (pa_cons pe_str (pa_cons pe_str (pa_cons pe_str (pa_cons pe_str (pa_cons pe_str pa_nil)))))))) (pe_cx c_l_draw hr (by decide) (by rfl) pass0 (pa_cons (pv 1) (pa_cons pe_int pa_nil))) (fun _ _ => rfl)))
            (pss_cons (ps_set (i := 6) sc_law.nd rfl (Or.inl rfl) (pe_op op_addS (pe_op op_addS (pe_slice sl_str (pv 2) po_none (po_some (pv 4))) (pv 5)) (pe_slice sl_str (pv 2) (po_some (pe_op op_add (pv 4) (pe_cx c_l_draw hr (by decide) (by rfl) pass0 (pa_cons (pv 1) (pa_cons pe_int pa_nil))))) po_none)))
            (pss_cons (ps_if (pt_cmpR op_ne (pe_cx c_l_bad hr (by decide) (by rfl) pass0 (pa_cons (pv 6) pa_nil)) (pe_not (pe_cx c_l_good hr (by decide) (by rfl) pass0 (pa_cons (pv 6) pa_nil))) (nomark _))
              (pss_cons (ps_ret pe_bl)
              pss_nil)
              pss_nil)
            pss_nil)))))
          (pss_cons (ps_set (i := 7) sc_law.nd rfl (Or.inl rfl) (pe_lst (pa_cons pe_str (pa_cons pe_str (pa_cons pe_str (pa_cons pe_str (pa_cons pe_str (pa_cons pe_str (pa_cons pe_str (pa_cons pe_str (pa_cons pe_str (pa_cons pe_str pa_nil))))))))))))
          (pss_cons (ps_ret (pe_cx c_l_bad hr (by decide) (by rfl) pass0 (pa_cons (pe_ix ix_list (pv 7) (pe_cx c_l_draw hr (by decide) (by rfl) pass0 (pa_cons (pv 1) (pa_cons (pe_callB call_len_seq (by rfl) T.n_len b_len (pa_cons (pv 7) pa_nil)) pa_nil))) (fun _ _ => rfl)) pa_nil)))
          pss_nil)))))), Run.start (σ := [some (.ref a), none, none, none, none, none, none, none]) rfl ?_⟩
    refine run_begin rfl hs hl fun d l G _ dw => ?_
    refine rd_asg (R := fun v G' => G' = G ∧ ∃ z, v = .str (S z) ∧ z.length ≤ 11) (ed_opR dw ev_c (ed_callP dw (ea3 (ev_var rfl) ev_c ev_c) (use_steps 1 6 dw (by decide) (by decide))) ?_) ?_
    · rintro y G2 ⟨⟨m, rfl, _, _, l2⟩, rfl⟩ _ _
      refine ⟨_, rv_addS ?_, rfl, thenL ++ [32] ++ m, ?_, ?_⟩
      · rw [thenS, S_len, S_len]; exact szl (by simp [thenL] <;> omega)
      · rw [thenS, S_app]
      · simp [thenL] <;> omega
    rintro v G1 ⟨rfl, z, rfl, lz⟩ _ _
    intro o ho
    refine run_cut (fun σ' H' => ∃ z o, σ' = [some (.ref a), some (.ref d), some (.str (S z)), none, none, none, none, none] ∧ z.length ≤ 18 ∧ Dro l o ∧ H' = upd G1 d o) ?_ ?_
    · refine (rd_ifEO (R := fun v G' => G' = G1 ∧ ∃ b, v = .bl b) (ed_opL (S := fun v G' => G' = G1 ∧ ∃ i : Nat, v = .int (i : Int)) ((ed_callP dw (ea2 (ev_var rfl) ev_c) (use_draw dw (by decide) (by decide))).imp ?_) (fun _ _ _ _ _ => ev_c) ?_) ?_ ?_ ?_ : RD _ _ _ G1 d l) o ho
      · rintro v G' ⟨i, rfl, _, rfl⟩; exact ⟨rfl, i, rfl⟩
      · rintro x G' ⟨rfl, i, rfl⟩ _ _; exact ⟨_, rv_eq rfl, rfl, _, rfl⟩
      · rintro v G' ⟨_, b, rfl⟩; exact ⟨b, rfl⟩
      · rintro G' ⟨rfl, _⟩ _ dw
        refine rd_asg (R := fun v G2 => G2 = G' ∧ ∃ z, v = .str (S z) ∧ z.length ≤ 18) (ed_opL (y := .str (S z)) (S := fun v G2 => G2 = G' ∧ ∃ z, v = .str (S z) ∧ z.length ≤ 7) (ed_opL (S := fun v G2 => G2 = G' ∧ ∃ z, v = .str (S z) ∧ z.length ≤ 6) ((ed_callP dw (ea3 (ev_var rfl) ev_c ev_c) (use_steps 1 6 dw (by decide) (by decide))).imp ?_) (fun _ _ _ _ _ => ev_c) ?_) (fun _ _ _ _ _ => ev_var rfl) ?_) ?_
        · rintro v G2 ⟨⟨m, rfl, _, _, l2⟩, rfl⟩; exact ⟨rfl, m, rfl, l2⟩
        · rintro x G2 ⟨rfl, m, rfl, l2⟩ _ _
          refine ⟨_, rv_addS ?_, rfl, m ++ [32], by rw [blankT, S_app], by simp <;> omega⟩
          rw [blankT, S_len, S_len]; exact szl (by simp <;> omega)
        · rintro x G2 ⟨rfl, m, rfl, l2⟩ _ _
          refine ⟨_, rv_addS ?_, rfl, m ++ z, by rw [S_app], by rw [List.length_append]; omega⟩
          rw [S_len, S_len]; exact szl (by omega)
        · rintro v G2 ⟨rfl, z, rfl, lz⟩ _ _
          exact rd_up rfl (Ex.refl _) fun o ho => ⟨z, o, rfl, lz, ho, rfl⟩
      · rintro G' ⟨rfl, _⟩ _ dw
        exact rd_up rfl (Ex.refl _) fun o ho => ⟨z, o, rfl, by omega, ho, rfl⟩
    rintro _ _ ⟨z, o, rfl, lz, ho, rfl⟩
    refine (rd_rng1 dw (ea1 ev_c) (by decide) (by decide) (fun i σ' => ∃ v3 v4 v5 v6, σ' = [some (.ref a), some (.ref d), some (.str (S z)), v3, v4, v5, v6, none]) ⟨none, none, none, none, rfl⟩ ?_ ?_ : RD _ _ _ G1 d l) o ho
    · rintro i σ' hi ⟨v3, v4, v5, v6, rfl⟩
      refine rd_asg (ed_callP dw (ea2 (ev_var rfl) (ev_op (ev_lenS (ev_var rfl) (S_szl (by omega))) ev_c rv_I0)) (use_draw dw (by omega) (by rw [S_len]; omega))) ?_
      rintro v G2 ⟨p, rfl, hp, rfl⟩ _ _
      rw [S_len] at hp
      refine rd_asg (ed_pick (n := 7) dw (el_lst (ea_cons ev_c (ea_cons ev_c (ea_cons ev_c (ea_cons ev_c (ea3 ev_c ev_c ev_c))))) (by show 7 ≤ 100000; decide)) rfl fun G1 e1 w1 => ed_callP w1 (ea2 (ev_var rfl) ev_c) (use_draw w1 (by decide) (by decide))) ?_
      intro v G3 hv e3 dw3
      rw [signE] at hv
      obtain ⟨sg, hsg, rfl⟩ := mem_wsV hv
      have lsg : sg.length ≤ 4 := by
        have : ∀ w ∈ signL, w.length ≤ 4 := by decide
        exact this sg hsg
      refine rd_asg (R := fun v G' => G' = G3 ∧ ∃ z, v = .str (S z) ∧ z.length ≤ 500) (ed_opR dw3 (ev_op (ev_slS (ev_var rfl) eo_none (eo_some (ev_var rfl)) (S_szl (by omega))) (ev_var rfl) (rv_addS ?_)) (ed_slLo (C := fun i => 0 ≤ i) dw3 (ev_var rfl) (ed_opR dw3 (ev_var rfl) (ed_callP dw3 (ea2 (ev_var rfl) ev_c) (use_draw dw3 (by decide) (by decide))) ?_) (S_szl (by omega))) ?_) ?_
      · rw [cut_take _ (by omega), S_len, S_len]; exact szl (by rw [List.length_take]; omega)
      · rintro y G' ⟨j, rfl, _, rfl⟩ _ _
        exact ⟨_, rv_I0, _, rfl, by omega, rfl⟩
      · rintro y G' ⟨j, rfl, hj, rfl⟩ _ _
        refine ⟨_, rv_addS ?_, rfl, z.take p ++ sg ++ z.drop j.toNat, ?_, ?_⟩
        · rw [cut_take _ (by omega), cut_drop _ hj, S_app, S_len, S_len]; exact szl (by simp only [List.length_append, List.length_take, List.length_drop]; omega)
        · rw [cut_take _ (by omega), cut_drop _ hj, S_app, S_app, Int.toNat_natCast]
        · simp only [List.length_append, List.length_take, List.length_drop]; omega
      rintro v G4 ⟨rfl, q, rfl, lq⟩ _ _
      refine rd_if (b := false) dw3 (et_is (et_test (ev_op (ev_call0 (ea1 (ev_var rfl)) (use_bad lq)) (ev_notV (ev_call0 (ea1 (ev_var rfl)) (use_good lq))) (rv_ne rfl))) (by simp)) (fun h => nomatch h) fun _ => ?_
      refine rd_end (rd_up rfl (e3) fun o ho => ⟨⟨_, _, _, _, rfl⟩, o, ho, rfl⟩)
    · rintro σ' ⟨v3, v4, v5, v6, rfl⟩
      refine rd_asg (ed_l (xs := wsV oddL) dw (by rw [← oddE]; exact el_lst (ea_cons ev_c (ea_cons ev_c (ea_cons ev_c (ea_cons ev_c (ea_cons ev_c (ea_cons ev_c (ea_cons ev_c (ea3 ev_c ev_c ev_c)))))))) (by show 10 ≤ 100000; decide))) ?_
      rintro v G2 ⟨q, rfl, hq, hqd, rfl⟩ e2 dw2
      have hx : ∀ o, SqL K (upd (upd G1 q (.lst (wsV oddL))) d o) q (wsV oddL) := fun o => sq_of (by rw [upd_ne hqd, upd_same])
      refine rd_ret (R := fun v _ => v = .bl true) (ed_callR (eda1 (ed_pickV (n := 10) (xs := wsV oddL) dw2 (ev_var rfl) upd_same rfl (ed_call (fun o _ => ea2 (ev_var rfl) (ev_is (w := .int 10) (ev_lenL (ev_var rfl) (hx o)) rfl)) (use_draw (n := 10) dw2 (by decide) (by decide))))) ?_) ?_
      · rintro vs G3 ⟨v, rfl, hv, rfl⟩ _ _
        obtain ⟨z, hz, rfl⟩ := mem_wsV hv
        have hb : ∀ z ∈ oddL, goodL z = false ∧ z.length ≤ 500 := by decide +kernel
        obtain ⟨h1, h2⟩ := hb z hz
        refine ⟨_, fun o _ => use_bad h2, ?_⟩
        rw [h1]; rfl
      · rintro v G3 rfl _ _ o _ H2 e2
        exact k H2
theorem all_mk {l : PySem.W.OpenLaw} {w : World} {K : PySem.W.Frag} {h : Heap} {mg : Str → Option Value} {fa : Addr} (X : K.In h) (G : h.Ns mainGlobals mg) (hfa : mg "law" = some (.ref fa))
    {aS cPlan cMeetError cBadPlan cBadText f_are_steps f_Plan_init f_read f_l_begin f_l_draw f_l_steps f_l_bad f_l_good f_law : Addr} {t1 t2 t3 u1 u2 u3 : Tok} {nS : Nat} {tM : Tok} {oc_are_steps kV_are_steps dc_are_steps pm_are_steps cd_are_steps ct_are_steps : Value} {od_are_steps an_are_steps : Option Addr} {sl_are_steps : Array (Option Value)} {oc_Plan_init kV_Plan_init dc_Plan_init pm_Plan_init cd_Plan_init ct_Plan_init : Value} {od_Plan_init an_Plan_init : Option Addr} {sl_Plan_init : Array (Option Value)} {oc_read kV_read dc_read pm_read cd_read ct_read : Value} {od_read an_read : Option Addr} {sl_read : Array (Option Value)} {oc_l_begin kV_l_begin dc_l_begin pm_l_begin cd_l_begin ct_l_begin : Value} {od_l_begin an_l_begin : Option Addr} {sl_l_begin : Array (Option Value)} {oc_l_draw kV_l_draw dc_l_draw pm_l_draw cd_l_draw ct_l_draw : Value} {od_l_draw an_l_draw : Option Addr} {sl_l_draw : Array (Option Value)} {oc_l_steps kV_l_steps dc_l_steps pm_l_steps cd_l_steps ct_l_steps : Value} {od_l_steps an_l_steps : Option Addr} {sl_l_steps : Array (Option Value)} {oc_l_bad kV_l_bad dc_l_bad pm_l_bad cd_l_bad ct_l_bad : Value} {od_l_bad an_l_bad : Option Addr} {sl_l_bad : Array (Option Value)} {oc_l_good kV_l_good dc_l_good pm_l_good cd_l_good ct_l_good : Value} {od_l_good an_l_good : Option Addr} {sl_l_good : Array (Option Value)} {oc_law kV_law dc_law pm_law cd_law ct_law : Value} {od_law an_law : Option Addr} {sl_law : Array (Option Value)}
    (z_isinstance : PySem.W.nsIn K mainGlobals "isinstance" = some none)
    (z_len : PySem.W.nsIn K mainGlobals "len" = some none)
    (z_all : PySem.W.nsIn K mainGlobals "all" = some none)
    (z_int : PySem.W.nsIn K mainGlobals "int" = some none)
    (z_str : PySem.W.nsIn K mainGlobals "str" = some none)
    (z_list : PySem.W.nsIn K mainGlobals "list" = some none)
    (z_range : PySem.W.nsIn K mainGlobals "range" = some none)
    (gS : PySem.W.nsIn K mainGlobals "STEPS" = some (some (.ref aS)))
    (lS : K.lookup aS = some ⟨.type "dict", none, .dict #[⟨PyData.keyHash w.params "f", .str "f" t1, .int 1 u1⟩, ⟨PyData.keyHash w.params "b", .str "b" t2, .int (-1) u2⟩, ⟨PyData.keyHash w.params "s", .str "s" t3, .int 0 u3⟩] nS, #[]⟩)
    (wS : (aS == sysModules) = false)
    (gM : PySem.W.nsIn K mainGlobals "MOST" = some (some (.int 6 tM)))
    (gPlan : PySem.W.nsIn K mainGlobals "Plan" = some (some (.ref cPlan)))
    (pgPlan : PySem.W.plainGet K cPlan Str.empty = true)
    (hdPlan : PySem.W.hasDictIn K cPlan = true)
    (poPlan : PySem.W.plainOver K cPlan = true)
    (saPlan : PySem.W.findIn K (.ref cPlan) "__setattr__" = some (some (.builtin "object.__setattr__")))
    (mkPlan : PySem.W.makesIn K cPlan = true)
    (kcPlan : PySem.W.keepIn K (.ref cPlan) = true)
    (nPlanhead : PySem.W.findIn K (.ref cPlan) "head" = some none)
    (nPlanring : PySem.W.findIn K (.ref cPlan) "ring" = some none)
    (isPlan : PySem.W.findIn K (.ref cPlan) "__class__" = some (some (.builtin "object.__class__")))
    (mrPlan : PySem.W.mroIn K cPlan (.type "object") = some true)
    (spc : PySem.W.specialIn K (.builtin "object.__class__") "__get__" = some (some (.builtin "getset_descriptor.__get__")))
    (tks : PySem.W.takesIn K (.builtin "object.__class__") = some true)
    (gMeetError : PySem.W.nsIn K mainGlobals "MeetError" = some (some (.ref cMeetError)))
    (xMeetError : PySem.W.excIn K cMeetError [.type "ValueError", .type "Exception", .type "BaseException", .type "object"] "ValueError.__new__" = true)
    (kMeetError : PySem.W.keepIn K (.ref cMeetError) = true)
    (bMeetError : PySem.W.subIn K (.ref cMeetError) (.type "BaseException") = some true)
    (tMeetError : PySem.W.typeIn K (.ref cMeetError) = some (.type "type"))
    (gBadPlan : PySem.W.nsIn K mainGlobals "BadPlan" = some (some (.ref cBadPlan)))
    (xBadPlan : PySem.W.excIn K cBadPlan [.type "ValueError", .type "Exception", .type "BaseException", .type "object"] "ValueError.__new__" = true)
    (kBadPlan : PySem.W.keepIn K (.ref cBadPlan) = true)
    (bBadPlan : PySem.W.subIn K (.ref cBadPlan) (.type "BaseException") = some true)
    (tBadPlan : PySem.W.typeIn K (.ref cBadPlan) = some (.type "type"))
    (gBadText : PySem.W.nsIn K mainGlobals "BadText" = some (some (.ref cBadText)))
    (xBadText : PySem.W.excIn K cBadText [.type "ValueError", .type "Exception", .type "BaseException", .type "object"] "ValueError.__new__" = true)
    (kBadText : PySem.W.keepIn K (.ref cBadText) = true)
    (bBadText : PySem.W.subIn K (.ref cBadText) (.type "BaseException") = some true)
    (tBadText : PySem.W.typeIn K (.ref cBadText) = some (.type "type"))
    (mBadText : PySem.W.exmOne K (.ref cBadText) (.ref cBadText) = some true)
    (a_are_steps : PySem.W.nsIn K mainGlobals "are_steps" = some (some (.ref f_are_steps)))
    (l_are_steps : K.lookup f_are_steps = some ⟨oc_are_steps, od_are_steps, .func (PySem.W.fnOf "are_steps" "are_steps" (defArgs s_are_steps) (defBody s_are_steps) (defScope s_are_steps) .none kV_are_steps dc_are_steps pm_are_steps an_are_steps cd_are_steps ct_are_steps), sl_are_steps⟩)
    (e_are_steps : PySem.W.codeIn K cd_are_steps "are_steps" = true)
    (k_are_steps : PySem.W.keepIn K (.ref f_are_steps) = true)
    (a_Plan_init : PySem.W.findIn K (.ref cPlan) "__init__" = some (some (.ref f_Plan_init)))
    (i_Plan_init : PySem.W.isFn K (.ref f_Plan_init) = true)
    (l_Plan_init : K.lookup f_Plan_init = some ⟨oc_Plan_init, od_Plan_init, .func (PySem.W.fnOf "__init__" "Plan.__init__" (defArgs s_Plan_init) (defBody s_Plan_init) (defScope s_Plan_init) .none kV_Plan_init dc_Plan_init pm_Plan_init an_Plan_init cd_Plan_init ct_Plan_init), sl_Plan_init⟩)
    (e_Plan_init : PySem.W.codeIn K cd_Plan_init "Plan.__init__" = true)
    (k_Plan_init : PySem.W.keepIn K (.ref f_Plan_init) = true)
    (a_read : PySem.W.nsIn K mainGlobals "read" = some (some (.ref f_read)))
    (l_read : K.lookup f_read = some ⟨oc_read, od_read, .func (PySem.W.fnOf "read" "read" (defArgs s_read) (defBody s_read) (defScope s_read) .none kV_read dc_read pm_read an_read cd_read ct_read), sl_read⟩)
    (e_read : PySem.W.codeIn K cd_read "read" = true)
    (k_read : PySem.W.keepIn K (.ref f_read) = true)
    (a_l_begin : PySem.W.nsIn K mainGlobals "_law_begin" = some (some (.ref f_l_begin)))
    (l_l_begin : K.lookup f_l_begin = some ⟨oc_l_begin, od_l_begin, .func (PySem.W.fnOf "_law_begin" "_law_begin" (defArgs s_l_begin) (defBody s_l_begin) (defScope s_l_begin) .none kV_l_begin dc_l_begin pm_l_begin an_l_begin cd_l_begin ct_l_begin), sl_l_begin⟩)
    (e_l_begin : PySem.W.codeIn K cd_l_begin "_law_begin" = true)
    (k_l_begin : PySem.W.keepIn K (.ref f_l_begin) = true)
    (a_l_draw : PySem.W.nsIn K mainGlobals "_law_draw" = some (some (.ref f_l_draw)))
    (l_l_draw : K.lookup f_l_draw = some ⟨oc_l_draw, od_l_draw, .func (PySem.W.fnOf "_law_draw" "_law_draw" (defArgs s_l_draw) (defBody s_l_draw) (defScope s_l_draw) .none kV_l_draw dc_l_draw pm_l_draw an_l_draw cd_l_draw ct_l_draw), sl_l_draw⟩)
    (e_l_draw : PySem.W.codeIn K cd_l_draw "_law_draw" = true)
    (k_l_draw : PySem.W.keepIn K (.ref f_l_draw) = true)
    (a_l_steps : PySem.W.nsIn K mainGlobals "_law_steps" = some (some (.ref f_l_steps)))
    (l_l_steps : K.lookup f_l_steps = some ⟨oc_l_steps, od_l_steps, .func (PySem.W.fnOf "_law_steps" "_law_steps" (defArgs s_l_steps) (defBody s_l_steps) (defScope s_l_steps) .none kV_l_steps dc_l_steps pm_l_steps an_l_steps cd_l_steps ct_l_steps), sl_l_steps⟩)
    (e_l_steps : PySem.W.codeIn K cd_l_steps "_law_steps" = true)
    (k_l_steps : PySem.W.keepIn K (.ref f_l_steps) = true)
    (a_l_bad : PySem.W.nsIn K mainGlobals "_law_bad" = some (some (.ref f_l_bad)))
    (l_l_bad : K.lookup f_l_bad = some ⟨oc_l_bad, od_l_bad, .func (PySem.W.fnOf "_law_bad" "_law_bad" (defArgs s_l_bad) (defBody s_l_bad) (defScope s_l_bad) .none kV_l_bad dc_l_bad pm_l_bad an_l_bad cd_l_bad ct_l_bad), sl_l_bad⟩)
    (e_l_bad : PySem.W.codeIn K cd_l_bad "_law_bad" = true)
    (k_l_bad : PySem.W.keepIn K (.ref f_l_bad) = true)
    (a_l_good : PySem.W.nsIn K mainGlobals "_law_good" = some (some (.ref f_l_good)))
    (l_l_good : K.lookup f_l_good = some ⟨oc_l_good, od_l_good, .func (PySem.W.fnOf "_law_good" "_law_good" (defArgs s_l_good) (defBody s_l_good) (defScope s_l_good) .none kV_l_good dc_l_good pm_l_good an_l_good cd_l_good ct_l_good), sl_l_good⟩)
    (e_l_good : PySem.W.codeIn K cd_l_good "_law_good" = true)
    (k_l_good : PySem.W.keepIn K (.ref f_l_good) = true)
    (a_law : PySem.W.nsIn K mainGlobals "law" = some (some (.ref f_law)))
    (l_law : K.lookup f_law = some ⟨oc_law, od_law, .func (PySem.W.fnOf "law" "law" (defArgs s_law) (defBody s_law) (defScope s_law) .none kV_law dc_law pm_law an_law cd_law ct_law), sl_law⟩)
    (e_law : PySem.W.codeIn K cd_law "law" = true)
    (k_law : PySem.W.keepIn K (.ref f_law) = true)
    : ∃ fd : FuncData, (∀ (s : Shared) (v : Value), BindsTo s fd ⟨[v], []⟩ [("_law_script", v)]) ∧ ∀ base : Heap, K.In base → base.Ns mainGlobals mg → FnOk l.prog w K mg base CX0 6 fa fd ["_law_script"] (spLaw K) := by
  have e := hfa.symm.trans (PySem.W.mg_of X G a_law)
  cases e
  let T : Tx K mg w := ⟨PySem.W.mg_none_of X G z_isinstance,
    PySem.W.mg_none_of X G z_len,
    PySem.W.mg_none_of X G z_all,
    PySem.W.mg_none_of X G z_int,
    PySem.W.mg_none_of X G z_str,
    PySem.W.mg_none_of X G z_list,
    PySem.W.mg_none_of X G z_range,
    aS,
    PySem.W.mg_of X G gS,
    ⟨⟨t1, t2, t3, u1, u2, u3, nS, lS⟩, wS⟩,
    ⟨_, PySem.W.mg_of X G gM, ⟨_, rfl⟩⟩,
    cPlan,
    PySem.W.mg_of X G gPlan,
    ⟨pgPlan, hdPlan, poPlan, saPlan⟩,
    nPlanhead,
    nPlanring,
    isPlan,
    mrPlan,
    spc,
    tks,
    cMeetError,
    PySem.W.mg_of X G gMeetError,
    xMeetError,
    kMeetError,
    bMeetError,
    tMeetError,
    cBadPlan,
    PySem.W.mg_of X G gBadPlan,
    xBadPlan,
    kBadPlan,
    bBadPlan,
    tBadPlan,
    cBadText,
    PySem.W.mg_of X G gBadText,
    xBadText,
    kBadText,
    bBadText,
    tBadText,
    mBadText⟩
  have F_are_steps := fun_mk (st := s_are_steps) l_are_steps e_are_steps k_are_steps
  have B_are_steps := F_are_steps.binds (ps := ["thing", "least"]) fun _ _ _ _ _ _ us hl => match us, hl with | [_, _], _ => rfl
  have F_Plan_init := fun_mk (st := s_Plan_init) l_Plan_init e_Plan_init k_Plan_init
  have B_Plan_init := F_Plan_init.binds (ps := ["self", "head", "ring"]) fun _ _ _ _ _ _ us hl => match us, hl with | [_, _, _], _ => rfl
  have F_read := fun_mk (st := s_read) l_read e_read k_read
  have B_read := F_read.binds (ps := ["text"]) fun _ _ _ _ _ _ us hl => match us, hl with | [_], _ => rfl
  have F_l_begin := fun_mk (st := s_l_begin) l_l_begin e_l_begin k_l_begin
  have B_l_begin := F_l_begin.binds (ps := ["_law_script"]) fun _ _ _ _ _ _ us hl => match us, hl with | [_], _ => rfl
  have F_l_draw := fun_mk (st := s_l_draw) l_l_draw e_l_draw k_l_draw
  have B_l_draw := F_l_draw.binds (ps := ["_law_draws", "_law_size"]) fun _ _ _ _ _ _ us hl => match us, hl with | [_, _], _ => rfl
  have F_l_steps := fun_mk (st := s_l_steps) l_l_steps e_l_steps k_l_steps
  have B_l_steps := F_l_steps.binds (ps := ["_law_draws", "_law_least", "_law_most"]) fun _ _ _ _ _ _ us hl => match us, hl with | [_, _, _], _ => rfl
  have F_l_bad := fun_mk (st := s_l_bad) l_l_bad e_l_bad k_l_bad
  have B_l_bad := F_l_bad.binds (ps := ["_law_text"]) fun _ _ _ _ _ _ us hl => match us, hl with | [_], _ => rfl
  have F_l_good := fun_mk (st := s_l_good) l_l_good e_l_good k_l_good
  have B_l_good := F_l_good.binds (ps := ["_law_text"]) fun _ _ _ _ _ _ us hl => match us, hl with | [_], _ => rfl
  exact ⟨PySem.W.fnOf "law" "law" (defArgs s_law) (defBody s_law) (defScope s_law) .none kV_law dc_law pm_law an_law cd_law ct_law, fun s v => .of_eq rfl, fun base _ _ => by
    have o_are_steps := ok_are_steps (P := l.prog) (base := base) F_are_steps T 
    have c_are_steps : Cal _ _ _ _ _ _ _ _ _ := ⟨_, _, _, o_are_steps, PySem.W.mg_of X G a_are_steps, k_are_steps, B_are_steps⟩
    have o_Plan_init := ok_Plan_init (P := l.prog) (base := base) F_Plan_init T c_are_steps
    have k_Plan : Mak _ _ _ _ _ _ _ _ _ _ := ⟨_, _, _, ⟨mkPlan, a_Plan_init, i_Plan_init, kcPlan⟩, o_Plan_init, PySem.W.mg_of X G gPlan, B_Plan_init⟩
    have o_read := ok_read (P := l.prog) (base := base) F_read T c_are_steps k_Plan
    have c_read : Cal _ _ _ _ _ _ _ _ _ := ⟨_, _, _, o_read, PySem.W.mg_of X G a_read, k_read, B_read⟩
    have o_l_begin := ok_l_begin (P := l.prog) (base := base) F_l_begin T 
    have c_l_begin : Cal _ _ _ _ _ _ _ _ _ := ⟨_, _, _, o_l_begin, PySem.W.mg_of X G a_l_begin, k_l_begin, B_l_begin⟩
    have o_l_draw := ok_l_draw (P := l.prog) (base := base) F_l_draw T 
    have c_l_draw : Cal _ _ _ _ _ _ _ _ _ := ⟨_, _, _, o_l_draw, PySem.W.mg_of X G a_l_draw, k_l_draw, B_l_draw⟩
    have o_l_steps := ok_l_steps (P := l.prog) (base := base) F_l_steps T c_l_draw
    have c_l_steps : Cal _ _ _ _ _ _ _ _ _ := ⟨_, _, _, o_l_steps, PySem.W.mg_of X G a_l_steps, k_l_steps, B_l_steps⟩
    have o_l_bad := ok_l_bad (P := l.prog) (base := base) F_l_bad T c_read
    have c_l_bad : Cal _ _ _ _ _ _ _ _ _ := ⟨_, _, _, o_l_bad, PySem.W.mg_of X G a_l_bad, k_l_bad, B_l_bad⟩
    have o_l_good := ok_l_good (P := l.prog) (base := base) F_l_good T 
    have c_l_good : Cal _ _ _ _ _ _ _ _ _ := ⟨_, _, _, o_l_good, PySem.W.mg_of X G a_l_good, k_l_good, B_l_good⟩
    exact ok_law (fun_mk (st := s_law) l_law e_law k_law) T c_l_begin c_l_draw c_l_steps c_l_good c_l_bad⟩
theorem walk {l : PySem.W.OpenLaw} {q : Program} {loose : List Str} {XP : (Str → Option Value) → Heap → Prop} {YP : World → Heap → Prop} {d : DefRec} {K : Params → PySem.W.Frag} (hn : l.most = some 63) (hdf : d.params.defaults = [])
    (hY : ∀ (w : World) (h : Heap), YP w h → (K w.params).In h)
    (F : ∀ (w : World) (mg : Str → Option Value) (fa : Addr) (h : Heap), (K w.params).In h → h.Ns mainGlobals mg → mg d.name = some (.ref fa) →
      ∃ fd : FuncData, (∀ (s : Shared) (u : Value), BindsTo s fd ⟨[u], []⟩ [("_law_script", u)]) ∧ ∀ base : Heap, (K w.params).In base → base.Ns mainGlobals mg → FnOk l.prog w (K w.params) mg base CX0 6 fa fd ["_law_script"] (spLaw (K w.params))) :
    PySem.W.WalkO q loose XP YP l.row.toRowW d [] (fun f vs => PySem.call f vs) :=
  L2.walk_of (n := 63) (k := 6) (x := "_law_script") (CX := fun _ => CX0) (sp := fun w => spLaw (K w.params)) hn (by decide) hdf ⟨rfl, by decide, by decide⟩ hY F (fun _ _ a ns hl _ hS => ⟨a, ns, rfl, hS, hl, fun _ => rfl⟩) fun _ _ _ _ _ z => z
end
end Lw
open PySem PySem.W PyProof.Rows in
set_option maxRecDepth 100000 in
set_option maxHeartbeats 0 in
theorem PySem.Challenge.cw_meetwalks_k09_texts_refused_holds : PySem.Challenge.rw_meetwalks_k09_texts_refused.Holds := by
  w_on; o_law; k_head; (case hw => w_witness2)
  k_fill
  refine Lw.walk (l := PySem.Challenge.rw_meetwalks_k09_texts_refused) rfl rfl (fun w h Y => PySem.W.kIn_of Y) ?F
  case F =>
    intro w mg fa h KX G hmg
    refine' Lw.all_mk KX G hmg ?z_isinstance ?z_len ?z_all ?z_int ?z_str ?z_list ?z_range ?gS ?lS ?wS ?gM ?gPlan ?pgPlan ?hdPlan ?poPlan ?saPlan ?mkPlan ?kcPlan ?nPlanhead ?nPlanring ?isPlan ?mrPlan ?spc ?tks ?gMeetError ?xMeetError ?kMeetError ?bMeetError ?tMeetError ?gBadPlan ?xBadPlan ?kBadPlan ?bBadPlan ?tBadPlan ?gBadText ?xBadText ?kBadText ?bBadText ?tBadText ?mBadText ?a_are_steps ?l_are_steps ?e_are_steps ?k_are_steps ?a_Plan_init ?i_Plan_init ?l_Plan_init ?e_Plan_init ?k_Plan_init ?a_read ?l_read ?e_read ?k_read ?a_l_begin ?l_l_begin ?e_l_begin ?k_l_begin ?a_l_draw ?l_l_draw ?e_l_draw ?k_l_draw ?a_l_steps ?l_l_steps ?e_l_steps ?k_l_steps ?a_l_bad ?l_l_bad ?e_l_bad ?k_l_bad ?a_l_good ?l_l_good ?e_l_good ?k_l_good ?a_law ?l_law ?e_law ?k_law
    (case z_isinstance => k_is)
    (case z_len => k_is)
    (case z_all => k_is)
    (case z_int => k_is)
    (case z_str => k_is)
    (case z_list => k_is)
    (case z_range => k_is)
    (case gS => k_is)
    (case lS => k_is)
    (case wS => rfl)
    (case gM => k_is)
    (case gPlan => k_is)
    (case pgPlan => k_is)
    (case hdPlan => k_is)
    (case poPlan => k_is)
    (case saPlan => k_is)
    (case mkPlan => k_is)
    (case kcPlan => k_is)
    (case nPlanhead => k_is)
    (case nPlanring => k_is)
    (case isPlan => k_is)
    (case mrPlan => k_is)
    (case spc => k_is)
    (case tks => k_is)
    (case gMeetError => k_is)
    (case xMeetError => k_exc)
    (case kMeetError => k_is)
    (case bMeetError => k_is)
    (case tMeetError => k_is)
    (case gBadPlan => k_is)
    (case xBadPlan => k_exc)
    (case kBadPlan => k_is)
    (case bBadPlan => k_is)
    (case tBadPlan => k_is)
    (case gBadText => k_is)
    (case xBadText => k_exc)
    (case kBadText => k_is)
    (case bBadText => k_is)
    (case tBadText => k_is)
    (case mBadText => kts_exm)
    (case a_are_steps => k_is)
    (case l_are_steps => k_is)
    (case e_are_steps => k_is)
    (case k_are_steps => k_is)
    (case a_Plan_init => k_is)
    (case i_Plan_init => k_is)
    (case l_Plan_init => k_is)
    (case e_Plan_init => k_is)
    (case k_Plan_init => k_is)
    (case a_read => k_is)
    (case l_read => k_is)
    (case e_read => k_is)
    (case k_read => k_is)
    (case a_l_begin => k_is)
    (case l_l_begin => k_is)
    (case e_l_begin => k_is)
    (case k_l_begin => k_is)
    (case a_l_draw => k_is)
    (case l_l_draw => k_is)
    (case e_l_draw => k_is)
    (case k_l_draw => k_is)
    (case a_l_steps => k_is)
    (case l_l_steps => k_is)
    (case e_l_steps => k_is)
    (case k_l_steps => k_is)
    (case a_l_bad => k_is)
    (case l_l_bad => k_is)
    (case e_l_bad => k_is)
    (case k_l_bad => k_is)
    (case a_l_good => k_is)
    (case l_l_good => k_is)
    (case e_l_good => k_is)
    (case k_l_good => k_is)
    (case a_law => k_is)
    (case l_law => k_is)
    (case e_law => k_is)
    (case k_law => k_is)
