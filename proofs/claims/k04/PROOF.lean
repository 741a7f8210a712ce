import PyProof.Rows.All
import Wide.All
import OpenK.AllK
import Wide.FinOn
import HandS.ForMost
import HandS.Exc
import HandS.TryOnly
import HandS.TryMany
import HandS.ExcOwn
import HandS.WordsExc
import HandS.Flow
import HandS.Wide
import HandS.Steps
import HandS.IsInst
import HandS.DictComp
import HandS.More
import HandS.SortInts
import HandS.Evl
import HandS.FStr
import HandS.OwnEq
import HandS.Style
import HandS.CallSlots
import HandS.Small
import HandS.Codes
import HandS.SetFor
import HandS.Strs
import PySem.Challenge.RW_meetwalks_k04_whole_longest_times
set_option Elab.async false
set_option linter.all false
set_option maxRecDepth 100000
set_option maxHeartbeats 4000000
/-! Steps, ways: plain Lean, no program in sight. -/
namespace Mw
/-- a step's worth -/
def sv (c : Nat) : Int := if c = 102 then 1 else if c = 98 then -1 else 0
def tot (l : List Nat) : Int := (l.map sv).sum
/-- the step done at time k by a plan -/
def stp (h r : List Nat) (k : Nat) : Nat := if k < h.length then h.getD k 0 else r.getD ((k - h.length) % r.length) 0
/-- the way behind t steps -/
def W (h r : List Nat) : Nat → Int
  | 0 => 0
  | t + 1 => W h r t + sv (stp h r t)
/-- as the program reckons it -/
def wayP (h r : List Nat) (t : Int) : Int :=
  if t ≤ h.length then tot (h.take (max t 0).toNat)
  else tot h + (t - h.length) / r.length * tot r + tot (r.take ((t - h.length) % r.length).toNat)

theorem tot_nil : tot [] = 0 := rfl
theorem tot_append (a b : List Nat) : tot (a ++ b) = tot a + tot b := by
  unfold tot; rw [List.map_append, List.sum_append]
theorem tot_take_succ (l : List Nat) (k : Nat) (hk : k < l.length) : tot (l.take (k + 1)) = tot (l.take k) + sv (l.getD k 0) := by
  rw [List.take_succ, tot_append]
  have : l[k]? = some (l.getD k 0) := by
    rw [List.getD_eq_getElem?_getD, List.getElem?_eq_getElem hk]; rfl
  rw [this]
  simp [tot]
theorem W_head (h r : List Nat) : ∀ t, t ≤ h.length → W h r t = tot (h.take t)
  | 0, _ => by simp [W, tot]
  | t + 1, ht => by
    have ht' : t < h.length := ht
    rw [W, W_head h r t (by omega), tot_take_succ h t ht', stp, if_pos ht']
theorem W_tail (h r : List Nat) (hr : 0 < r.length) : ∀ k : Nat, W h r (h.length + k) = tot h + ((k / r.length : Nat) : Int) * tot r + tot (r.take (k % r.length))
  | 0 => by simp [W_head h r h.length (Nat.le_refl _), tot]
  | k + 1 => by
    have ih := W_tail h r hr k
    rw [← Nat.add_assoc, W, ih, stp, if_neg (by omega), Nat.add_sub_cancel_left]
    have hm : k % r.length < r.length := Nat.mod_lt _ hr
    by_cases c : k % r.length + 1 = r.length
    · have e1 : (k + 1) % r.length = 0 := by
        rw [Nat.add_mod, ]
        by_cases h1 : r.length = 1
        · rw [h1]; omega
        · rw [Nat.mod_eq_of_lt (show 1 < r.length by omega), c, Nat.mod_self]
      have e2 : (k + 1) / r.length = k / r.length + 1 := by
        have := Nat.div_add_mod k r.length
        have h2 := Nat.div_add_mod (k + 1) r.length
        rw [e1] at h2
        have h3 : r.length * ((k + 1) / r.length) = r.length * (k / r.length + 1) := by rw [Nat.mul_add]; omega
        exact Nat.eq_of_mul_eq_mul_left hr h3
      rw [e1, e2]
      have e3 := tot_take_succ r (k % r.length) hm
      rw [c, List.take_length] at e3
      simp only [List.take_zero, tot_nil]
      rw [Int.add_zero, Int.natCast_add, Int.add_mul]
      simp only [Int.natCast_one, Int.one_mul]
      omega
    · have e1 : (k + 1) % r.length = k % r.length + 1 := by
        rw [Nat.add_mod]
        by_cases h1 : r.length = 1
        · omega
        · rw [Nat.mod_eq_of_lt (show 1 < r.length by omega), Nat.mod_eq_of_lt (by omega)]
      have e2 : (k + 1) / r.length = k / r.length := by
        have := Nat.div_add_mod k r.length
        have h2 := Nat.div_add_mod (k + 1) r.length
        rw [e1] at h2
        have h3 : r.length * ((k + 1) / r.length) = r.length * (k / r.length) := by omega
        exact Nat.eq_of_mul_eq_mul_left hr h3
      rw [e1, e2, tot_take_succ r _ hm]
      omega
theorem wayP_eq (h r : List Nat) (hr : 0 < r.length) (t : Int) : wayP h r t = W h r t.toNat := by
  unfold wayP
  by_cases c : t ≤ h.length
  · rw [if_pos c, W_head h r t.toNat (by omega)]
    congr 2
    omega
  · rw [if_neg c]
    have e : t.toNat = h.length + (t - h.length).toNat := by omega
    rw [e, W_tail h r hr]
    have e1 : (t - h.length) = (((t - h.length).toNat : Nat) : Int) := by omega
    generalize (t - (h.length : Int)).toNat = k at e1
    rw [e1]
    rw [← Int.natCast_ediv, ← Int.natCast_emod, Int.toNat_natCast]
theorem W_zero (h r : List Nat) : W h r 0 = 0 := rfl
/-- a ring's way behind so many whole rounds -/
theorem W_rounds (r : List Nat) (hr : 0 < r.length) (q : Nat) : W [] r (q * r.length) = (q : Int) * tot r := by
  have := W_tail [] r hr (q * r.length)
  simp only [List.length_nil, Nat.zero_add, tot_nil, Int.zero_add] at this
  rw [this, Nat.mul_div_cancel _ hr, Nat.mul_mod_left]
  simp [tot]
/-- once by the ring, a whole number of rounds adds so many times the ring's way -/
theorem W_shift (h r : List Nat) (hr : 0 < r.length) (q k : Nat) (hk : h.length ≤ k) : W h r (k + q * r.length) = W h r k + (q : Int) * tot r := by
  obtain ⟨m, rfl⟩ := Nat.exists_eq_add_of_le hk
  rw [Nat.add_assoc, W_tail h r hr, W_tail h r hr, Nat.add_mul_div_right _ _ hr, Nat.add_mul_mod_self_right, Int.natCast_add, Int.add_mul]
  omega
theorem sv_abs (c : Nat) : -1 ≤ sv c ∧ sv c ≤ 1 := by
  unfold sv; split
  · omega
  · split <;> omega
theorem tot_abs : ∀ l : List Nat, -(l.length : Int) ≤ tot l ∧ tot l ≤ l.length
  | [] => by simp [tot]
  | c :: l => by
    have h := tot_abs l
    have e : tot (c :: l) = sv c + tot l := by simp [tot]
    have := sv_abs c
    rw [e, List.length_cons]
    omega
theorem W_abs (h r : List Nat) : ∀ t : Nat, -(t : Int) ≤ W h r t ∧ W h r t ≤ t
  | 0 => by simp [W]
  | t + 1 => by
    have := W_abs h r t
    have := sv_abs (stp h r t)
    rw [W]
    omega
end Mw

/-! First times of rests. -/
namespace Mw
/-- the rests modulo n of f at the times below T, each with its first time, in the order in which they come -/
def ft (f : Nat → Int) (n : Int) : Nat → List (Int × Int)
  | 0 => []
  | T + 1 => if f T % n ∈ (ft f n T).map (·.1) then ft f n T else ft f n T ++ [(f T % n, (T : Int))]
section
variable {f : Nat → Int} {n : Int}
theorem ft_yes {T : Nat} (h : f T % n ∈ (ft f n T).map (·.1)) : ft f n (T + 1) = ft f n T := by rw [ft, if_pos h]
theorem ft_no {T : Nat} (h : ¬ f T % n ∈ (ft f n T).map (·.1)) : ft f n (T + 1) = ft f n T ++ [(f T % n, (T : Int))] := by rw [ft, if_neg h]
theorem ft_keys (g : Int) : ∀ T, g ∈ (ft f n T).map (·.1) ↔ ∃ t, t < T ∧ f t % n = g
  | 0 => by simp [ft]
  | T + 1 => by
    have ih := ft_keys g T
    by_cases c : f T % n ∈ (ft f n T).map (·.1)
    · rw [ft_yes c, ih]
      constructor
      · rintro ⟨t, ht, e⟩; exact ⟨t, by omega, e⟩
      · rintro ⟨t, ht, e⟩
        by_cases h : t = T
        · subst h; rw [e] at c; exact (ft_keys g t).mp c
        · exact ⟨t, by omega, e⟩
    · rw [ft_no c, List.map_append, List.mem_append, ih]
      simp only [List.map_cons, List.map_nil, List.mem_singleton]
      constructor
      · rintro (⟨t, ht, e⟩ | e)
        · exact ⟨t, by omega, e⟩
        · exact ⟨T, by omega, e.symm⟩
      · rintro ⟨t, ht, e⟩
        by_cases h : t = T
        · subst h; exact .inr e.symm
        · exact .inl ⟨t, by omega, e⟩
theorem ft_nodup : ∀ T, ((ft f n T).map (·.1)).Nodup
  | 0 => by simp [ft]
  | T + 1 => by
    by_cases c : f T % n ∈ (ft f n T).map (·.1)
    · rw [ft_yes c]; exact ft_nodup T
    · rw [ft_no c, List.map_append, List.nodup_append]
      refine ⟨ft_nodup T, by simp, ?_⟩
      intro a ha b hb
      simp only [List.map_cons, List.map_nil, List.mem_singleton] at hb
      subst hb
      intro e; subst e; exact c ha
theorem ft_len (T : Nat) : (ft f n T).length ≤ T := by
  induction T with
  | zero => simp [ft]
  | succ T ih =>
    by_cases c : f T % n ∈ (ft f n T).map (·.1)
    · rw [ft_yes c]; omega
    · rw [ft_no c, List.length_append, List.length_singleton]; omega
/-- an entry: the time is the first one with this rest -/
theorem ft_mem {g t : Int} : ∀ T, (g, t) ∈ ft f n T ↔ ∃ k : Nat, t = k ∧ k < T ∧ f k % n = g ∧ ∀ j, j < k → f j % n ≠ g
  | 0 => by simp [ft]
  | T + 1 => by
    have ih := ft_mem (g := g) (t := t) T
    by_cases c : f T % n ∈ (ft f n T).map (·.1)
    · rw [ft_yes c, ih]
      constructor
      · rintro ⟨k, h1, h2, h3⟩; exact ⟨k, h1, by omega, h3⟩
      · rintro ⟨k, h1, h2, h3, h4⟩
        refine ⟨k, h1, ?_, h3, h4⟩
        by_cases h : k = T
        · subst h
          obtain ⟨j, hj, e⟩ := (ft_keys (f k % n) k).mp c
          exact absurd (e.trans h3) (h4 j hj)
        · omega
    · rw [ft_no c, List.mem_append, ih]
      simp only [List.mem_singleton, Prod.mk.injEq]
      constructor
      · rintro (⟨k, h1, h2, h3⟩ | ⟨h1, h2⟩)
        · exact ⟨k, h1, by omega, h3⟩
        · refine ⟨T, h2, by omega, h1.symm, fun j hj e => c ?_⟩
          rw [ft_keys]
          exact ⟨j, hj, e.trans h1⟩
      · rintro ⟨k, h1, h2, h3, h4⟩
        by_cases h : k = T
        · subst h; exact .inr ⟨h3.symm, h1⟩
        · exact .inl ⟨k, h1, by omega, h3, h4⟩
/-- nothing new comes: the table stands still -/
theorem ft_stay {T : Nat} (h : ∀ t, T ≤ t → ∃ j, j < T ∧ f j % n = f t % n) : ∀ k, ft f n (T + k) = ft f n T
  | 0 => rfl
  | k + 1 => by
    have ih := ft_stay h k
    obtain ⟨j, hj, e⟩ := h (T + k) (by omega)
    rw [← Nat.add_assoc, ft_yes, ih]
    rw [ft_keys]
    exact ⟨j, by omega, e⟩
theorem ft_stay' {T T' : Nat} (hT : T ≤ T') (h : ∀ t, T ≤ t → ∃ j, j < T ∧ f j % n = f t % n) : ft f n T' = ft f n T := by
  obtain ⟨k, rfl⟩ := Nat.exists_eq_add_of_le hT
  exact ft_stay h k
/-- all rests are there: nothing new can come -/
theorem ft_full {T : Nat} (hn : 0 < n) (h : ((ft f n T).length : Int) = n) (g : Int) (h0 : 0 ≤ g) (h1 : g < n) : g ∈ (ft f n T).map (·.1) := by
  -- the keys are n different numbers below n
  false_or_by_contra
  rename_i hc
  have nd := ft_nodup (f := f) (n := n) T
  have sub : ∀ x ∈ g :: (ft f n T).map (·.1), x ∈ (List.range n.toNat).map (fun i : Nat => (i : Int)) := by
    intro x hx
    rw [List.mem_map]
    rcases List.mem_cons.mp hx with rfl | hx
    · exact ⟨x.toNat, by rw [List.mem_range]; omega, by omega⟩
    · obtain ⟨t, _, e⟩ := (ft_keys x T).mp hx
      have := Int.emod_nonneg (f t) (show n ≠ 0 by omega)
      have := Int.emod_lt_of_pos (f t) hn
      exact ⟨x.toNat, by rw [List.mem_range]; omega, by omega⟩
  have := List.Nodup.length_le_of_subset (List.nodup_cons.mpr ⟨hc, nd⟩) sub
  simp only [List.length_cons, List.length_map, List.length_range] at this
  omega
theorem ft_le {T : Nat} (hn : 0 < n) : ((ft f n T).length : Int) ≤ n := by
  have nd := ft_nodup (f := f) (n := n) T
  have sub : ∀ x ∈ (ft f n T).map (·.1), x ∈ (List.range n.toNat).map (fun i : Nat => (i : Int)) := by
    intro x hx
    rw [List.mem_map]
    obtain ⟨t, _, e⟩ := (ft_keys x T).mp hx
    have := Int.emod_nonneg (f t) (show n ≠ 0 by omega)
    have := Int.emod_lt_of_pos (f t) hn
    exact ⟨x.toNat, by rw [List.mem_range]; omega, by omega⟩
  have := List.Nodup.length_le_of_subset nd sub
  simp only [List.length_map, List.length_range] at this
  omega
theorem ft_stop {T : Nat} (hn : 0 < n) (h : ((ft f n T).length : Int) = n) {T' : Nat} (hT : T ≤ T') : ft f n T' = ft f n T := by
  refine ft_stay' hT fun t ht => ?_
  have := Int.emod_nonneg (f t) (show n ≠ 0 by omega)
  have := Int.emod_lt_of_pos (f t) hn
  exact (ft_keys _ T).mp (ft_full hn h (f t % n) (by omega) (by omega))
/-- full: just where every gap is come to -/
theorem ft_full_iff {T : Nat} (hn : 0 < n) : ((ft f n T).length : Int) = n ↔ ∀ g, 0 ≤ g → g < n → ∃ t, t < T ∧ f t % n = g := by
  constructor
  · intro h g h0 h1
    exact (ft_keys g T).mp (ft_full hn h g h0 h1)
  · intro h
    have sub : ∀ x ∈ (List.range n.toNat).map (fun i : Nat => (i : Int)), x ∈ (ft f n T).map (·.1) := by
      intro x hx
      obtain ⟨i, hi, rfl⟩ := List.mem_map.mp hx
      rw [List.mem_range] at hi
      rw [ft_keys]
      exact h i (by omega) (by omega)
    have nd : ((List.range n.toNat).map (fun i : Nat => (i : Int))).Nodup := by
      rw [List.nodup_iff_pairwise_ne, List.pairwise_map]
      exact List.Pairwise.imp (fun h e => by omega) List.pairwise_lt_range
    have := List.Nodup.length_le_of_subset nd sub
    simp only [List.length_map, List.length_range] at this
    have := ft_le (f := f) (T := T) hn
    omega
end

/-! ### two that walk: offsets that grow by G every L times from B on -/
structure Per (f : Nat → Int) (B L : Nat) (G : Int) : Prop where
  pos : 0 < L
  step : ∀ t, B ≤ t → f (t + L) = f t + G
theorem Per.mul {f : Nat → Int} {B L : Nat} {G : Int} (p : Per f B L G) (k : Nat) : ∀ t, B ≤ t → f (t + k * L) = f t + k * G := by
  induction k with
  | zero => intro t _; simp
  | succ k ih =>
    intro t ht
    rw [Nat.succ_mul, ← Nat.add_assoc, p.step _ (by omega), ih t ht, Int.natCast_add, Int.add_mul]
    simp only [Int.natCast_one, Int.one_mul]
    omega
/-- behind B + L n times nothing new comes modulo n -/
theorem Per.again {f : Nat → Int} {B L : Nat} {G : Int} (p : Per f B L G) {n : Nat} (hn : 0 < n) {T : Nat} (hT : B + L * n ≤ T) (t : Nat) (ht : T ≤ t) : ∃ j, j < T ∧ f j % (n : Int) = f t % (n : Int) := by
  induction t using Nat.strongRecOn with
  | _ t ih =>
    have hL := p.pos
    have h1 : 0 < L * n := Nat.mul_pos hL hn
    have e : f (t - L * n + n * L) = f (t - L * n) + (n : Int) * G := p.mul n (t - L * n) (by omega)
    rw [Nat.mul_comm n L, Nat.sub_add_cancel (by omega)] at e
    have e2 : f t % (n : Int) = f (t - L * n) % (n : Int) := by rw [e, Int.add_mul_emod_self_left]
    by_cases c : t - L * n < T
    · exact ⟨t - L * n, c, e2.symm⟩
    · obtain ⟨j, hj, ej⟩ := ih (t - L * n) (by omega) (by omega)
      exact ⟨j, hj, ej.trans e2.symm⟩
theorem Per.ft {f : Nat → Int} {B L : Nat} {G : Int} (p : Per f B L G) {n : Nat} (hn : 0 < n) {T T' : Nat} (hT : B + L * n ≤ T) (hT' : T ≤ T') : Mw.ft f n T' = Mw.ft f n T :=
  ft_stay' hT' (p.again hn hT)
end Mw

/-! Plans, offsets, gains; whether two always meet. -/
namespace Mw
structure Pl where
  h : List Nat
  r : List Nat
  deriving DecidableEq
def Pl.W (a : Pl) (t : Int) : Int := Mw.W a.h a.r t.toNat
def off (a b : Pl) (d t : Int) : Int := a.W (t - max 0 (-d)) - b.W (t - max 0 d)
def lcmP (a b : Pl) : Nat := a.r.length * b.r.length / Nat.gcd a.r.length b.r.length
def gain (a b : Pl) : Int := tot a.r * ((lcmP a b / a.r.length : Nat) : Int) - tot b.r * ((lcmP a b / b.r.length : Nat) : Int)
def beg (a b : Pl) (d : Int) : Nat := (max ((a.h.length : Int) + max 0 (-d)) ((b.h.length : Int) + max 0 d)).toNat
structure Ok (a : Pl) : Prop where
  hl : a.h.length ≤ 6
  r0 : 0 < a.r.length
  rl : a.r.length ≤ 6
theorem lcm_a (a b : Pl) : lcmP a b / a.r.length * a.r.length = lcmP a b := by
  unfold lcmP
  refine Nat.div_mul_cancel ?_
  obtain ⟨k, hk⟩ := Nat.gcd_dvd_right a.r.length b.r.length
  by_cases h : Nat.gcd a.r.length b.r.length = 0
  · rw [h, Nat.div_zero]; exact Nat.dvd_zero _
  · have e : a.r.length * b.r.length / Nat.gcd a.r.length b.r.length = a.r.length * k := by
      rw [show a.r.length * b.r.length = a.r.length * (Nat.gcd a.r.length b.r.length * k) from by rw [← hk], Nat.mul_left_comm, Nat.mul_div_cancel_left _ (by omega)]
    rw [e]; exact Nat.dvd_mul_right _ _
theorem lcm_b (a b : Pl) : lcmP a b / b.r.length * b.r.length = lcmP a b := by
  unfold lcmP
  refine Nat.div_mul_cancel ?_
  obtain ⟨k, hk⟩ := Nat.gcd_dvd_left a.r.length b.r.length
  by_cases h : Nat.gcd a.r.length b.r.length = 0
  · rw [h, Nat.div_zero]; exact Nat.dvd_zero _
  · have e : a.r.length * b.r.length / Nat.gcd a.r.length b.r.length = b.r.length * k := by
      rw [show a.r.length * b.r.length = (Nat.gcd a.r.length b.r.length * k) * b.r.length from by rw [← hk], Nat.mul_assoc, Nat.mul_div_cancel_left _ (by omega), Nat.mul_comm]
    rw [e]; exact Nat.dvd_mul_right _ _
theorem lcm_pos {a b : Pl} (ha : 0 < a.r.length) (hb : 0 < b.r.length) : 0 < lcmP a b := by
  unfold lcmP
  refine Nat.div_pos (Nat.le_trans (Nat.le_of_dvd ha (Nat.gcd_dvd_left _ _)) (Nat.le_mul_of_pos_right _ hb)) (Nat.gcd_pos_of_pos_left _ ha)
theorem lcm_le (a b : Pl) : lcmP a b ≤ a.r.length * b.r.length := Nat.div_le_self _ _
theorem Pl.W_shift {a : Pl} (h0 : 0 < a.r.length) (q : Nat) (t : Int) (ht : (a.h.length : Int) ≤ t) : a.W (t + (q * a.r.length : Nat)) = a.W t + (q : Int) * tot a.r := by
  unfold Pl.W
  rw [show (t + ((q * a.r.length : Nat) : Int)).toNat = t.toNat + q * a.r.length from by omega]
  exact Mw.W_shift a.h a.r h0 q t.toNat (by omega)
theorem off_per {a b : Pl} (ha : 0 < a.r.length) (hb : 0 < b.r.length) (d : Int) : Per (fun t => off a b d (t : Int)) (beg a b d) (lcmP a b) (gain a b) where
  pos := lcm_pos ha hb
  step := fun t ht => by
    have h1 : (a.h.length : Int) + max 0 (-d) ≤ t ∧ (b.h.length : Int) + max 0 d ≤ t := by
      unfold beg at ht
      constructor <;> omega
    show off a b d ((t + lcmP a b : Nat) : Int) = off a b d t + gain a b
    unfold off gain
    have e1 := Pl.W_shift ha (lcmP a b / a.r.length) ((t : Int) - max 0 (-d)) (by omega)
    have e2 := Pl.W_shift hb (lcmP a b / b.r.length) ((t : Int) - max 0 d) (by omega)
    rw [lcm_a] at e1
    rw [lcm_b] at e2
    rw [Int.natCast_add, show (t : Int) + (lcmP a b : Nat) - max 0 (-d) = (t : Int) - max 0 (-d) + (lcmP a b : Nat) from by omega,
      show (t : Int) + (lcmP a b : Nat) - max 0 d = (t : Int) - max 0 d + (lcmP a b : Nat) from by omega, e1, e2, Int.mul_comm (tot a.r), Int.mul_comm (tot b.r)]
    omega

/-! ### fullness of the rests -/
/-- every rest modulo G is come to at some time from B on (so, again and again) -/
def EF (f : Nat → Int) (B L : Nat) (G : Int) : Prop := ∀ ρ : Int, ∃ t, B ≤ t ∧ t < B + L ∧ G ∣ f t - ρ
/-- the rests of a round are all numbers below |G| -/
def fullB (f : Nat → Int) (B L : Nat) (G : Int) : Prop := ((ft (fun t => f (B + t)) (G.natAbs : Int) L).length : Int) = G.natAbs
theorem dvd_of_mod {x ρ G : Int} (hG : G ≠ 0) (h : x % (G.natAbs : Int) = ρ % (G.natAbs : Int)) : G ∣ x - ρ := by
  rw [← Int.natAbs_dvd]
  exact Int.dvd_of_emod_eq_zero (by rw [Int.sub_emod, h, Int.sub_self, Int.zero_emod])
theorem mod_of_dvd {x ρ G : Int} (h : G ∣ x - ρ) : x % (G.natAbs : Int) = ρ % (G.natAbs : Int) := by
  rw [← Int.natAbs_dvd] at h
  obtain ⟨k, hk⟩ := h
  rw [show x = ρ + (G.natAbs : Int) * k from by omega, Int.add_mul_emod_self_left]
theorem full_iff {f : Nat → Int} {B L : Nat} {G : Int} (hG : G ≠ 0) : fullB f B L G ↔ EF f B L G := by
  have h0 : (0 : Int) < G.natAbs := by omega
  unfold fullB
  rw [ft_full_iff h0]
  constructor
  · intro h ρ
    obtain ⟨t, ht, e⟩ := h (ρ % (G.natAbs : Int)) (Int.emod_nonneg _ (by omega)) (Int.emod_lt_of_pos _ h0)
    exact ⟨B + t, by omega, by omega, dvd_of_mod hG e⟩
  · intro h g h1 h2
    obtain ⟨t, ht1, ht2, hd⟩ := h g
    refine ⟨t - B, by omega, ?_⟩
    have e := mod_of_dvd hd
    rw [Int.emod_eq_of_lt h1 h2] at e
    rw [show B + (t - B) = t from by omega]
    exact e
/-- .. at times as late as one likes -/
theorem EF.late {f : Nat → Int} {B L : Nat} {G : Int} (p : Per f B L G) (h : EF f B L G) (ρ : Int) (N : Nat) : ∃ t, N ≤ t ∧ G ∣ f t - ρ := by
  obtain ⟨t, h1, h2, h3⟩ := h ρ
  refine ⟨t + N * L, ?_, ?_⟩
  · have := Nat.le_mul_of_pos_right N p.pos
    omega
  · rw [p.mul N t h1, show f t + (N : Int) * G - ρ = (f t - ρ) + G * N from by rw [Int.mul_comm]; omega]
    exact Int.dvd_add h3 (Int.dvd_mul_right _ _)
theorem EF.of_late {f : Nat → Int} {B L : Nat} {G : Int} (p : Per f B L G) (h : ∀ ρ : Int, ∃ t, B ≤ t ∧ G ∣ f t - ρ) : EF f B L G := fun ρ => by
  obtain ⟨t, h1, h2⟩ := h ρ
  have hL := p.pos
  have hm := Nat.mod_lt (t - B) hL
  have hd := Nat.div_add_mod (t - B) L
  have e : f ((B + (t - B) % L) + (t - B) / L * L) = f (B + (t - B) % L) + (((t - B) / L : Nat) : Int) * G := p.mul _ _ (by omega)
  rw [show (B + (t - B) % L) + (t - B) / L * L = t from by rw [Nat.mul_comm]; omega] at e
  refine ⟨B + (t - B) % L, by omega, by omega, ?_⟩
  rw [show f (B + (t - B) % L) - ρ = (f t - ρ) - G * (((t - B) / L : Nat) : Int) from by rw [e, Int.mul_comm G]; omega]
  exact Int.dvd_sub h2 (Int.dvd_mul_right _ _)
/-- moved in time and place it stays full -/
theorem EF.move {f f' : Nat → Int} {B B' L L' : Nat} {G : Int} (p : Per f B L G) (p' : Per f' B' L' G) (h : EF f B L G) (N e : Nat) (c : Int) (hm : ∀ t, N ≤ t → f' (t + e) = f t + c) : EF f' B' L' G :=
  EF.of_late p' fun ρ => by
    obtain ⟨t, h1, h2⟩ := EF.late p h (ρ - c) (N + B')
    refine ⟨t + e, by omega, ?_⟩
    rw [hm t (by omega), show f t + c - ρ = f t - (ρ - c) from by omega]
    exact h2
/-- where the rests are full every gap of every ring is met -/
theorem EF.meet {f : Nat → Int} {B L : Nat} {G : Int} (p : Per f B L G) (h : EF f B L G) {n : Nat} (hn : 0 < n) (g : Int) : ∃ t, t < B + L * n ∧ f t % (n : Int) = g % (n : Int) := by
  obtain ⟨t, h1, h2, m, hm⟩ := h g
  have hn' : (0 : Int) < n := by omega
  have k0 := Int.emod_nonneg (-m) (show (n : Int) ≠ 0 by omega)
  have k1 := Int.emod_lt_of_pos (-m) hn'
  have k2 := Int.mul_ediv_add_emod (-m) (n : Int)
  generalize hk : ((-m) % (n : Int)).toNat = k
  have ek : (k : Int) = (-m) % (n : Int) := by omega
  refine ⟨t + k * L, ?_, ?_⟩
  · have h3 : k * L ≤ (n - 1) * L := Nat.mul_le_mul_right _ (by omega)
    have h4 : L * n = (n - 1) * L + L := by
      rw [Nat.mul_comm L n, ← Nat.succ_mul]
      congr 1
      omega
    omega
  · rw [p.mul k t h1]
    have e : f t + (k : Int) * G = g + (n : Int) * (-((-m) / (n : Int)) * G) := by
      have e1 : f t = g + G * m := by omega
      have e2 : (k : Int) = -m - (n : Int) * ((-m) / (n : Int)) := by omega
      rw [e1, e2, Int.sub_mul, Int.neg_mul, Int.mul_assoc, ← Int.neg_mul, Int.neg_mul, Int.neg_mul, Int.mul_neg, Int.mul_comm m G]
      omega
    rw [e, Int.add_mul_emod_self_left]
theorem EF.ft {f : Nat → Int} {B L : Nat} {G : Int} (p : Per f B L G) (h : EF f B L G) {n : Nat} (hn : 0 < n) {T : Nat} (hT : B + L * n ≤ T) : ((Mw.ft f n T).length : Int) = n := by
  rw [ft_full_iff (by omega)]
  intro g h0 h1
  obtain ⟨t, h2, h3⟩ := h.meet p hn g
  exact ⟨t, by omega, by rw [h3, Int.emod_eq_of_lt h0 h1]⟩
/-- where they are not full, some ring has a gap that is never met -/
theorem not_full {f : Nat → Int} {B L : Nat} {G : Int} (p : Per f B L G) (hG : G ≠ 0) (h : ¬ EF f B L G) : ∀ T, ((Mw.ft f ((G.natAbs * (B + 1) : Nat) : Int) T).length : Int) ≠ (G.natAbs * (B + 1) : Nat) := by
  intro T hT
  have hGp : 0 < G.natAbs := by omega
  have hnp : 0 < G.natAbs * (B + 1) := Nat.mul_pos hGp (by omega)
  rw [ft_full_iff (by omega)] at hT
  apply h
  refine EF.of_late p fun ρ => ?_
  false_or_by_contra
  rename_i hc
  have key : ∀ t, G ∣ f t - ρ → t < B := fun t hd => by
    false_or_by_contra
    exact hc ⟨t, by omega, hd⟩
  have r0 := Int.emod_nonneg ρ (show (G.natAbs : Int) ≠ 0 by omega)
  have r1 := Int.emod_lt_of_pos ρ (show (0 : Int) < G.natAbs by omega)
  generalize hρ : ρ % (G.natAbs : Int) = ρ' at r0 r1
  have nd : ((List.range (B + 1)).map (fun j : Nat => ρ' + (j * G.natAbs : Nat))).Nodup := by
    rw [List.nodup_iff_pairwise_ne, List.pairwise_map]
    refine List.Pairwise.imp (fun {x y} h e => ?_) List.pairwise_lt_range
    have := Nat.mul_lt_mul_of_pos_right h hGp
    omega
  have sub : ∀ x ∈ (List.range (B + 1)).map (fun j : Nat => ρ' + (j * G.natAbs : Nat)), x ∈ (List.range B).map (fun t => f t % ((G.natAbs * (B + 1) : Nat) : Int)) := by
    intro x hx
    obtain ⟨j, hj, rfl⟩ := List.mem_map.mp hx
    rw [List.mem_range] at hj
    have b1 : j * G.natAbs ≤ B * G.natAbs := Nat.mul_le_mul_right _ (by omega)
    have b2 : G.natAbs * (B + 1) = B * G.natAbs + G.natAbs := by rw [Nat.mul_add, Nat.mul_comm]; omega
    obtain ⟨t, ht, e⟩ := hT (ρ' + (j * G.natAbs : Nat)) (by omega) (by omega)
    rw [List.mem_map]
    refine ⟨t, ?_, e⟩
    rw [List.mem_range]
    refine key t (dvd_of_mod hG ?_)
    have e2 : f t % (G.natAbs : Int) = (f t % ((G.natAbs * (B + 1) : Nat) : Int)) % (G.natAbs : Int) := by
      rw [Int.natCast_mul, Int.emod_emod_of_dvd _ (Int.dvd_mul_right _ _)]
    rw [e2, e, Int.natCast_mul, Int.add_mul_emod_self_right, ← hρ, Int.emod_emod_of_dvd _ (Int.dvd_refl _)]
  have := List.Nodup.length_le_of_subset nd sub
  simp only [List.length_map, List.length_range] at this
  omega
/-- without a gain few places are come to -/
theorem no_gain {f : Nat → Int} {B L : Nat} (p : Per f B L 0) : ∀ T, ((Mw.ft f ((B + L + 1 : Nat) : Int) T).length : Int) ≠ (B + L + 1 : Nat) := by
  intro T
  have sub : ∀ x ∈ (Mw.ft f ((B + L + 1 : Nat) : Int) T).map (·.1), x ∈ (List.range (B + L)).map (fun t => f t % ((B + L + 1 : Nat) : Int)) := by
    intro x hx
    obtain ⟨t, _, e⟩ := (ft_keys x T).mp hx
    rw [List.mem_map]
    have hL := p.pos
    by_cases c : t < B + L
    · exact ⟨t, List.mem_range.mpr c, e⟩
    · have hm := Nat.mod_lt (t - B) hL
      have e2 : f ((B + (t - B) % L) + (t - B) / L * L) = f (B + (t - B) % L) + (((t - B) / L : Nat) : Int) * 0 := p.mul _ _ (by omega)
      have hd := Nat.div_add_mod (t - B) L
      rw [show (B + (t - B) % L) + (t - B) / L * L = t from by rw [Nat.mul_comm]; omega] at e2
      refine ⟨B + (t - B) % L, List.mem_range.mpr (by omega), ?_⟩
      show f _ % _ = x
      rw [← e, e2]
      simp
  have := List.Nodup.length_le_of_subset (ft_nodup T) sub
  simp only [List.length_map, List.length_range] at this
  omega
end Mw

/-! The shortest ring and head of a plan. -/
namespace Mw
/-- a text again and again -/
def rep (l : List Nat) : Nat → List Nat
  | 0 => []
  | k + 1 => l ++ rep l k
theorem rep_len (l : List Nat) (k : Nat) : (rep l k).length = k * l.length := by
  induction k with
  | zero => simp [rep]
  | succ k ih => rw [rep, List.length_append, ih, Nat.succ_mul, Nat.add_comm]
theorem rep_get (l : List Nat) (hl : 0 < l.length) : ∀ (k i : Nat), i < k * l.length → (rep l k)[i]? = l[i % l.length]?
  | 0, i, h => by simp at h
  | k + 1, i, h => by
    rw [rep]
    by_cases c : i < l.length
    · rw [List.getElem?_append_left c, Nat.mod_eq_of_lt c]
    · have e : i % l.length = (i - l.length) % l.length := Nat.mod_eq_sub_mod (by omega)
      rw [Nat.add_one_mul] at h
      rw [List.getElem?_append_right (by omega), rep_get l hl k (i - l.length) (by omega), e]
/-- size makes the ring -/
def lrT (l : List Nat) (s : Nat) : Bool := decide (l.length % s = 0) && decide (rep (l.take s) (l.length / s) = l)
def lround (l : List Nat) : List Nat := match ((List.range (l.length - 1)).map (· + 1)).find? (lrT l) with | some s => l.take s | none => l
theorem lround_some {l : List Nat} {i : Nat} (h : ∀ k, k < i → lrT l (k + 1) = false) (hi : i < l.length - 1) (ht : lrT l (i + 1) = true) : lround l = l.take (i + 1) := by
  have : ((List.range (l.length - 1)).map (· + 1)).find? (lrT l) = some (i + 1) := by
    have fr : (List.range (l.length - 1)).find? (lrT l ∘ fun x => x + 1) = some i := List.find?_range_eq_some.mpr ⟨ht, List.mem_range.mpr hi, fun j hj => by
      show (!lrT l (j + 1)) = true
      rw [h j hj]; rfl⟩
    rw [List.find?_map, fr]
    rfl
  unfold lround
  rw [this]
theorem lround_none {l : List Nat} (h : ∀ k, k < l.length - 1 → lrT l (k + 1) = false) : lround l = l := by
  have : ((List.range (l.length - 1)).map (· + 1)).find? (lrT l) = none := by
    rw [List.find?_eq_none]
    intro x hx
    obtain ⟨k, hk, rfl⟩ := List.mem_map.mp hx
    rw [h k (List.mem_range.mp hk)]
    exact Bool.false_ne_true
  unfold lround
  rw [this]
/-- either the ring itself, or the least size that makes it -/
theorem lround_cases (l : List Nat) : (lround l = l ∧ ∀ k, k < l.length - 1 → lrT l (k + 1) = false) ∨ ∃ i, i < l.length - 1 ∧ lround l = l.take (i + 1) ∧ lrT l (i + 1) = true ∧ ∀ k, k < i → lrT l (k + 1) = false := by
  cases h : (List.range (l.length - 1)).find? (fun k => lrT l (k + 1)) with
  | none =>
    left
    have : ∀ k, k < l.length - 1 → lrT l (k + 1) = false := fun k hk => by
      have := List.find?_eq_none.mp h k (List.mem_range.mpr hk)
      simpa using this
    exact ⟨lround_none this, this⟩
  | some i =>
    right
    obtain ⟨h1, h2, h3⟩ := List.find?_range_eq_some.mp h
    have h4 : ∀ k, k < i → lrT l (k + 1) = false := fun k hk => by simpa using h3 k hk
    exact ⟨i, List.mem_range.mp h2, lround_some h4 (List.mem_range.mp h2) h1, h1, h4⟩
/-- while the last steps are alike the head gives its last one away -/
def peel (h r : List Nat) : List Nat × List Nat :=
  if h ≠ [] ∧ h.getLast? = r.getLast? then peel h.dropLast (r.getLast?.toList ++ r.dropLast) else (h, r)
termination_by h.length
decreasing_by
  rename_i c
  rw [List.length_dropLast]
  have := List.length_pos_iff.mpr c.1
  omega
theorem peel_yes {h r : List Nat} (c : h ≠ [] ∧ h.getLast? = r.getLast?) : peel h r = peel h.dropLast (r.getLast?.toList ++ r.dropLast) := by rw [peel, if_pos c]
theorem peel_no {h r : List Nat} (c : ¬ (h ≠ [] ∧ h.getLast? = r.getLast?)) : peel h r = (h, r) := by rw [peel, if_neg c]
def plainP (p : Pl) : Pl := ⟨(peel p.h (lround p.r)).1, (peel p.h (lround p.r)).2⟩

/-! ### steps as a sequence -/
/-- from b on the sequence comes again every q -/
def PF (u : Nat → Nat) (b q : Nat) : Prop := ∀ k, b ≤ k → u (k + q) = u k
theorem PF.mono {u : Nat → Nat} {b b' q : Nat} (h : PF u b q) (hb : b ≤ b') : PF u b' q := fun k hk => h k (by omega)
theorem PF.mul {u : Nat → Nat} {b q : Nat} (h : PF u b q) (m : Nat) : PF u b (m * q) := by
  induction m with
  | zero => intro k _; simp
  | succ m ih =>
    intro k hk
    rw [Nat.succ_mul, ← Nat.add_assoc, h _ (by omega), ih k hk]
theorem PF.sub {u : Nat → Nat} {b p q : Nat} (hp : PF u b p) (hq : PF u b q) (h : p ≤ q) : PF u b (q - p) := fun k hk => by
  have h1 := hp (k + (q - p)) (by omega)
  rw [show k + (q - p) + p = k + q from by omega, hq k hk] at h1
  exact h1.symm
theorem PF.gcd {u : Nat → Nat} {b : Nat} : ∀ (n p q : Nat), p + q ≤ n → PF u b p → PF u b q → PF u b (Nat.gcd p q) := by
  intro n
  induction n with
  | zero => intro p q h hp _; have : p = 0 := by omega
            have : q = 0 := by omega
            subst_vars; exact hp
  | succ n ih =>
    intro p q h hp hq
    by_cases h0 : p = 0
    · subst h0; rw [Nat.gcd_zero_left]; exact hq
    · by_cases h1 : q = 0
      · subst h1; rw [Nat.gcd_zero_right]; exact hp
      · by_cases c : p ≤ q
        · have := ih p (q - p) (by omega) hp (hp.sub hq c)
          rwa [Nat.gcd_sub_self_right c] at this
        · have := ih (p - q) q (by omega) (hq.sub hp (by omega)) hq
          rwa [Nat.gcd_sub_self_left (by omega)] at this
/-- a period from afar is one from where another begins -/
theorem PF.back {u : Nat → Nat} {b N p q : Nat} (hp : PF u b p) (h0 : 0 < p) (hq : PF u N q) : PF u b q := fun k hk => by
  have h1 := hp.mul N k hk
  have h2 := hp.mul N (k + q) (by omega)
  have h3 : N ≤ N * p := Nat.le_mul_of_pos_right N h0
  have h4 := hq (k + N * p) (by omega)
  rw [show k + N * p + q = k + q + N * p from by omega, h2, h1] at h4
  exact h4
theorem getD_at {l : List Nat} {i : Nat} {x : Nat} (h : l[i]? = some x) : l.getD i 0 = x := by rw [List.getD_eq_getElem?_getD, h]; rfl
theorem stp_pf (h r : List Nat) : PF (stp h r) h.length r.length := fun k hk => by
  unfold stp
  rw [if_neg (by omega), if_neg (by omega), show k + r.length - h.length = (k - h.length) + r.length from by omega, Nat.add_mod_right]
theorem stp_head {h r : List Nat} {k : Nat} (hk : k < h.length) : h[k]? = some (stp h r k) := by
  unfold stp
  rw [if_pos hk, List.getElem?_eq_getElem hk, List.getD_eq_getElem?_getD, List.getElem?_eq_getElem hk]; rfl
theorem stp_ring {h r : List Nat} {k : Nat} (hk : k < r.length) : r[k]? = some (stp h r (h.length + k)) := by
  unfold stp
  rw [if_neg (by omega), Nat.add_sub_cancel_left, Nat.mod_eq_of_lt hk, List.getElem?_eq_getElem hk, List.getD_eq_getElem?_getD, List.getElem?_eq_getElem hk]; rfl
/-- the sequence tells the plan, its lengths known -/
theorem stp_inj {h r h' r' : List Nat} (e : ∀ k, stp h r k = stp h' r' k) (h1 : h.length = h'.length) (h2 : r.length = r'.length) : h = h' ∧ r = r' := by
  constructor
  · apply List.ext_getElem?
    intro k
    by_cases c : k < h.length
    · rw [stp_head (r := r) c, stp_head (r := r') (by omega), e]
    · rw [List.getElem?_eq_none (by omega), List.getElem?_eq_none (by omega)]
  · apply List.ext_getElem?
    intro k
    by_cases c : k < r.length
    · rw [stp_ring (h := h) c, stp_ring (h := h') (by omega), e, h1]
    · rw [List.getElem?_eq_none (by omega), List.getElem?_eq_none (by omega)]
theorem stp_ext {h r h' r' : List Nat} {b q : Nat} (p1 : PF (stp h r) b q) (p2 : PF (stp h' r') b q) (h0 : 0 < q) (e : ∀ k, k < b + q → stp h r k = stp h' r' k) : ∀ k, stp h r k = stp h' r' k := by
  intro k
  induction k using Nat.strongRecOn with
  | _ k ih =>
    by_cases c : k < b + q
    · exact e k c
    · have h1 := p1 (k - q) (by omega)
      have h2 := p2 (k - q) (by omega)
      rw [Nat.sub_add_cancel (by omega)] at h1 h2
      rw [h1, h2]
      exact ih (k - q) (by omega)
theorem lrT_iff {h l : List Nat} {s : Nat} (hs : 0 < s) (hl : s ≤ l.length) : lrT l s = true ↔ (s ∣ l.length ∧ PF (stp h l) h.length s) := by
  unfold lrT
  rw [Bool.and_eq_true, decide_eq_true_eq, decide_eq_true_eq]
  have tl : (l.take s).length = s := by rw [List.length_take]; omega
  constructor
  · rintro ⟨h1, h2⟩
    have hd : s ∣ l.length := Nat.dvd_of_mod_eq_zero h1
    refine ⟨hd, ?_⟩
    have get : ∀ i, i < l.length → l[i]? = l[i % s]? := fun i hi => by
      have h3 : i < l.length / s * (l.take s).length := by rw [tl, Nat.div_mul_cancel hd]; exact hi
      have h4 := rep_get (l.take s) (by omega) _ i h3
      rw [h2, tl, List.getElem?_take_of_lt (Nat.mod_lt _ hs)] at h4
      exact h4
    intro k hk
    have h5 : 0 < l.length := by omega
    unfold stp
    rw [if_neg (by omega), if_neg (by omega), List.getD_eq_getElem?_getD, List.getD_eq_getElem?_getD, get _ (Nat.mod_lt _ h5), get ((k - h.length) % l.length) (Nat.mod_lt _ h5), Nat.mod_mod_of_dvd _ hd, Nat.mod_mod_of_dvd _ hd,
      show k + s - h.length = (k - h.length) + s from by omega, Nat.add_mod_right]
  · rintro ⟨hd, pf⟩
    refine ⟨Nat.mod_eq_zero_of_dvd hd, ?_⟩
    apply List.ext_getElem?
    intro i
    have len : (rep (l.take s) (l.length / s)).length = l.length := by rw [rep_len, tl, Nat.div_mul_cancel hd]
    by_cases c : i < l.length
    · rw [rep_get (l.take s) (by omega) _ i (by rw [tl, Nat.div_mul_cancel hd]; exact c), tl, List.getElem?_take_of_lt (Nat.mod_lt _ hs), stp_ring (h := h) c, stp_ring (h := h) (Nat.lt_of_le_of_lt (Nat.mod_le _ _) c)]
      have h1 := pf.mul (i / s) (h.length + i % s) (by omega)
      rw [show h.length + i % s + i / s * s = h.length + i from by have := Nat.div_add_mod i s; rw [Nat.mul_comm]; omega] at h1
      rw [h1]
    · rw [List.getElem?_eq_none (by omega), List.getElem?_eq_none (by omega)]
/-- no lesser number makes the sequence come again -/
def Min (u : Nat → Nat) (q : Nat) : Prop := ∀ d N, 0 < d → d < q → ¬ PF u N d
theorem lround_len {l : List Nat} (h0 : 0 < l.length) : 0 < (lround l).length ∧ (lround l).length ≤ l.length := by
  rcases lround_cases l with ⟨e, _⟩ | ⟨i, hi, e, _⟩
  · rw [e]; omega
  · rw [e, List.length_take]; omega
theorem lround_stp {h l : List Nat} (h0 : 0 < l.length) : ∀ k, stp h (lround l) k = stp h l k := by
  rcases lround_cases l with ⟨e, _⟩ | ⟨i, hi, e, ht, _⟩
  · rw [e]; exact fun _ => rfl
  · have tl : (l.take (i + 1)).length = i + 1 := by rw [List.length_take]; omega
    obtain ⟨hd, pf⟩ := (lrT_iff (h := h) (by omega) (by omega)).mp ht
    rw [e]
    refine stp_ext (b := h.length) (q := i + 1) ?_ pf (by omega) fun k hk => ?_
    · have := stp_pf h (l.take (i + 1)); rwa [tl] at this
    · by_cases c : k < h.length
      · unfold stp; rw [if_pos c, if_pos c]
      · unfold stp
        rw [if_neg c, if_neg c, tl, Nat.mod_eq_of_lt (by omega), Nat.mod_eq_of_lt (by omega), List.getD_eq_getElem?_getD, List.getD_eq_getElem?_getD, List.getElem?_take_of_lt (by omega)]
theorem lround_min {h l : List Nat} (h0 : 0 < l.length) : Min (stp h l) (lround l).length := by
  intro d N d0 dl pf
  have p1 := stp_pf h l
  have pd : PF (stp h l) h.length d := p1.back h0 pf
  have pg := PF.gcd (u := stp h l) (b := h.length) _ d l.length (Nat.le_refl _) pd p1
  have g0 : 0 < Nat.gcd d l.length := Nat.gcd_pos_of_pos_left _ d0
  have gd : Nat.gcd d l.length ≤ d := Nat.le_of_dvd d0 (Nat.gcd_dvd_left _ _)
  have gl : Nat.gcd d l.length ≤ l.length := Nat.le_of_dvd h0 (Nat.gcd_dvd_right _ _)
  have yes := (lrT_iff (h := h) g0 gl).mpr ⟨Nat.gcd_dvd_right _ _, pg⟩
  rcases lround_cases l with ⟨e, no⟩ | ⟨i, hi, e, ht, no⟩
  · rw [e] at dl
    have := no (Nat.gcd d l.length - 1) (by omega)
    rw [Nat.sub_add_cancel g0, yes] at this
    cases this
  · rw [e, List.length_take] at dl
    have := no (Nat.gcd d l.length - 1) (by omega)
    rw [Nat.sub_add_cancel g0, yes] at this
    cases this
/-- one step given away: the same sequence -/
theorem peel_step {h r : List Nat} (c : h ≠ [] ∧ h.getLast? = r.getLast?) : (∀ k, stp h.dropLast (r.getLast?.toList ++ r.dropLast) k = stp h r k) ∧ (r.getLast?.toList ++ r.dropLast).length = r.length ∧ r ≠ [] := by
  obtain ⟨hn, hl⟩ := c
  have hp := List.length_pos_iff.mpr hn
  have rn : r ≠ [] := by
    intro e; subst e
    rw [List.getLast?_nil, List.getLast?_eq_none_iff] at hl
    exact hn hl
  have rp := List.length_pos_iff.mpr rn
  obtain ⟨x, hx⟩ : ∃ x, r.getLast? = some x := ⟨r.getLast rn, List.getLast?_eq_some_getLast rn⟩
  have hlen : (r.getLast?.toList ++ r.dropLast).length = r.length := by
    rw [hx, List.length_append, List.length_dropLast]
    show 1 + (r.length - 1) = r.length
    omega
  refine ⟨?_, hlen, rn⟩
  have hdl : h.dropLast.length = h.length - 1 := List.length_dropLast
  have lastH : h[h.length - 1]? = some x := by rw [← List.getLast?_eq_getElem?, hl, hx]
  have lastR : r[r.length - 1]? = some x := by rw [← List.getLast?_eq_getElem?, hx]
  have g0 : ∀ j, j < r.length - 1 → (r.getLast?.toList ++ r.dropLast)[j + 1]? = r[j]? := fun j hj => by
    rw [hx]
    show (x :: r.dropLast)[j + 1]? = _
    rw [List.getElem?_cons_succ, List.dropLast_eq_take, List.getElem?_take_of_lt (by omega)]
  have gz : (r.getLast?.toList ++ r.dropLast)[0]? = some x := by rw [hx]; rfl
  refine stp_ext (b := h.length) (q := r.length) ?_ (stp_pf h r) rp fun k hk => ?_
  · have := stp_pf h.dropLast (r.getLast?.toList ++ r.dropLast)
    rw [hlen] at this
    exact this.mono (by omega)
  · unfold stp
    rw [hdl, hlen]
    by_cases c1 : k < h.length - 1
    · rw [if_pos c1, if_pos (by omega), List.getD_eq_getElem?_getD, List.getD_eq_getElem?_getD, List.dropLast_eq_take, List.getElem?_take_of_lt (by omega)]
    · rw [if_neg c1]
      by_cases c2 : k < h.length
      · have ek : k = h.length - 1 := by omega
        subst ek
        rw [if_pos c2, Nat.sub_self, Nat.zero_mod, getD_at gz, getD_at lastH]
      · rw [if_neg c2]
        by_cases c3 : k - h.length + 1 < r.length
        · rw [show k - (h.length - 1) = (k - h.length) + 1 from by omega, Nat.mod_eq_of_lt c3, Nat.mod_eq_of_lt (by omega), List.getD_eq_getElem?_getD, List.getD_eq_getElem?_getD, g0 _ (by omega)]
        · have e1 : k - (h.length - 1) = r.length := by omega
          have e2 : k - h.length = r.length - 1 := by omega
          rw [e1, e2, Nat.mod_self, Nat.mod_eq_of_lt (by omega), getD_at gz, getD_at lastR]
structure Norm (u : Nat → Nat) (h r : List Nat) : Prop where
  seq : ∀ k, stp h r k = u k
  r0 : 0 < r.length
  min : Min u r.length
  nol : h = [] ∨ h.getLast? ≠ r.getLast?
theorem peel_norm : ∀ (n : Nat) (h r : List Nat), h.length = n → 0 < r.length → Min (stp h r) r.length → Norm (stp h r) (peel h r).1 (peel h r).2 ∧ (peel h r).1.length ≤ h.length ∧ (peel h r).2.length = r.length := by
  intro n
  induction n with
  | zero =>
    intro h r hn r0 mn
    have : h = [] := List.length_eq_zero_iff.mp hn
    subst this
    rw [peel_no (by simp)]
    exact ⟨⟨fun _ => rfl, r0, mn, .inl rfl⟩, Nat.le_refl _, rfl⟩
  | succ n ih =>
    intro h r hn r0 mn
    by_cases c : h ≠ [] ∧ h.getLast? = r.getLast?
    · obtain ⟨s1, s2, s3⟩ := peel_step c
      rw [peel_yes c]
      have e : stp h.dropLast (r.getLast?.toList ++ r.dropLast) = stp h r := funext s1
      have q := ih h.dropLast (r.getLast?.toList ++ r.dropLast) (by rw [List.length_dropLast]; omega) (by omega) (by rw [e, s2]; exact mn)
      rw [e, s2, List.length_dropLast] at q
      exact ⟨q.1, by omega, q.2.2⟩
    · rw [peel_no c]
      refine ⟨⟨fun _ => rfl, r0, mn, ?_⟩, Nat.le_refl _, rfl⟩
      by_cases hz : h = []
      · exact .inl hz
      · exact .inr fun e => c ⟨hz, e⟩
theorem plain_norm {p : Pl} (h0 : 0 < p.r.length) : Norm (stp p.h p.r) (plainP p).h (plainP p).r ∧ (plainP p).h.length ≤ p.h.length ∧ (plainP p).r.length ≤ p.r.length := by
  have e : stp p.h (lround p.r) = stp p.h p.r := funext (lround_stp h0)
  have q := peel_norm _ p.h (lround p.r) rfl (lround_len h0).1 (by rw [e]; exact lround_min h0)
  rw [e] at q
  refine ⟨q.1, q.2.1, ?_⟩
  show (peel p.h (lround p.r)).2.length ≤ _
  have := q.2.2
  have := (lround_len h0).2
  omega
theorem Norm.uniq {u : Nat → Nat} {h r h' r' : List Nat} (a : Norm u h r) (b : Norm u h' r') : h = h' ∧ r = r' := by
  have fa : stp h r = u := funext a.seq
  have fb : stp h' r' = u := funext b.seq
  have pa : PF u h.length r.length := fa ▸ stp_pf h r
  have pb : PF u h'.length r'.length := fb ▸ stp_pf h' r'
  have er : r.length = r'.length := by
    rcases Nat.lt_trichotomy r.length r'.length with c | c | c
    · exact absurd pa (b.min _ _ a.r0 c)
    · exact c
    · exact absurd pb (a.min _ _ b.r0 c)
  -- the head that is longer could give a step away
  have key : ∀ {h r h' r' : List Nat}, Norm u h r → Norm u h' r' → r.length = r'.length → ¬ h.length < h'.length := by
    intro h r h' r' a b er lt
    have fa : stp h r = u := funext a.seq
    have fb : stp h' r' = u := funext b.seq
    have pa : PF u h.length r.length := fa ▸ stp_pf h r
    have nn : h' ≠ [] := by intro e; subst e; simp at lt
    rcases b.nol with e | ne
    · exact nn e
    · apply ne
      have h1 := stp_head (h := h') (r := r') (k := h'.length - 1) (by omega)
      have h2 := stp_ring (h := h') (r := r') (k := r'.length - 1) (by have := b.r0; omega)
      rw [fb] at h1 h2
      have h3 := pa (h'.length - 1) (by omega)
      rw [show h'.length + (r'.length - 1) = h'.length - 1 + r.length from by have := b.r0; omega, h3] at h2
      rw [List.getLast?_eq_getElem?, List.getLast?_eq_getElem?, h1, h2]
  have eh : h.length = h'.length := by
    have k1 := key a b er
    have k2 := key b a er.symm
    omega
  exact stp_inj (fun k => (a.seq k).trans (b.seq k).symm) eh er
/-- two plans do the same steps for ever just where their shortest forms are one -/
theorem plain_iff {p q : Pl} (hp : 0 < p.r.length) (hq : 0 < q.r.length) : plainP p = plainP q ↔ ∀ k, stp p.h p.r k = stp q.h q.r k := by
  have np := (plain_norm hp).1
  have nq := (plain_norm hq).1
  constructor
  · intro e k
    rw [← np.seq, ← nq.seq, e]
  · intro e
    have : stp p.h p.r = stp q.h q.r := funext e
    rw [this] at np
    obtain ⟨e1, e2⟩ := np.uniq nq
    show Pl.mk _ _ = Pl.mk _ _
    congr 1
/-- seen for long enough, seen for ever -/
theorem window {p q : Pl} (hp : 0 < p.r.length) (hq : 0 < q.r.length) {N : Nat} (h1 : p.h.length + p.r.length + q.r.length ≤ N) (h2 : q.h.length + p.r.length + q.r.length ≤ N) (e : ∀ k, k < N → stp p.h p.r k = stp q.h q.r k) : ∀ k, stp p.h p.r k = stp q.h q.r k := by
  intro k
  have p1 := stp_pf p.h p.r
  have p2 := stp_pf q.h q.r
  induction k using Nat.strongRecOn with
  | _ k ih =>
    by_cases c : k < N
    · exact e k c
    · have a1 := p1 (k - p.r.length) (by omega)
      have a2 := p2 (k - p.r.length - q.r.length) (by omega)
      have a3 := p1 (k - q.r.length - p.r.length) (by omega)
      have a4 := p2 (k - q.r.length) (by omega)
      rw [Nat.sub_add_cancel (by omega)] at a1 a2 a3 a4
      have i1 := ih (k - p.r.length) (by omega)
      have i2 := ih (k - p.r.length - q.r.length) (by omega)
      have i3 := ih (k - q.r.length) (by omega)
      rw [show k - q.r.length - p.r.length = k - p.r.length - q.r.length from by omega] at a3
      rw [a1, i1, a2, ← i2, ← a3, i3, ← a4]
end Mw

/-! Texts of plans: cut at blanks, read. Codes: 32 a blank, 102 f, 98 b, 115 s. -/
namespace Mw
def wds : List Nat → List Nat → List (List Nat)
  | acc, [] => [acc]
  | acc, c :: r => if c = 32 then acc :: wds [] r else wds (acc ++ [c]) r
theorem wds_ne : ∀ z acc, wds acc z ≠ []
  | [], acc => by simp [wds]
  | c :: r, acc => by
    rw [wds]
    split
    · simp
    · exact wds_ne r _
theorem wds_len : ∀ z acc, ∀ w ∈ wds acc z, w.length ≤ acc.length + z.length
  | [], acc, w, h => by
    rw [wds, List.mem_singleton] at h
    subst h; simp
  | c :: r, acc, w, h => by
    rw [wds] at h
    rw [List.length_cons]
    split at h
    · rcases List.mem_cons.mp h with rfl | h
      · omega
      · have := wds_len r [] w h
        rw [List.length_nil] at this
        omega
    · have := wds_len r _ w h
      rw [List.length_append, List.length_singleton] at this
      omega
theorem wds_cnt : ∀ z acc, (wds acc z).length ≤ z.length + 1
  | [], acc => by simp [wds]
  | c :: r, acc => by
    rw [wds, List.length_cons]
    split
    · have := wds_cnt r []
      rw [List.length_cons]; omega
    · have := wds_cnt r (acc ++ [c]); omega
theorem wds_word : ∀ (h : List Nat) (r acc : List Nat), 32 ∉ h → wds acc (h ++ 32 :: r) = (acc ++ h) :: wds [] r
  | [], r, acc, _ => by rw [List.nil_append, wds, if_pos rfl, List.append_nil]
  | c :: h, r, acc, hc => by
    have h1 : ¬ c = 32 := fun e => hc (e ▸ List.mem_cons_self)
    have h2 : 32 ∉ h := fun e => hc (List.mem_cons_of_mem _ e)
    rw [List.cons_append, wds, if_neg h1, wds_word h r _ h2, List.append_assoc]
    rfl
theorem wds_last : ∀ (h acc : List Nat), 32 ∉ h → wds acc h = [acc ++ h]
  | [], acc, _ => by rw [wds, List.append_nil]
  | c :: h, acc, hc => by
    have h1 : ¬ c = 32 := fun e => hc (e ▸ List.mem_cons_self)
    have h2 : 32 ∉ h := fun e => hc (List.mem_cons_of_mem _ e)
    rw [wds, if_neg h1, wds_last h _ h2, List.append_assoc]
    rfl
def thenL : List Nat := [116, 104, 101, 110]
/-- "then ring", "head then ring" -/
def textL (p : Pl) : List Nat := if p.h = [] then thenL ++ 32 :: p.r else p.h ++ 32 :: (thenL ++ 32 :: p.r)
theorem wds_text {p : Pl} (h1 : 32 ∉ p.h) (h2 : 32 ∉ p.r) : wds [] (textL p) = if p.h = [] then [thenL, p.r] else [p.h, thenL, p.r] := by
  have e : wds [] (thenL ++ 32 :: p.r) = [thenL, p.r] := by
    rw [wds_word _ _ _ (by decide), wds_last _ _ h2]; rfl
  unfold textL
  split
  · exact e
  · rw [wds_word _ _ _ h1, e]; rfl
theorem textL_len (p : Pl) : (textL p).length ≤ p.h.length + p.r.length + 6 := by
  unfold textL thenL
  split <;> simp [List.length_append] <;> omega
/-- three words that make a plan: A what a head must be, B what a ring must be -/
def rd3 (A B : List Nat → Bool) : List (List Nat) → Option Pl
  | [h, a, b] => if a = thenL ∧ A h = true ∧ B b = true then some ⟨h, b⟩ else none
  | _ => none
def rdW (A B : List Nat → Bool) (ws : List (List Nat)) : Option Pl := if ws.length = 2 then rd3 A B ([] :: ws) else if ws.head? = some [] then none else rd3 A B ws
def readL (A B : List Nat → Bool) (z : List Nat) : Option Pl := rdW A B (wds [] z)
theorem read_text {A B : List Nat → Bool} {p : Pl} (h1 : 32 ∉ p.h) (h2 : 32 ∉ p.r) (ha : A p.h = true) (hb : B p.r = true) : readL A B (textL p) = some p := by
  unfold readL
  rw [wds_text h1 h2]
  split
  · rename_i h
    unfold rdW
    rw [if_pos (show [thenL, p.r].length = 2 from rfl)]
    rw [h] at ha
    simp only [rd3, ha, hb, and_self, if_true]
    cases p; simp_all
  · rename_i h
    unfold rdW
    rw [if_neg (by show ¬ 3 = 2; decide), if_neg (by simp [h])]
    simp only [rd3, ha, hb, and_self, if_true]
end Mw

/-! The least begin and round that a window of 40 steps shows are those of the plain form. -/
namespace Mw
def WOk (u : Nat → Nat) (b q : Nat) : Prop := ∀ k, b ≤ k → k < 40 - q → sv (u k) = sv (u (k + q))
theorem pf_reduce {u : Nat → Nat} {B R : Nat} (p : PF u B R) (k : Nat) (hk : B ≤ k) : u k = u (B + (k - B) % R) := by
  have := p.mul ((k - B) / R) (B + (k - B) % R) (by omega)
  rw [← this]
  congr 1
  have := Nat.div_add_mod (k - B) R
  rw [Nat.mul_comm] at this
  omega
theorem wok_pf {u : Nat → Nat} {b q B R : Nat} (hi : ∀ j k, sv (u j) = sv (u k) → u j = u k) (p : PF u B R) (hB : B ≤ 6) (hR0 : 0 < R) (hR : R ≤ 6) (hb : b ≤ 6) (hq : q ≤ 6) (h : WOk u b q) : PF u b q := fun k hk => by
  by_cases c : k < 12
  · exact (hi _ _ (h k hk (by omega))).symm
  · have p6 : PF u 6 R := p.mono hB
    have hm := Nat.mod_lt (k - 6) hR0
    have e1 := pf_reduce p6 k (by omega)
    have e2 : u (k + q) = u (6 + (k - 6) % R + q) := by
      have := p6.mul ((k - 6) / R) (6 + (k - 6) % R + q) (by omega)
      rw [← this]
      congr 1
      have := Nat.div_add_mod (k - 6) R
      rw [Nat.mul_comm] at this
      omega
    rw [e1, e2]
    exact (hi _ _ (h _ (by omega) (by omega))).symm
theorem least_yes {p : Pl} (hp : Ok p) : WOk (stp p.h p.r) (plainP p).h.length (plainP p).r.length := fun k hk _ => by
  have n := (plain_norm hp.r0).1
  have := stp_pf (plainP p).h (plainP p).r k hk
  rw [n.seq, n.seq] at this
  rw [this]
theorem least_no {p : Pl} (hp : Ok p) (hi : ∀ j k, sv (stp p.h p.r j) = sv (stp p.h p.r k) → stp p.h p.r j = stp p.h p.r k) {b q : Nat} (hb : b ≤ 6) (hq0 : 0 < q) (hq : q ≤ 6) (h : WOk (stp p.h p.r) b q) : (plainP p).r.length ≤ q ∧ (q = (plainP p).r.length → (plainP p).h.length ≤ b) := by
  have n := (plain_norm hp.r0).1
  have pf := wok_pf hi (stp_pf p.h p.r) hp.hl hp.r0 hp.rl hb hq h
  refine ⟨?_, ?_⟩
  · rcases Nat.lt_or_ge q (plainP p).r.length with c | c
    · exact absurd pf (n.min q b hq0 c)
    · exact c
  · rintro rfl
    rcases Nat.lt_or_ge b (plainP p).h.length with c | c
    · exfalso
      have h1 : (plainP p).h.getLast? = some (stp (plainP p).h (plainP p).r ((plainP p).h.length - 1)) := by
        rw [List.getLast?_eq_getElem?]; exact stp_head (by omega)
      have h2 : (plainP p).r.getLast? = some (stp (plainP p).h (plainP p).r ((plainP p).h.length + ((plainP p).r.length - 1))) := by
        rw [List.getLast?_eq_getElem?]; exact stp_ring (by omega)
      rcases n.nol with e | e
      · rw [e] at c; cases c
      · apply e
        rw [h1, h2, n.seq, n.seq]
        congr 1
        have := pf ((plainP p).h.length - 1) (by omega)
        rw [← this]
        congr 1
        omega
    · exact c
/-- the ring's first step written at the head's end -/
theorem shift_stp (h r : List Nat) (r0 : 0 < r.length) (k : Nat) : stp (h ++ r.take 1) (r.drop 1 ++ r.take 1) k = stp h r k := by
  cases r with
  | nil => cases r0
  | cons c rs =>
    show stp (h ++ [c]) (rs ++ [c]) k = stp h (c :: rs) k
    unfold stp
    rw [List.length_append, List.length_append, List.length_singleton, List.length_cons]
    by_cases c1 : k < h.length
    · rw [if_pos (by omega), if_pos c1, List.getD_eq_getElem?_getD, List.getD_eq_getElem?_getD, List.getElem?_append_left c1]
    · rw [if_neg c1]
      by_cases c2 : k = h.length
      · subst c2
        rw [if_pos (by omega), Nat.sub_self, Nat.zero_mod, List.getD_eq_getElem?_getD, List.getElem?_append_right (Nat.le_refl _), Nat.sub_self]
        rfl
      · rw [if_neg (by omega)]
        obtain ⟨m, hm⟩ : ∃ m, k - h.length = m + 1 := ⟨k - h.length - 1, by omega⟩
        rw [show k - (h.length + 1) = m from by omega, hm]
        have hL : m % (rs.length + 1) < rs.length + 1 := Nat.mod_lt _ (by omega)
        by_cases c3 : m % (rs.length + 1) = rs.length
        · have e0 : (m + 1) % (rs.length + 1) = 0 := by
            rw [Nat.add_mod, c3]
            by_cases z : rs.length = 0
            · rw [z]
            · rw [Nat.mod_eq_of_lt (show 1 < rs.length + 1 from by omega), Nat.mod_self]
          rw [e0, c3, List.getD_eq_getElem?_getD, List.getElem?_append_right (Nat.le_refl _), Nat.sub_self]
          rfl
        · have e1 : (m + 1) % (rs.length + 1) = m % (rs.length + 1) + 1 := by
            rw [Nat.add_mod, Nat.mod_eq_of_lt (show 1 < rs.length + 1 from by omega), Nat.mod_eq_of_lt (by omega)]
          rw [e1, List.getD_eq_getElem?_getD, List.getD_eq_getElem?_getD, List.getElem?_append_left (by omega), List.getElem?_cons_succ]
end Mw

/-! Whether all cases are met, whatever the delay; the least case that is not. -/
namespace Mw
def fo (p q : Pl) (d : Int) : Nat → Int := fun t => off p q d (t : Int)
theorem fo_per {p q : Pl} (hp : 0 < p.r.length) (hq : 0 < q.r.length) (d : Int) : Per (fo p q d) (beg p q d) (lcmP p q) (gain p q) := off_per hp hq d
/-- whatever the delay, the rests are full where they are so for the delays of one round -/
theorem EF_all {p q : Pl} (hp : 0 < p.r.length) (hq : 0 < q.r.length) (h : ∀ d : Nat, d < lcmP p q → EF (fo p q (d : Int)) (beg p q (d : Int)) (lcmP p q) (gain p q)) (d : Int) :
    EF (fo p q d) (beg p q d) (lcmP p q) (gain p q) := by
  have hL : 0 < lcmP p q := lcm_pos hp hq
  have e1 := Int.emod_add_mul_ediv d (lcmP p q : Int)
  have b0 := Int.emod_nonneg d (show (lcmP p q : Int) ≠ 0 by omega)
  have b1 := Int.emod_lt_of_pos d (show (0 : Int) < lcmP p q by omega)
  generalize hd2 : (d % (lcmP p q : Int)).toNat = d2
  have ed2 : d % (lcmP p q : Int) = (d2 : Int) := by omega
  rw [ed2] at e1 b1
  generalize hk : d / (lcmP p q : Int) = k at e1
  have hm := lcm_b p q
  generalize hmm : lcmP p q / q.r.length = m at hm
  refine EF.move (fo_per hp hq (d2 : Int)) (fo_per hp hq d) (h d2 (by omega)) (p.h.length + q.h.length + d.natAbs + lcmP p q) (max 0 (-d)).toNat (k * m * tot q.r) fun t ht => ?_
  have a1 : fo p q d (t + (max 0 (-d)).toNat) = p.W (t : Int) - q.W ((t : Int) - d) := by
    unfold fo off
    congr 2 <;> omega
  have a2 : fo p q (d2 : Int) t = p.W (t : Int) - q.W ((t : Int) - d2) := by
    unfold fo off
    congr 2 <;> omega
  rw [a1, a2]
  rcases Int.le_total 0 k with hk0 | hk0
  · obtain ⟨j, rfl⟩ := Int.eq_ofNat_of_zero_le hk0
    have w := Pl.W_shift hq (j * m) ((t : Int) - d) (by omega)
    have e2 : ((j * m * q.r.length : Nat) : Int) = (lcmP p q : Int) * (j : Int) := by
      rw [Nat.mul_assoc, hm, Int.natCast_mul, Int.mul_comm]
    rw [e2, show (t : Int) - d + (lcmP p q : Int) * (j : Int) = (t : Int) - d2 from by omega] at w
    rw [w, Int.natCast_mul]
    omega
  · obtain ⟨j, hj⟩ := Int.eq_ofNat_of_zero_le (show 0 ≤ -k by omega)
    have hk' : k = -(j : Int) := by omega
    subst hk'
    have w := Pl.W_shift hq (j * m) ((t : Int) - d2) (by omega)
    have e2 : ((j * m * q.r.length : Nat) : Int) = (lcmP p q : Int) * (j : Int) := by
      rw [Nat.mul_assoc, hm, Int.natCast_mul, Int.mul_comm]
    have e3 : (lcmP p q : Int) * -(j : Int) = -((lcmP p q : Int) * (j : Int)) := Int.mul_neg _ _
    rw [e3] at e1
    rw [e2, show (t : Int) - d2 + (lcmP p q : Int) * (j : Int) = (t : Int) - d from by omega] at w
    rw [w, Int.natCast_mul, Int.neg_mul, Int.neg_mul]
    omega
/-- all gaps of a ring are met -/
def okT (p q : Pl) (n : Nat) (d : Int) : Bool := decide ((ft (fo p q d) (n : Int) (beg p q d + lcmP p q * n + 1)).length = n)
/-- looked at for longer it is the same -/
theorem okT_late {p q : Pl} (hp : 0 < p.r.length) (hq : 0 < q.r.length) {n : Nat} (hn : 0 < n) (d : Int) {T : Nat} (hT : beg p q d + lcmP p q * n ≤ T) : ft (fo p q d) (n : Int) T = ft (fo p q d) (n : Int) (beg p q d + lcmP p q * n + 1) := by
  rw [(fo_per hp hq d).ft hn (Nat.le_refl _) hT, ← (fo_per hp hq d).ft hn (Nat.le_refl _) (Nat.le_succ _)]
theorem okT_full {p q : Pl} (hp : 0 < p.r.length) (hq : 0 < q.r.length) {d : Int} (h : EF (fo p q d) (beg p q d) (lcmP p q) (gain p q)) {n : Nat} (hn : 0 < n) : okT p q n d = true := by
  have := EF.ft (fo_per hp hq d) h hn (T := beg p q d + lcmP p q * n + 1) (by omega)
  unfold okT
  exact decide_eq_true (by omega)
theorem okT_one {p q : Pl} (d : Int) : okT p q 1 d = true := by
  have : ((ft (fo p q d) ((1 : Nat) : Int) (beg p q d + lcmP p q * 1 + 1)).length : Int) = ((1 : Nat) : Int) := by
    rw [ft_full_iff (by decide)]
    intro g h0 h1
    exact ⟨0, by omega, by rw [show g = 0 from by omega]; exact Int.emod_one _⟩
  unfold okT
  exact decide_eq_true (by omega)
/-! ### the delays, nearest to 0 first -/
def delL : Nat → List Int
  | 0 => [0]
  | m + 1 => delL m ++ [(m : Int) + 1, -((m : Int) + 1)]
theorem delL_len : ∀ m, (delL m).length = 2 * m + 1
  | 0 => rfl
  | m + 1 => by rw [delL, List.length_append, delL_len m]; simp; omega
theorem mem_delL {d : Int} : ∀ m, d ∈ delL m ↔ d.natAbs ≤ m
  | 0 => by simp [delL]
  | m + 1 => by
    rw [delL, List.mem_append, mem_delL m]
    simp only [List.mem_cons, List.not_mem_nil, or_false]
    omega
theorem delL_pre {m : Nat} : ∀ k, ∃ r, delL (m + k) = delL m ++ r
  | 0 => ⟨[], by simp⟩
  | k + 1 => by
    obtain ⟨r, e⟩ := delL_pre (m := m) k
    exact ⟨r ++ [((m + k : Nat) : Int) + 1, -(((m + k : Nat) : Int) + 1)], by rw [← Nat.add_assoc, delL, e, List.append_assoc]⟩
/-- the delays in the law's order -/
def lawDel (m : Nat) : List Int := (List.range (m + 1)).flatMap fun s : Nat => [(s : Int), -(s : Int)]
theorem lawDel_succ (m : Nat) : lawDel (m + 1) = lawDel m ++ [(m : Int) + 1, -((m : Int) + 1)] := by
  unfold lawDel
  rw [List.range_succ, List.flatMap_append]
  simp
theorem lawDel_find (P : Int → Bool) : ∀ m, (lawDel m).find? P = (delL m).find? P
  | 0 => by
    show [((0 : Nat) : Int), -((0 : Nat) : Int)].find? P = [(0 : Int)].find? P
    show [(0 : Int), 0].find? P = _
    rw [List.find?_cons, List.find?_cons]
    cases P 0 <;> rfl
  | m + 1 => by rw [lawDel_succ, delL, List.find?_append, List.find?_append, lawDel_find P m]
theorem find_near {P : Int → Bool} {m : Nat} {d : Int} (h : (delL m).find? P = some d) : (delL d.natAbs).find? P = some d := by
  have hm := (mem_delL m).mp (List.mem_of_find?_eq_some h)
  have hP := List.find?_some h
  obtain ⟨r, e⟩ := delL_pre (m := d.natAbs) (m - d.natAbs)
  rw [show d.natAbs + (m - d.natAbs) = m from by omega] at e
  rw [e, List.find?_append] at h
  cases h2 : (delL d.natAbs).find? P with
  | some x => rw [h2] at h; exact h
  | none =>
    have := List.find?_eq_none.mp h2 d ((mem_delL _).mpr (Nat.le_refl _))
    exact absurd hP this
theorem find_none {P : Int → Bool} {m m' : Nat} (h : (delL m).find? P = none) (hm : m' ≤ m) : (delL m').find? P = none :=
  List.find?_eq_none.mpr fun d hd => List.find?_eq_none.mp h d ((mem_delL m).mpr (Nat.le_trans ((mem_delL m').mp hd) hm))
/-! ### what is missed -/
def farP (p q : Pl) (n : Nat) : Nat := max (p.h.length + 2 * p.r.length * n) (q.h.length + 2 * q.r.length * n)
theorem farP_le {p q : Pl} (op : Ok p) (oq : Ok q) (n : Nat) : farP p q n ≤ 6 + 12 * n ∧ n ≤ farP p q n := by
  have h1 := op.hl
  have h2 := oq.hl
  have e1 : 2 * p.r.length * n ≤ 12 * n := Nat.mul_le_mul_right _ (by have := op.rl; omega)
  have e2 : 2 * q.r.length * n ≤ 12 * n := Nat.mul_le_mul_right _ (by have := oq.rl; omega)
  have e3 : 1 * n ≤ 2 * p.r.length * n := Nat.mul_le_mul_right _ (by have := op.r0; omega)
  unfold farP
  omega
/-- the nearest delay with which some gap is never met -/
def missD (p q : Pl) (n : Nat) : Option Int := (delL (farP p q n)).find? fun d => !okT p q n d
/-- the gaps that are never met -/
def gapsL (p q : Pl) (n : Nat) (d : Int) : List Int := ((List.range n).map fun g : Nat => (g : Int)).filter fun g => !decide (g ∈ (ft (fo p q d) (n : Int) (beg p q d + lcmP p q * n + 1)).map (·.1))
theorem gaps_ne {p q : Pl} {n : Nat} (hn : 0 < n) {d : Int} (h : okT p q n d = false) : gapsL p q n d ≠ [] := fun e => by
  have h := of_decide_eq_false h
  apply h
  have : ((ft (fo p q d) (n : Int) (beg p q d + lcmP p q * n + 1)).length : Int) = (n : Int) := by
    rw [ft_full_iff (by omega)]
    intro g h0 h1
    refine (ft_keys g _).mp ?_
    false_or_by_contra
    rename_i hc
    have hm : g ∈ gapsL p q n d := List.mem_filter.mpr ⟨List.mem_map.mpr ⟨g.toNat, List.mem_range.mpr (by omega), by omega⟩, by rw [decide_eq_false hc]; rfl⟩
    rw [e] at hm; cases hm
  omega
def gapT (p q : Pl) (n : Nat) (d : Int) : Int := (gapsL p q n d).headD 0
theorem gap_head {p q : Pl} {n : Nat} (hn : 0 < n) {d : Int} (h : okT p q n d = false) : (gapsL p q n d)[0]? = some (gapT p q n d) := by
  have := gaps_ne hn h
  unfold gapT
  cases hh : gapsL p q n d with
  | nil => exact absurd hh this
  | cons x l => rfl
theorem gap_least {p q : Pl} {n : Nat} (hn : 0 < n) {d : Int} (h : okT p q n d = false) : gapT p q n d ∈ gapsL p q n d ∧ ∀ y ∈ gapsL p q n d, gapT p q n d ≤ y := by
  have hne := gaps_ne hn h
  have hp : (gapsL p q n d).Pairwise (· < ·) := by
    refine List.Pairwise.filter _ (List.pairwise_map.mpr ?_)
    exact List.Pairwise.imp (fun h => by omega) List.pairwise_lt_range
  unfold gapT
  cases hh : gapsL p q n d with
  | nil => exact absurd hh hne
  | cons x l =>
    rw [hh] at hp
    refine ⟨List.mem_cons_self, fun y hy => ?_⟩
    show x ≤ y
    rcases List.mem_cons.mp hy with rfl | hy
    · omega
    · have := (List.pairwise_cons.mp hp).1 y hy; omega
theorem missD_one {p q : Pl} : missD p q 1 = none := List.find?_eq_none.mpr fun d _ => by rw [okT_one]; simp
/-- the least number of places with which something is missed -/
def nevN (p q : Pl) : Nat := (((List.range 3100).map (· + 2)).find? fun n => (missD p q n).isSome).getD 0
theorem gain_abs {p q : Pl} (op : Ok p) (oq : Ok q) : (gain p q).natAbs ≤ 72 := by
  have h1 := tot_abs p.r
  have h2 := tot_abs q.r
  have l1 := lcm_a p q
  have l2 := lcm_b p q
  have l36 : lcmP p q ≤ 36 := Nat.le_trans (lcm_le p q) (Nat.le_trans (Nat.mul_le_mul op.rl oq.rl) (by decide))
  have key : ∀ {x : Int} {r m : Nat}, -(r : Int) ≤ x → x ≤ r → m * r = lcmP p q → -36 ≤ x * (m : Int) ∧ x * (m : Int) ≤ 36 := fun {x r m} a b e => by
    have e1 : (r : Int) * (m : Int) = (lcmP p q : Int) := by rw [Int.mul_comm, ← Int.natCast_mul, e]
    have e2 : x * (m : Int) ≤ (r : Int) * (m : Int) := Int.mul_le_mul_of_nonneg_right b (by omega)
    have e3 : -(r : Int) * (m : Int) ≤ x * (m : Int) := Int.mul_le_mul_of_nonneg_right a (by omega)
    rw [Int.neg_mul] at e3
    omega
  have k1 := key h1.1 h1.2 l1
  have k2 := key h2.1 h2.2 l2
  unfold gain
  omega
/-- where it is not so that all cases are met, something is missed -/
theorem never_some {p q : Pl} (op : Ok p) (oq : Ok q) (h : gain p q = 0 ∨ ∃ d : Nat, d < lcmP p q ∧ ¬ EF (fo p q (d : Int)) (beg p q (d : Int)) (lcmP p q) (gain p q)) : ∃ n, 2 ≤ n ∧ n < 3102 ∧ missD p q n ≠ none := by
  have h1 := op.hl
  have h2 := oq.hl
  have l36 : lcmP p q ≤ 36 := Nat.le_trans (lcm_le p q) (Nat.le_trans (Nat.mul_le_mul op.rl oq.rl) (by decide))
  have hL := lcm_pos op.r0 oq.r0
  have fin : ∀ (n : Nat) (d : Int), n < 3102 → 0 < n → d.natAbs ≤ n → ((ft (fo p q d) (n : Int) (beg p q d + lcmP p q * n + 1)).length : Int) ≠ (n : Int) → ∃ n, 2 ≤ n ∧ n < 3102 ∧ missD p q n ≠ none := fun n d a0 a1 a2 a3 => by
    have ok : okT p q n d = false := decide_eq_false (by omega)
    refine ⟨n, ?_, a0, fun e => ?_⟩
    · false_or_by_contra
      have : n = 1 := by omega
      subst this
      rw [okT_one] at ok; cases ok
    · have := List.find?_eq_none.mp e d ((mem_delL _).mpr (Nat.le_trans a2 (farP_le op oq n).2))
      rw [ok] at this
      exact this rfl
  rcases Classical.em (gain p q = 0) with h0 | h0
  · have per := fo_per op.r0 oq.r0 (0 : Int) (p := p) (q := q)
    rw [h0] at per
    have b : beg p q 0 ≤ 6 := by unfold beg; omega
    have := no_gain per (beg p q 0 + lcmP p q * (beg p q 0 + lcmP p q + 1) + 1)
    exact fin (beg p q 0 + lcmP p q + 1) 0 (by omega) (by omega) (by simp) this
  · rcases h with h | ⟨d, hd, hn⟩
    · exact absurd h h0
    · have b : beg p q (d : Int) ≤ 42 ∧ d ≤ beg p q (d : Int) := by unfold beg; omega
      have ga := gain_abs op oq
      have hgp : 0 < (gain p q).natAbs := by omega
      have m1 : (gain p q).natAbs * (beg p q (d : Int) + 1) ≤ 72 * 43 := Nat.mul_le_mul ga (by omega)
      have m2 : 1 * (beg p q (d : Int) + 1) ≤ (gain p q).natAbs * (beg p q (d : Int) + 1) := Nat.mul_le_mul_right _ hgp
      have := not_full (fo_per op.r0 oq.r0 (d : Int)) h0 hn (beg p q (d : Int) + lcmP p q * ((gain p q).natAbs * (beg p q (d : Int) + 1)) + 1)
      exact fin ((gain p q).natAbs * (beg p q (d : Int) + 1)) (d : Int) (by omega) (by omega) (by omega) this
/-- the least one -/
theorem nevN_spec {p q : Pl} (h : ∃ n, 2 ≤ n ∧ n < 3102 ∧ missD p q n ≠ none) : 2 ≤ nevN p q ∧ nevN p q < 3102 ∧ (∃ d, missD p q (nevN p q) = some d) ∧ ∀ m, 1 ≤ m → m < nevN p q → missD p q m = none := by
  obtain ⟨n, n2, n3, hn⟩ := h
  unfold nevN
  rw [List.find?_map]
  cases hf : (List.range 3100).find? ((fun n => (missD p q n).isSome) ∘ fun x => x + 2) with
  | none =>
    have := List.find?_eq_none.mp hf (n - 2) (List.mem_range.mpr (by omega))
    exfalso
    apply this
    show (missD p q (n - 2 + 2)).isSome = true
    rw [show n - 2 + 2 = n from by omega]
    cases hm : missD p q n with
    | none => exact absurd hm hn
    | some d => rfl
  | some i =>
    obtain ⟨h1, h2, h3⟩ := List.find?_range_eq_some.mp hf
    have h2 := List.mem_range.mp h2
    have h1 : (missD p q (i + 2)).isSome = true := h1
    show 2 ≤ i + 2 ∧ i + 2 < 3102 ∧ (∃ d, missD p q (i + 2) = some d) ∧ ∀ m, 1 ≤ m → m < i + 2 → missD p q m = none
    refine ⟨by omega, by omega, Option.isSome_iff_exists.mp h1, fun m m1 m2 => ?_⟩
    by_cases c : m = 1
    · subst c; exact missD_one
    · have h3 := h3 (m - 2) (by omega)
      have h3 : (!(missD p q (m - 2 + 2)).isSome) = true := h3
      rw [show m - 2 + 2 = m from by omega] at h3
      cases hm : missD p q m with
      | none => rfl
      | some d => rw [hm] at h3; cases h3
theorem missD_some {p q : Pl} {n : Nat} {d : Int} (h : missD p q n = some d) : okT p q n d = false := by
  have := List.find?_some h
  revert this
  cases okT p q n d <;> simp
theorem nevN_two {p q : Pl} {d : Int} (h : missD p q 2 = some d) : nevN p q = 2 := by
  unfold nevN
  rw [List.find?_map]
  have : (List.range 3100).find? ((fun n => (missD p q n).isSome) ∘ fun x => x + 2) = some 0 := List.find?_range_eq_some.mpr ⟨by show (missD p q 2).isSome = true; rw [h]; rfl, List.mem_range.mpr (by omega), fun j hj => by omega⟩
  rw [this]
  rfl
end Mw

/-! The greatest of the least times, and how it grows with the number of places. -/
namespace Mw
/-- t is the first time of its rest -/
def Fresh (f : Nat → Int) (n : Int) (t : Nat) : Prop := ∀ j, j < t → f j % n ≠ f t % n
structure IsTop (f : Nat → Int) (n : Int) (t : Nat) : Prop where
  fr : Fresh f n t
  top : ∀ s, Fresh f n s → s ≤ t
theorem IsTop.uniq {f : Nat → Int} {n : Int} {s t : Nat} (a : IsTop f n s) (b : IsTop f n t) : s = t := Nat.le_antisymm (b.top s a.fr) (a.top t b.fr)
/-- all rests come before T -/
def FullAt (f : Nat → Int) (n : Int) (T : Nat) : Prop := ∀ g, 0 ≤ g → g < n → ∃ t, t < T ∧ f t % n = g
theorem fresh_lt {f : Nat → Int} {n : Int} {T : Nat} (hn : 0 < n) (h : FullAt f n T) {t : Nat} (ht : Fresh f n t) : t < T := by
  false_or_by_contra
  obtain ⟨j, hj, e⟩ := h (f t % n) (Int.emod_nonneg _ (by omega)) (Int.emod_lt_of_pos _ hn)
  exact ht j (by omega) e
/-- the least time of a rest -/
theorem first_at {f : Nat → Int} {n g : Int} : ∀ t, f t % n = g → ∃ s, s ≤ t ∧ f s % n = g ∧ Fresh f n s := by
  intro t
  induction t using Nat.strongRecOn with
  | _ t ih =>
    intro e
    rcases Classical.em (∃ j, j < t ∧ f j % n = g) with ⟨j, hj, ej⟩ | h
    · obtain ⟨s, h1, h2, h3⟩ := ih j hj ej
      exact ⟨s, by omega, h2, h3⟩
    · exact ⟨t, Nat.le_refl _, e, fun j hj ej => h ⟨j, hj, ej.trans e⟩⟩
theorem top_ge {f : Nat → Int} {n : Int} {T t : Nat} (hn : 0 < n) (h : FullAt f n T) (ht : IsTop f n t) : n ≤ (t : Int) + 1 := by
  have hf : ((ft f n (t + 1)).length : Int) = n := by
    rw [ft_full_iff hn]
    intro g h0 h1
    obtain ⟨u, _, e⟩ := h g h0 h1
    obtain ⟨s, _, e2, fr⟩ := first_at u e
    exact ⟨s, by have := ht.top s fr; omega, e2⟩
  have := ft_len (f := f) (n := n) (t + 1)
  omega
/-! ### the greatest of a list -/
def topL (l : List Int) : Int := l.foldl max 0
theorem topL_snoc (l : List Int) (x : Int) : topL (l ++ [x]) = max (topL l) x := by unfold topL; rw [List.foldl_append]; rfl
theorem foldl_max : ∀ (l : List Int) (a : Int), a ≤ l.foldl max a ∧ (∀ x ∈ l, x ≤ l.foldl max a) ∧ (l.foldl max a = a ∨ l.foldl max a ∈ l)
  | [], a => ⟨by show a ≤ a; omega, (fun x hx => by cases hx), .inl rfl⟩
  | y :: l, a => by
    obtain ⟨h1, h2, h3⟩ := foldl_max l (max a y)
    rw [List.foldl_cons]
    refine ⟨by omega, fun x hx => ?_, ?_⟩
    · rcases List.mem_cons.mp hx with rfl | hx
      · omega
      · exact h2 x hx
    · rcases h3 with h3 | h3
      · rw [h3]
        by_cases c : y ≤ a
        · left; omega
        · right; rw [show max a y = y from by omega]; exact List.mem_cons_self
      · exact .inr (List.mem_cons_of_mem _ h3)
theorem topL_max {l : List Int} {x : Int} (h : x ∈ l) : x ≤ topL l := (foldl_max l 0).2.1 x h
theorem topL_mem {l : List Int} (hne : l ≠ []) (h0 : ∀ x ∈ l, 0 ≤ x) : topL l ∈ l := by
  rcases (foldl_max l 0).2.2 with h | h
  · cases l with
    | nil => exact absurd rfl hne
    | cons y l =>
      have h1 := h0 y List.mem_cons_self
      have h2 := topL_max (l := y :: l) (x := y) List.mem_cons_self
      have h3 : topL (y :: l) = 0 := h
      rw [h3]
      rw [show (0 : Int) = y from by omega]
      exact List.mem_cons_self
  · exact h
/-- the greatest of the first times -/
def gtT (f : Nat → Int) (n : Int) (T : Nat) : Int := topL ((ft f n T).map (·.2))
theorem snd_mem {f : Nat → Int} {n : Int} {T : Nat} {x : Int} : x ∈ (ft f n T).map (·.2) ↔ ∃ k : Nat, x = k ∧ k < T ∧ Fresh f n k := by
  rw [List.mem_map]
  constructor
  · rintro ⟨⟨g, t⟩, h, rfl⟩
    obtain ⟨k, h1, h2, h3, h4⟩ := (ft_mem T).mp h
    exact ⟨k, h1, h2, fun j hj e => h4 j hj (e.trans h3)⟩
  · rintro ⟨k, rfl, hk, fr⟩
    exact ⟨(f k % n, (k : Int)), (ft_mem T).mpr ⟨k, rfl, hk, rfl, fun j hj e => fr j hj e⟩, rfl⟩
theorem gt_mem {f : Nat → Int} {n : Int} {T : Nat} (hT : 0 < T) : gtT f n T ∈ (ft f n T).map (·.2) := by
  refine topL_mem (fun e => ?_) fun x hx => ?_
  · have : (0 : Int) ∈ (ft f n T).map (·.2) := snd_mem.mpr ⟨0, rfl, hT, fun j hj => absurd hj (Nat.not_lt_zero _)⟩
    rw [e] at this; cases this
  · obtain ⟨k, rfl, _⟩ := snd_mem.mp hx; omega
theorem gt_max {f : Nat → Int} {n : Int} {T : Nat} {x : Int} (h : x ∈ (ft f n T).map (·.2)) : x ≤ gtT f n T := topL_max h
theorem gt_top {f : Nat → Int} {n : Int} {T : Nat} (hn : 0 < n) (hT : 0 < T) (h : FullAt f n T) : ∃ t : Nat, gtT f n T = t ∧ IsTop f n t := by
  obtain ⟨k, e, hk, fr⟩ := snd_mem.mp (gt_mem (f := f) (n := n) hT)
  refine ⟨k, e, fr, fun s hs => ?_⟩
  have := gt_max (snd_mem.mpr ⟨s, rfl, fresh_lt hn h hs, hs⟩)
  omega
theorem gt_is {f : Nat → Int} {n : Int} {T t : Nat} (hn : 0 < n) (hT : 0 < T) (h : FullAt f n T) (ht : IsTop f n t) : gtT f n T = t := by
  obtain ⟨s, e, hs⟩ := gt_top hn hT h
  rw [e, hs.uniq ht]
theorem full_pos {f : Nat → Int} {n : Int} {T : Nat} (hn : 0 < n) (h : FullAt f n T) : 0 < T := by
  obtain ⟨t, ht, _⟩ := h 0 (by omega) hn
  omega
/-! ### far out -/
section
variable {f : Nat → Int} {B L : Nat} {G m M : Int}
theorem far_low (p : Per f B L G) (hG : 0 < G) (h : ∀ t, t ≤ B + L → m ≤ f t ∧ f t ≤ M) : ∀ t, m ≤ f t := by
  intro t
  induction t using Nat.strongRecOn with
  | _ t ih =>
    by_cases c : t ≤ B + L
    · exact (h t c).1
    · have := p.step (t - L) (by omega)
      rw [Nat.sub_add_cancel (by omega)] at this
      have := ih (t - L) (by have := p.pos; omega)
      omega
theorem far_drop (p : Per f B L G) (hG : 0 < G) (h : ∀ t, t ≤ B + L → m ≤ f t ∧ f t ≤ M) : ∀ j t, j ≤ t → f j - f t ≤ M - m := by
  intro j
  induction j using Nat.strongRecOn with
  | _ j ih =>
    intro t hjt
    by_cases c : j ≤ B + L
    · have := (h j c).2
      have := far_low p hG h t
      omega
    · have h1 := p.step (j - L) (by omega)
      have h2 := p.step (t - L) (by omega)
      rw [Nat.sub_add_cancel (by omega)] at h1 h2
      have := ih (j - L) (by have := p.pos; omega) (t - L) (by omega)
      omega
theorem far_high (p : Per f B L G) (hG : 0 < G) (h : ∀ t, t ≤ B + L → m ≤ f t ∧ f t ≤ M) {K : Nat} (hK : M - m < (K : Int) * G) {t : Nat} (ht : B + K * L ≤ t) : M < f t := by
  have hL := p.pos
  have e := p.mul K (t - K * L) (by omega)
  rw [Nat.sub_add_cancel (by omega)] at e
  have := far_low p hG h (t - K * L)
  omega
/-- whatever lies above is come to -/
theorem far_hit (p : Per f B L G) (hG : 0 < G) (hE : EF f B L G) (h : ∀ t, t ≤ B + L → m ≤ f t ∧ f t ≤ M) {y : Int} (hy : M < y) : ∃ (t k : Nat), t < B + L + k * L ∧ f t = y ∧ (k : Int) * G ≤ y - m := by
  obtain ⟨t, h1, h2, c, hc⟩ := hE y
  have h3 := h t (by omega)
  have hc' : y - f t = G * (-c) := by rw [Int.mul_neg]; omega
  have hpos : 0 < -c := by
    false_or_by_contra
    have : G * (-c) ≤ G * 0 := Int.mul_le_mul_of_nonneg_left (by omega) (by omega)
    omega
  obtain ⟨k, hk⟩ := Int.eq_ofNat_of_zero_le (show 0 ≤ -c by omega)
  rw [hk] at hc'
  have e := p.mul k t h1
  rw [Int.mul_comm] at hc'
  refine ⟨t + k * L, k, by omega, by rw [e]; omega, ?_⟩
  have : (k : Int) * G = y - f t := by rw [hc']
  omega
theorem far_fresh (p : Per f B L G) (hG : 0 < G) (hE : EF f B L G) (h : ∀ t, t ≤ B + L → m ≤ f t ∧ f t ≤ M) {n : Int} (hn0 : 0 < n) (hn : M - m < n) {t : Nat} (ht : M < f t) :
    Fresh f n t ↔ (∀ j, j < t → f j ≠ f t) ∧ ∀ j, f j ≠ f t - n := by
  constructor
  · intro fr
    refine ⟨fun j hj e => fr j hj (by rw [e]), fun j e => ?_⟩
    rcases Nat.lt_or_ge j t with c | c
    · exact fr j c (by rw [e, show f t - n = f t + n * (-1) from by omega, Int.add_mul_emod_self_left])
    · have := far_drop p hG h t j c
      omega
  · rintro ⟨h1, h2⟩ j hj e
    obtain ⟨c, hc⟩ := Int.dvd_of_emod_eq_zero (show (f j - f t) % n = 0 by rw [Int.sub_emod, e, Int.sub_self, Int.zero_emod])
    rcases Int.lt_trichotomy c 0 with c0 | c0 | c0
    · by_cases c1 : c = -1
      · subst c1; exact h2 j (by omega)
      · have : n * c ≤ n * (-2) := Int.mul_le_mul_of_nonneg_left (by omega) (by omega)
        have lo := far_low p hG h j
        obtain ⟨s, _, _, es, _⟩ := far_hit p hG hE h (y := f t - n) (by omega)
        exact h2 s es
    · subst c0
      exact h1 j hj (by omega)
    · have : n * 1 ≤ n * c := Int.mul_le_mul_of_nonneg_left (by omega) (by omega)
      have := far_drop p hG h j t (by omega)
      omega
theorem far_shift (p : Per f B L G) (hG : 0 < G) (hE : EF f B L G) (h : ∀ t, t ≤ B + L → m ≤ f t ∧ f t ≤ M) {n : Int} (hn0 : 0 < n) (hn : M - m < n) {t : Nat} (ht : M < f t) :
    Fresh f n t ↔ Fresh f (n + G) (t + L) := by
  have big : ∀ j, M < f j → B + L < j := fun j hj => by
    false_or_by_contra
    have := (h j (by omega)).2
    omega
  have hB := big t ht
  have e := p.step t (by omega)
  rw [far_fresh p hG hE h hn0 hn ht, far_fresh p hG hE h (show 0 < n + G by omega) (by omega) (show M < f (t + L) by omega), e]
  rw [show f t + G - (n + G) = f t - n from by omega]
  refine and_congr ⟨fun a j hj ej => ?_, fun a j hj ej => ?_⟩ Iff.rfl
  · have hb := big j (by omega)
    have e2 := p.step (j - L) (by omega)
    rw [Nat.sub_add_cancel (by omega)] at e2
    exact a (j - L) (by omega) (by omega)
  · have hb := big j (by omega)
    have e2 := p.step j (by omega)
    exact a (j + L) (by omega) (by omega)
theorem far_stepP (p : Per f B L G) (hG : 0 < G) (hE : EF f B L G) (h : ∀ t, t ≤ B + L → m ≤ f t ∧ f t ≤ M) {K : Nat} (hK : M - m < (K : Int) * G) {n : Int} (hn0 : 0 < n) (hn : M - m < n) (hn2 : ((B + K * L : Nat) : Int) + 1 ≤ n)
    {t1 t2 : Nat} (h1 : IsTop f n t1) (h2 : IsTop f (n + G) t2) {T : Nat} (hF : FullAt f n T) : t2 = t1 + L := by
  have g1 := top_ge hn0 hF h1
  have m1 := far_high p hG h hK (t := t1) (by omega)
  have f2 := (far_shift p hG hE h hn0 hn m1).mp h1.fr
  have l1 := h2.top _ f2
  have m2 := far_high p hG h hK (t := t2 - L) (by omega)
  have f1 := (far_shift p hG hE h hn0 hn m2).mpr (by rw [Nat.sub_add_cancel (by omega)]; exact h2.fr)
  have l2 := h1.top _ f1
  omega
/-- all rests come early -/
theorem far_soonP (p : Per f B L G) (hG : 0 < G) (hE : EF f B L G) (h : ∀ t, t ≤ B + L → m ≤ f t ∧ f t ≤ M) {n : Int} (hn0 : 0 < n) {Q T : Nat} (hQ : ∀ k : Nat, (k : Int) * G ≤ M - m + n → k ≤ Q) (hT : B + L * (Q + 1) ≤ T) : FullAt f n T := by
  intro g h0 h1
  have r0 := Int.emod_nonneg (g - (M + 1)) (show n ≠ 0 by omega)
  have r1 := Int.emod_lt_of_pos (g - (M + 1)) hn0
  have e1 := Int.emod_add_mul_ediv (g - (M + 1)) n
  obtain ⟨t, k, a1, a2, a3⟩ := far_hit p hG hE h (y := M + 1 + (g - (M + 1)) % n) (by omega)
  have hk := hQ k (by omega)
  refine ⟨t, ?_, ?_⟩
  · have : k * L ≤ Q * L := Nat.mul_le_mul_right _ hk
    have e2 : L * (Q + 1) = Q * L + L := by rw [Nat.mul_add, Nat.mul_comm]; omega
    omega
  · rw [a2]
    have : M + 1 + (g - (M + 1)) % n = g + n * (-((g - (M + 1)) / n)) := by rw [Int.mul_neg]; omega
    rw [this, Int.add_mul_emod_self_left, Int.emod_eq_of_lt h0 h1]
end
/-! ### either way round -/
theorem neg_mod {x y n : Int} : (-x) % n = (-y) % n ↔ x % n = y % n := by
  constructor
  · intro h
    have := Int.emod_emod_of_dvd 0 (Int.dvd_refl n)
    have d : n ∣ -x - -y := Int.dvd_of_emod_eq_zero (by rw [Int.sub_emod, h, Int.sub_self, Int.zero_emod])
    obtain ⟨c, hc⟩ := d
    rw [show x = y + n * (-c) from by rw [Int.mul_neg]; omega, Int.add_mul_emod_self_left]
  · intro h
    have d : n ∣ x - y := Int.dvd_of_emod_eq_zero (by rw [Int.sub_emod, h, Int.sub_self, Int.zero_emod])
    obtain ⟨c, hc⟩ := d
    rw [show -x = -y + n * (-c) from by rw [Int.mul_neg]; omega, Int.add_mul_emod_self_left]
theorem fresh_neg {f : Nat → Int} {n : Int} {t : Nat} : Fresh (fun t => -f t) n t ↔ Fresh f n t := by
  unfold Fresh
  exact forall_congr' fun j => imp_congr Iff.rfl (not_congr neg_mod)
theorem top_neg {f : Nat → Int} {n : Int} {t : Nat} (h : IsTop f n t) : IsTop (fun t => -f t) n t := ⟨fresh_neg.mpr h.fr, fun s hs => h.top s (fresh_neg.mp hs)⟩
theorem full_neg {f : Nat → Int} {n : Int} {T : Nat} (hn : 0 < n) (h : FullAt f n T) : FullAt (fun t => -f t) n T := by
  intro g h0 h1
  obtain ⟨t, ht, e⟩ := h ((-g) % n) (Int.emod_nonneg _ (by omega)) (Int.emod_lt_of_pos _ hn)
  refine ⟨t, ht, ?_⟩
  have := (neg_mod (x := f t) (y := -g) (n := n)).mpr e
  rw [Int.neg_neg, Int.emod_eq_of_lt h0 h1] at this
  exact this
theorem per_neg {f : Nat → Int} {B L : Nat} {G : Int} (p : Per f B L G) : Per (fun t => -f t) B L (-G) := ⟨p.pos, fun t ht => by have := p.step t ht; show -f (t + L) = -f t + -G; omega⟩
theorem EF_neg {f : Nat → Int} {B L : Nat} {G : Int} (h : EF f B L G) : EF (fun t => -f t) B L (-G) := fun ρ => by
  obtain ⟨t, h1, h2, c, hc⟩ := h (-ρ)
  exact ⟨t, h1, h2, c, by show -f t - ρ = -G * c; rw [Int.neg_mul]; omega⟩
theorem far_step {f : Nat → Int} {B L : Nat} {G m M : Int} (p : Per f B L G) (hG : G ≠ 0) (hE : EF f B L G) (h : ∀ t, t ≤ B + L → m ≤ f t ∧ f t ≤ M) {K : Nat} (hK : M - m < (K : Int) * (G.natAbs : Int)) {n : Int} (hn0 : 0 < n) (hn : M - m < n) (hn2 : ((B + K * L : Nat) : Int) + 1 ≤ n)
    {t1 t2 : Nat} (h1 : IsTop f n t1) (h2 : IsTop f (n + (G.natAbs : Int)) t2) {T : Nat} (hF : FullAt f n T) : t2 = t1 + L := by
  rcases Int.lt_or_lt_of_ne hG with c | c
  · have e : (G.natAbs : Int) = -G := by omega
    rw [e] at hK h2
    exact far_stepP (per_neg p) (by omega) (EF_neg hE) (m := -M) (M := -m) (fun t ht => by have := h t ht; constructor <;> omega) (by omega) hn0 (by omega) hn2 (top_neg h1) (top_neg h2) (full_neg hn0 hF)
  · have e : (G.natAbs : Int) = G := by omega
    rw [e] at hK h2
    exact far_stepP p c hE h hK hn0 hn hn2 h1 h2 hF
theorem far_soon {f : Nat → Int} {B L : Nat} {G m M : Int} (p : Per f B L G) (hG : G ≠ 0) (hE : EF f B L G) (h : ∀ t, t ≤ B + L → m ≤ f t ∧ f t ≤ M) {n : Int} (hn0 : 0 < n) {Q T : Nat} (hQ : ∀ k : Nat, (k : Int) * (G.natAbs : Int) ≤ M - m + n → k ≤ Q) (hT : B + L * (Q + 1) ≤ T) : FullAt f n T := by
  rcases Int.lt_or_lt_of_ne hG with c | c
  · have e : (G.natAbs : Int) = -G := by omega
    rw [e] at hQ
    have := full_neg hn0 (far_soonP (per_neg p) (by omega) (EF_neg hE) (m := -M) (M := -m) (fun t ht => by have := h t ht; constructor <;> omega) hn0 (Q := Q) (fun k hk => hQ k (by omega)) hT)
    intro g h0 h1
    obtain ⟨t, ht, e⟩ := this g h0 h1
    exact ⟨t, ht, by rw [← e]; show f t % n = (- -f t) % n; rw [Int.neg_neg]⟩
  · have e : (G.natAbs : Int) = G := by omega
    rw [e] at hQ
    exact far_soonP p c hE h hn0 hQ hT
end Mw

/-! From where on the pattern holds. -/
namespace Mw
theorem snoc_ind {α : Type} {P : List α → Prop} (nil : P []) (snoc : ∀ l c, P l → P (l ++ [c])) (l : List α) : P l := by
  have : ∀ l : List α, P l.reverse := fun l => by
    induction l with
    | nil => exact nil
    | cons c l ih => rw [List.reverse_cons]; exact snoc _ c ih
  have h := this l.reverse
  rw [List.reverse_reverse] at h
  exact h
def mxT (f : Nat → Int) : Nat → Int
  | 0 => f 0
  | N + 1 => max (mxT f N) (f (N + 1))
def mnT (f : Nat → Int) : Nat → Int
  | 0 => f 0
  | N + 1 => min (mnT f N) (f (N + 1))
theorem mx_ge {f : Nat → Int} : ∀ N t, t ≤ N → f t ≤ mxT f N ∧ mnT f N ≤ f t
  | 0, t, h => by
    have : t = 0 := by omega
    subst this
    exact ⟨Int.le_refl _, Int.le_refl _⟩
  | N + 1, t, h => by
    rw [mxT, mnT]
    by_cases c : t = N + 1
    · subst c; omega
    · have := mx_ge (f := f) N t (by omega); omega
theorem mx_mem {f : Nat → Int} : ∀ N, (∃ t, t ≤ N ∧ f t = mxT f N) ∧ ∃ t, t ≤ N ∧ f t = mnT f N
  | 0 => ⟨⟨0, Nat.le_refl _, rfl⟩, ⟨0, Nat.le_refl _, rfl⟩⟩
  | N + 1 => by
    obtain ⟨⟨t, h1, h2⟩, s, h3, h4⟩ := mx_mem (f := f) N
    rw [mxT, mnT]
    constructor
    · by_cases c : mxT f N ≤ f (N + 1)
      · exact ⟨N + 1, Nat.le_refl _, by omega⟩
      · exact ⟨t, by omega, by omega⟩
    · by_cases c : f (N + 1) ≤ mnT f N
      · exact ⟨N + 1, Nat.le_refl _, by omega⟩
      · exact ⟨s, by omega, by omega⟩
def wdT (f : Nat → Int) (N : Nat) : Nat := (mxT f N - mnT f N).toNat
theorem wd_eq (f : Nat → Int) (N : Nat) : (wdT f N : Int) = mxT f N - mnT f N := by
  have := mx_ge (f := f) N 0 (Nat.zero_le _)
  unfold wdT; omega
section
variable (f : Nat → Int) (B L g : Nat)
def farT : Nat := wdT f (B + L) + g + 2 + 2 * (B + L * ((wdT f (B + L) + 2 * g) / g + 2))
def mostT : Nat := B + L * (3 * (farT f B L g + g) / g + 3)
def lastsT (n : Nat) : Int := gtT f (n : Int) (mostT f B L g + 1)
def wrongB (n : Nat) : Bool := !decide (lastsT f B L g (n + g) = lastsT f B L g n + (L : Int))
def wrongT : List Nat := ((List.range (farT f B L g)).map (· + 1)).filter (wrongB f B L g)
def startT : Nat := (topL ((wrongT f B L g).map fun n : Nat => (n : Int))).toNat + 1
/-- the greatest least time -/
def grT (n : Nat) : Int := gtT f (n : Int) (B + L * n + 1)
end
section
variable {f : Nat → Int} {B L : Nat} {G : Int}
theorem gr_full (p : Per f B L G) (hE : EF f B L G) {n : Nat} (hn : 0 < n) : FullAt f (n : Int) (B + L * n + 1) := by
  intro g h0 h1
  obtain ⟨t, h2, h3⟩ := hE.meet p hn g
  exact ⟨t, by omega, by rw [h3, Int.emod_eq_of_lt h0 h1]⟩
theorem gr_top (p : Per f B L G) (hE : EF f B L G) {n : Nat} (hn : 0 < n) : ∃ t : Nat, grT f B L n = t ∧ IsTop f (n : Int) t := gt_top (by omega) (by omega) (gr_full p hE hn)
theorem div_up {a g : Nat} (hg : 0 < g) : a < (a / g + 1) * g := by
  have h1 := Nat.div_add_mod a g
  have h2 := Nat.mod_lt a hg
  rw [Nat.add_mul, Nat.mul_comm]
  omega
theorem lasts_eq (p : Per f B L G) (hG : G ≠ 0) (hE : EF f B L G) {n : Nat} (hn : 0 < n) (hn2 : n ≤ farT f B L G.natAbs + G.natAbs) : lastsT f B L G.natAbs n = grT f B L n := by
  have hb : ∀ t, t ≤ B + L → mnT f (B + L) ≤ f t ∧ f t ≤ mxT f (B + L) := fun t ht => ⟨(mx_ge _ t ht).2, (mx_ge _ t ht).1⟩
  have hw := wd_eq f (B + L)
  have hg : 0 < G.natAbs := by omega
  have hwf : wdT f (B + L) ≤ farT f B L G.natAbs := by unfold farT; omega
  have full : FullAt f (n : Int) (mostT f B L G.natAbs + 1) := by
    refine far_soon p hG hE hb (by omega) (Q := 3 * (farT f B L G.natAbs + G.natAbs) / G.natAbs) (fun k hk => ?_) ?_
    · rw [Nat.le_div_iff_mul_le hg]
      have : ((k * G.natAbs : Nat) : Int) ≤ wdT f (B + L) + n := by rw [Int.natCast_mul]; omega
      omega
    · unfold mostT
      have : L * (3 * (farT f B L G.natAbs + G.natAbs) / G.natAbs + 1) ≤ L * (3 * (farT f B L G.natAbs + G.natAbs) / G.natAbs + 3) := Nat.mul_le_mul_left _ (by omega)
      omega
  obtain ⟨t, e, ht⟩ := gr_top p hE hn
  rw [e]
  exact gt_is (by omega) (by omega) full ht
/-- behind the far size the pattern holds -/
theorem gr_far (p : Per f B L G) (hG : G ≠ 0) (hE : EF f B L G) {n : Nat} (hn : farT f B L G.natAbs < n) : grT f B L (n + G.natAbs) = grT f B L n + (L : Int) := by
  have hb : ∀ t, t ≤ B + L → mnT f (B + L) ≤ f t ∧ f t ≤ mxT f (B + L) := fun t ht => ⟨(mx_ge _ t ht).2, (mx_ge _ t ht).1⟩
  have hw := wd_eq f (B + L)
  have hg : 0 < G.natAbs := by omega
  have hn0 : 0 < n := by omega
  obtain ⟨t1, e1, h1⟩ := gr_top p hE hn0
  obtain ⟨t2, e2, h2⟩ := gr_top p hE (show 0 < n + G.natAbs by omega)
  have hK := div_up (a := wdT f (B + L) + 2 * G.natAbs) hg
  have hK2 : ((wdT f (B + L) + 2 * G.natAbs) / G.natAbs + 1) * G.natAbs ≤ ((wdT f (B + L) + 2 * G.natAbs) / G.natAbs + 2) * G.natAbs := Nat.mul_le_mul_right _ (by omega)
  unfold farT at hn
  generalize hq : (wdT f (B + L) + 2 * G.natAbs) / G.natAbs + 2 = K at *
  have hk3 : L * K = K * L := Nat.mul_comm _ _
  have key := far_step p hG hE hb (K := K) (n := (n : Int)) (by rw [← Int.natCast_mul]; omega) (by omega) (by omega) (by omega) h1 (by rw [Int.natCast_add] at h2; exact h2) (gr_full p hE hn0)
  rw [e1, e2, key]
  omega
theorem start_spec (p : Per f B L G) (hG : G ≠ 0) (hE : EF f B L G) : (∀ n, startT f B L G.natAbs ≤ n → grT f B L (n + G.natAbs) = grT f B L n + (L : Int)) ∧
    (1 < startT f B L G.natAbs → grT f B L (startT f B L G.natAbs - 1 + G.natAbs) ≠ grT f B L (startT f B L G.natAbs - 1) + (L : Int)) ∧ startT f B L G.natAbs ≤ farT f B L G.natAbs + 1 := by
  have hg : 0 < G.natAbs := by omega
  have mem : ∀ n, n ∈ wrongT f B L G.natAbs ↔ 1 ≤ n ∧ n ≤ farT f B L G.natAbs ∧ grT f B L (n + G.natAbs) ≠ grT f B L n + (L : Int) := fun n => by
    unfold wrongT
    rw [List.mem_filter, List.mem_map]
    have hr : (∃ a, a ∈ List.range (farT f B L G.natAbs) ∧ a + 1 = n) ↔ 1 ≤ n ∧ n ≤ farT f B L G.natAbs := by
      constructor
      · rintro ⟨a, ha, rfl⟩
        have := List.mem_range.mp ha
        omega
      · rintro ⟨h1, h2⟩
        exact ⟨n - 1, List.mem_range.mpr (by omega), by omega⟩
    rw [hr]
    constructor
    · rintro ⟨⟨h1, h2⟩, h3⟩
      refine ⟨h1, h2, fun e => ?_⟩
      unfold wrongB at h3
      rw [lasts_eq p hG hE (by omega) (by omega), lasts_eq p hG hE (by omega) (by omega), decide_eq_true e] at h3
      cases h3
    · rintro ⟨h1, h2, h3⟩
      refine ⟨⟨h1, h2⟩, ?_⟩
      unfold wrongB
      rw [lasts_eq p hG hE (by omega) (by omega), lasts_eq p hG hE (by omega) (by omega), decide_eq_false h3]
      rfl
  have top : ∀ n, n ∈ wrongT f B L G.natAbs → n < startT f B L G.natAbs := fun n hn => by
    have := topL_max (l := (wrongT f B L G.natAbs).map fun n : Nat => (n : Int)) (x := (n : Int)) (List.mem_map.mpr ⟨n, hn, rfl⟩)
    unfold startT
    omega
  have mem0 : startT f B L G.natAbs = 1 ∨ startT f B L G.natAbs - 1 ∈ wrongT f B L G.natAbs := by
    rcases (foldl_max ((wrongT f B L G.natAbs).map fun n : Nat => (n : Int)) 0).2.2 with h | h
    · left
      unfold startT topL
      rw [h]; rfl
    · right
      obtain ⟨n, hn, e⟩ := List.mem_map.mp h
      have : startT f B L G.natAbs - 1 = n := by
        unfold startT topL
        rw [← e]; omega
      rw [this]; exact hn
  refine ⟨fun n hn => ?_, fun h => ?_, ?_⟩
  · by_cases c : farT f B L G.natAbs < n
    · exact gr_far p hG hE c
    · false_or_by_contra
      rename_i hc
      have h1 : 1 ≤ n := by unfold startT at hn; omega
      have := top n ((mem n).mpr ⟨h1, by omega, hc⟩)
      omega
  · rcases mem0 with h1 | h1
    · omega
    · exact ((mem _).mp h1).2.2
  · rcases mem0 with h1 | h1
    · omega
    · have := ((mem _).mp h1).2.1; omega
theorem start_pos : 1 ≤ startT f B L G.natAbs := by unfold startT; omega
/-- the pattern goes on -/
theorem gr_goes (p : Per f B L G) (hG : G ≠ 0) (hE : EF f B L G) {n : Nat} (hn : startT f B L G.natAbs ≤ n) : ∀ k : Nat, grT f B L (n + k * G.natAbs) = grT f B L n + (L : Int) * (k : Int)
  | 0 => by simp
  | k + 1 => by
    have ih := gr_goes p hG hE hn k
    have := (start_spec p hG hE).1 (n + k * G.natAbs) (by omega)
    rw [Nat.succ_mul, ← Nat.add_assoc, this, ih, Int.natCast_add, Int.mul_add]
    omega
/-- as the program reckons it -/
def nearT (s g n : Nat) : Nat := s + (n - s) % g
theorem gr_near (p : Per f B L G) (hG : G ≠ 0) (hE : EF f B L G) {n : Nat} (hn : startT f B L G.natAbs ≤ n) :
    grT f B L n = grT f B L (nearT (startT f B L G.natAbs) G.natAbs n) + (L : Int) * (((n - nearT (startT f B L G.natAbs) G.natAbs n) / G.natAbs : Nat) : Int) := by
  have hg : 0 < G.natAbs := by omega
  generalize hs : startT f B L G.natAbs = s at *
  have e := Nat.div_add_mod (n - s) G.natAbs
  have e2 : n - nearT s G.natAbs n = G.natAbs * ((n - s) / G.natAbs) := by unfold nearT; omega
  rw [e2, Nat.mul_div_cancel_left _ hg]
  have := gr_goes p hG hE (n := nearT s G.natAbs n) (by unfold nearT; omega) ((n - s) / G.natAbs)
  rw [← this]
  congr 1
  unfold nearT
  rw [Nat.mul_comm] at e
  omega
end
end Mw

/-! Pairs of plans that are known: one stands still, the other walks step by step. -/
namespace Mw
theorem top_id {f : Nat → Int} (hf : ∀ t, f t = (t : Int)) {n : Nat} (hn : 0 < n) : IsTop f (n : Int) (n - 1) := by
  constructor
  · intro j hj e
    rw [hf, hf, Int.emod_eq_of_lt (by omega) (by omega), Int.emod_eq_of_lt (by omega) (by omega)] at e
    omega
  · intro s hs
    false_or_by_contra
    refine hs (s - n) (by omega) ?_
    rw [hf, hf, show ((s : Nat) : Int) = ((s - n : Nat) : Int) + (n : Int) * 1 from by omega, Int.add_mul_emod_self_left]
theorem full_id {f : Nat → Int} (hf : ∀ t, f t = (t : Int)) {n : Nat} : FullAt f (n : Int) n := fun g h0 h1 => ⟨g.toNat, by omega, by rw [hf, Int.toNat_of_nonneg h0, Int.emod_eq_of_lt h0 h1]⟩
/-- one that goes back, begun d later -/
theorem top_back {f : Nat → Int} {d : Nat} (hf : ∀ t, f t = -(((t - d : Nat) : Nat) : Int)) {n : Nat} (hn : 2 ≤ n) : IsTop f (n : Int) (d + n - 1) := by
  have key : ∀ i j : Nat, i < n → j < n → (-(i : Int)) % (n : Int) = (-(j : Int)) % (n : Int) → i = j := fun i j hi hj e => by
    have := neg_mod.mp e
    rw [Int.emod_eq_of_lt (by omega) (by omega), Int.emod_eq_of_lt (by omega) (by omega)] at this
    omega
  constructor
  · intro j hj e
    rw [hf, hf] at e
    have := key _ _ (by omega) (by omega) e
    omega
  · intro s hs
    false_or_by_contra
    refine hs (s - n) (by omega) ?_
    rw [hf, hf]
    refine neg_mod.mpr ?_
    rw [show (((s - d : Nat) : Nat) : Int) = ((s - n - d : Nat) : Int) + (n : Int) * 1 from by omega, Int.add_mul_emod_self_left]
theorem top_one {f : Nat → Int} : IsTop f ((1 : Nat) : Int) 0 := by
  constructor
  · intro j hj; exact absurd hj (Nat.not_lt_zero _)
  · intro s hs
    false_or_by_contra
    exact hs 0 (by omega) (by rw [show ((1 : Nat) : Int) = 1 from rfl, Int.emod_one, Int.emod_one])
theorem stp_const {r : List Nat} {c : Nat} (hr : 0 < r.length) (h : ∀ i, i < r.length → r[i]? = some c) (k : Nat) : stp [] r k = c := by
  have := stp_ring (h := []) (r := r) (k := k % r.length) (Nat.mod_lt _ hr)
  rw [h _ (Nat.mod_lt _ hr)] at this
  have e : stp [] r k = stp [] r (([] : List Nat).length + k % r.length) := by
    unfold stp
    simp
  rw [e]
  exact (Option.some.inj this).symm
theorem W_const {r : List Nat} {c : Nat} (hr : 0 < r.length) (h : ∀ i, i < r.length → r[i]? = some c) : ∀ t : Nat, W [] r t = (t : Int) * sv c
  | 0 => by simp [W]
  | t + 1 => by
    rw [W, W_const hr h t, stp_const hr h, Int.natCast_add, Int.add_mul]
    simp
theorem rep_one (c m i : Nat) (h : i < (rep [c] m).length) : (rep [c] m)[i]? = some c := by
  rw [rep_len] at h
  rw [rep_get [c] (by simp) m i h]
  have : i % [c].length = 0 := Nat.mod_one _
  rw [this]; rfl
def stP (m : Nat) : Pl := ⟨[], rep [115] m⟩
def fP : Pl := ⟨[], [102]⟩
def bP : Pl := ⟨[], [98]⟩
def ffP : Pl := ⟨[], [102, 102]⟩
def lzP : Pl := ⟨[], [98, 115]⟩
theorem stP_W {m : Nat} (hm : 0 < m) (t : Int) : (stP m).W t = 0 := by
  unfold Pl.W
  show W [] (rep [115] m) _ = 0
  rw [W_const (c := 115) (by rw [rep_len]; simp; omega) (fun i hi => rep_one 115 m i hi)]
  show _ * (0 : Int) = 0
  exact Int.mul_zero _
theorem fP_W (t : Int) : fP.W t = (t.toNat : Int) := by
  unfold Pl.W
  show W [] [102] _ = _
  rw [W_const (r := [102]) (c := 102) (by simp) (fun i hi => by
    have : i = 0 := by simp at hi; exact hi
    subst this; rfl)]
  show _ * (1 : Int) = _
  exact Int.mul_one _
theorem bP_W (t : Int) : bP.W t = -(t.toNat : Int) := by
  unfold Pl.W
  show W [] [98] _ = _
  rw [W_const (r := [98]) (c := 98) (by simp) (fun i hi => by
    have : i = 0 := by simp at hi; exact hi
    subst this; rfl)]
  show _ * (-1 : Int) = _
  rw [Int.mul_neg, Int.mul_one]
theorem off_f {m : Nat} (hm : 0 < m) (d t : Nat) : fo fP (stP m) (d : Int) t = (t : Int) := by
  unfold fo off
  rw [stP_W hm, fP_W]
  omega
theorem off_b {m : Nat} (hm : 0 < m) (d t : Nat) : fo bP (stP m) (-(d : Int)) t = -((t - d : Nat) : Int) := by
  unfold fo off
  rw [stP_W hm, bP_W]
  omega
end Mw

/-! Own rules over the hand layer: callees bundled, own errors without arguments, what an expression comes to over a known heap. -/
namespace Kn
open PySem PySem.Spec L2 Evl

/-! ### callees, bundled -/
structure Cal (P : Program) (w : World) (K : PySem.W.Frag) (mg : Str → Option Value) (base : Heap) (CX : CXT) (k : Nat) (x : Str) (sp : Sp) : Prop where
  ex : ∃ (f : Addr) (fd : FuncData) (ps : List Str), FnOk P w K mg base CX k f fd ps sp ∧ mg x = some (.ref f) ∧ PySem.W.keepIn K (.ref f) = true ∧ Binds K fd ps []
structure Mth (P : Program) (w : World) (K : PySem.W.Frag) (mg : Str → Option Value) (base : Heap) (CX : CXT) (k : Nat) (C : Addr) (m : Str) (sp : Sp) : Prop where
  ex : ∃ (f : Addr) (fd : FuncData) (ps : List Str), Cls K C ∧ Meth K C m f ∧ FnOk P w K mg base CX k f fd ps sp ∧ Binds K fd ps []
structure Mak (P : Program) (w : World) (K : PySem.W.Frag) (mg : Str → Option Value) (base : Heap) (CX : CXT) (k : Nat) (x : Str) (C : Addr) (sp : Sp) : Prop where
  ex : ∃ (f : Addr) (fd : FuncData) (ps : List Str), Mk K C f ∧ FnOk P w K mg base CX k f fd ps sp ∧ mg x = some (.ref C) ∧ Binds K fd ps []
section
variable {X : Cx} {CX : CXT} {k j : Nat} {C : Addr} {x m : Str} {sp : Sp} {E : XK} {Es : St → XK} {p pos apos : Pos} {e o : Expr} {es : List Expr} {ta : TE} {t : TA}
theorem pe_cx (c : Cal X.prog X.w X.K X.mg X.base CX k x sp) (hr : Room j X.A) (hk : k ≤ j) (hg : Gl X x) (hx : Passes CX X E) (ha : PA X (e :: es) t)
    (hdb : (x == ("__debug__" : Str)) = false := by decide) (he : starEach (e :: es) X.env = (false, eval e X.env) :: starEach es X.env := by rfl) (hpl : (backTo pos (starEach es X.env)).any (·.1) = false := by rfl) :
    PE X (.Call (.Name x p) (e :: es) [] pos) (tCall sp [] E t) := by
  obtain ⟨f, fd, ps, F, hm, kp, b⟩ := c.ex
  exact pe_call F (hr.mono hk) hg hm kp b .nil hx ha hdb he hpl
theorem pe_kx (c : Mak X.prog X.w X.K X.mg X.base CX k x C sp) (hr : Room j X.A) (hk : k + 1 ≤ j) (hg : Gl X x) (hx : Passes CX X E) (ha : PA X (e :: es) t)
    (hdb : (x == ("__debug__" : Str)) = false := by decide) (he : starEach (e :: es) X.env = (false, eval e X.env) :: starEach es X.env := by rfl) (hpl : (backTo pos (starEach es X.env)).any (·.1) = false := by rfl) :
    PE X (.Call (.Name x p) (e :: es) [] pos) (tMake C sp [] E t) := by
  obtain ⟨f, fd, ps, M, F, hm, b⟩ := c.ex
  exact pe_make M F (hr.mono hk) hg hm b .nil hx ha hdb he hpl
theorem pe_mx {pl : Sem Bool} (c : Mth X.prog X.w X.K X.mg X.base CX k C m sp) (hr : Room j X.A) (hk : k ≤ j) (he : PE X o ta) (hx : Passes CX X E) (ha : PA X (e :: es) t)
    (hst : starEach (e :: es) X.env = (false, eval e X.env) :: starEach es X.env := by rfl) (hpl : (backTo pos (starEach es X.env)).any (·.1) = false := by rfl)
    (ht : eval (.Call (.Attribute o m apos) (e :: es) [] pos) X.env = (do
      let ov ← eval o X.env
      standAt apos.atName
      let (f, first) ← holding [ov] (getMethod ov m pl)
      callWith pos f first (backTo pos (starEach (e :: es) X.env)) (backToKw pos (keywordEach [] X.env))) := by rfl) :
    PE X (.Call (.Attribute o m apos) (e :: es) [] pos) (tMeth C m sp [] E ta t) := by
  obtain ⟨f, fd, ps, hc, hm, F, b⟩ := c.ex
  exact pe_meth (pl := pl) he hc hm F (hr.mono hk) b .nil hx ha hst hpl ht
theorem pe_mx0 {pl : Sem Bool} (c : Mth X.prog X.w X.K X.mg X.base CX k C m sp) (hr : Room j X.A) (hk : k ≤ j) (he : PE X o ta) (hx : Passes CX X E)
    (ht : eval (.Call (.Attribute o m apos) [] [] pos) X.env = (do
      let ov ← eval o X.env
      standAt apos.atName
      let (f, first) ← holding [ov] (getMethod ov m pl)
      callWith pos f first (backTo pos (starEach [] X.env)) (backToKw pos (keywordEach [] X.env))) := by rfl) :
    PE X (.Call (.Attribute o m apos) [] [] pos) (tMeth C m sp [] E ta tNil) := by
  obtain ⟨f, fd, ps, hc, hm, F, b⟩ := c.ex
  exact pe_meth0 (pl := pl) he hc hm F (hr.mono hk) b .nil hx ht
/-- within a try -/
theorem pe_cxS (c : Cal X.prog X.w X.K X.mg X.base CX k x sp) (hr : Room j X.A) (hk : k ≤ j) (hg : Gl X x) (hx : ∀ σ, PassesAt CX X σ (Es σ)) (ha : PA X (e :: es) t)
    (hdb : (x == ("__debug__" : Str)) = false := by decide) (he : starEach (e :: es) X.env = (false, eval e X.env) :: starEach es X.env := by rfl) (hpl : (backTo pos (starEach es X.env)).any (·.1) = false := by rfl) :
    PE X (.Call (.Name x p) (e :: es) [] pos) (tCallS sp Es t) := by
  obtain ⟨f, fd, ps, F, hm, kp, b⟩ := c.ex
  exact pe_callS F (hr.mono hk) hg hm kp b hx ha hdb he hpl
def tMethS (C : Addr) (m : Str) (sp : Sp) (E : St → XK) (ta : TE) (t : TA) : TE := fun σ H Q => ta σ H fun x H1 => ∃ a dx fs, x = .ref a ∧ H1 a = some (.ins C dx fs) ∧ fs.lookup m = none ∧
  t σ H1 fun vs H2 => sp (x :: vs) H2 Q (E σ)
def tMakeS (C : Addr) (sp : Sp) (E : St → XK) (t : TA) : TE := fun σ H Q => t σ H fun vs H1 => ∀ x dx, H1 x = none → H1 dx = none → dx ≠ x →
  sp (.ref x :: vs) (upd (upd H1 dx (.own x)) x (.ins C dx [])) (fun v H2 => v = .non ∧ Q (.ref x) H2) (E σ)
theorem pe_mxS0 {pl : Sem Bool} (c : Mth X.prog X.w X.K X.mg X.base CX k C m sp) (hr : Room j X.A) (hk : k ≤ j) (he : PE X o ta) (hx : ∀ σ, PassesAt CX X σ (Es σ))
    (ht : eval (.Call (.Attribute o m apos) [] [] pos) X.env = (do
      let ov ← eval o X.env
      standAt apos.atName
      let (f, first) ← holding [ov] (getMethod ov m pl)
      callWith pos f first (backTo pos (starEach [] X.env)) (backToKw pos (keywordEach [] X.env))) := by rfl) :
    PE X (.Call (.Attribute o m apos) [] [] pos) (tMethS C m sp Es ta tNil) := by
  obtain ⟨f, fd, ps, hc, hm, F, b⟩ := c.ex
  refine ⟨fun pins s σ H Q I h => ?_⟩
  refine PySem.W.methodCall_KW (pl := pl) (thn (he.run pins s σ H _ I h) fun u s1 ⟨x, H1, I1, rx, a, dx, fs, ex, ea, l, q⟩ => ?_) ht
  subst ex
  obtain rfl : u = Value.ref a := rx
  refine getmeth_ok I1 ea hc hm l ?_
  exact PySem.W.callWith_K0 (first := [.ref a]) I1.kIn hm.kp (run_fnS (us := [.ref a]) (vs := [.ref a]) F (hr.mono hk) b (hx σ) I1 (.cons rfl .nil) q)
theorem run_makeS {f : Addr} {fd : FuncData} {ps : List Str} {Ex : XK} {pins : List (Addr × Obj)} {σ : St} {H : Hp} {s : Shared} {Q : VK} {us : List Value} {vs : List V} (M : Mk X.K C f) (F : FnOk X.prog X.w X.K X.mg X.base CX k f fd ps sp) (hr : Room (k + 1) X.A) (hb : Binds X.K fd ps [])
    (hx : PassesAt CX X σ Ex) (I : Inv X pins σ H s) (r : Vals vs us)
    (h : ∀ x dx, H x = none → H dx = none → dx ≠ x → sp (.ref x :: vs) (upd (upd H dx (.own x)) x (.ins C dx [])) (fun v H2 => v = .non ∧ Q (.ref x) H2) Ex) :
    wpAny (model X.prog X.w) X.A (call (.ref C) us) (EP X pins σ Q) X.xe s := by
  have hq := h (s.heap.objs.size + 1) s.heap.objs.size (I.hok.fresh (Nat.le_succ _)) (I.hok.fresh (Nat.le_refl _)) (Nat.ne_of_lt (Nat.lt_succ_self _))
  have I2 := Inv.made (C := C) I
  have r2 : Vals (V.ref (s.heap.objs.size + 1) :: vs) (Value.ref (s.heap.objs.size + 1) :: us) := .cons rfl r
  have hl : (Value.ref (s.heap.objs.size + 1) :: us).length = ps.length := by
    have e := r2.length
    rw [F.len _ _ _ _ hq] at e
    exact e.symm
  have hb2 := hb _ (Value.ref (s.heap.objs.size + 1) :: us) I2.kIn (by rw [List.append_nil]; exact hl)
  rw [List.append_nil] at hb2
  refine wpAny_call (make_map (f := f) I.kIn M.makes M.init (beq_iff_eq.mp M.fn) (codeAny_mono (F.run _ X.stack _ _ ⟨Value.ref (s.heap.objs.size + 1) :: us, []⟩ (Value.ref (s.heap.objs.size + 1) :: us) _ _ Ex (hr.make C us [])
    (I2.env0.make C us []) hb2 r2 hq) fun r s' hq' => ?_))
  cases r with
  | error e => exact hx pins _ _ e s' I2 hq'
  | ok fl =>
    cases fl with
    | ret u =>
      obtain ⟨v, H', I3, rv, ev, q3⟩ := I2.after hq'
      subst ev
      exact ⟨rv, ⟨V.ref (s.heap.objs.size + 1), H', I3, rfl, q3⟩⟩
    | next => exact False.elim hq'
    | brk => exact False.elim hq'
    | cont => exact False.elim hq'
theorem pe_kxS (c : Mak X.prog X.w X.K X.mg X.base CX k x C sp) (hr : Room j X.A) (hk : k + 1 ≤ j) (hg : Gl X x) (hx : ∀ σ, PassesAt CX X σ (Es σ)) (ha : PA X (e :: es) t)
    (hdb : (x == ("__debug__" : Str)) = false := by decide) (he : starEach (e :: es) X.env = (false, eval e X.env) :: starEach es X.env := by rfl) (hpl : (backTo pos (starEach es X.env)).any (·.1) = false := by rfl) :
    PE X (.Call (.Name x p) (e :: es) [] pos) (tMakeS C sp Es t) := by
  obtain ⟨f, fd, ps, M, F, hm, b⟩ := c.ex
  refine ⟨fun pins s σ H Q I h => ?_⟩
  refine wpAny_Call_Name_kw (ld_glob I hg hm ?_ hdb)
  refine PySem.W.callWith_K (h₀ := X.base) I.ok.mod.kin M.kp (thn (ha.run pos pins s σ H _ I h) fun us s1 ⟨vs, H1, I1, r, q⟩ => ⟨I1.kIn, ?_⟩) he hpl
  exact run_makeS M F (hr.mono hk) b (hx σ) I1 r q
end

/-! ### own errors made without an argument -/
section
variable {X : Cx} {C : Addr} {bmB : List Value} {B newId initId : String}
theorem pmk_own0 {x : Str} {p pos : Pos} (F : ExcBaseFacts B newId initId bmB) (q : PySem.W.excIn X.K C bmB newId = true) (gC : X.mg x = some (.ref C)) (kC : PySem.W.keepIn X.K (.ref C) = true) (r : Raises X (.ref C)) (hg : Gl X x)
    (hdb : (x == ("__debug__" : Str)) = false := by decide) : PMk X (.Call (.Name x p) [] [] pos) (fun _ H Q => Q (.ref C) none H) := by
  intro pins s σ H Q I h
  refine wpAny_Call_Name_kw (ld_glob I hg gC ?_ hdb)
  refine PySem.W.callWith_K0 I.kIn kC ?_
  obtain ⟨bm, N, nm, qn, bs, hdct, sn, sub, ab, col, dd, k0, k1, k2, k3, k5, mN, hC, hN, hni, T⟩ := exc_obj I.kIn q
  refine wpAny_call_exc_subT F T hC hN hni (fun h' e hm => ?_) (by decide)
  exact mk_of I hm r h (I.hok.gone hm.new)
end
/-- a def's own wish: what a callee lets out goes on -/
theorem passE {P : Program} {w : World} {K : PySem.W.Frag} {mg : Str → Option Value} {base : Heap} {N : List Str} {qual : Str} {sc : Scope} {f : Addr} {cd : Value} {A : Around} {outer : List Env} {s : Shared} {H : Hp} {E : XK} :
    Passes (L2.CX P w) (cxOf (L2.CX P w) P w K mg base N qual sc f cd A outer s H E) E :=
  passes_call (X := cxOf (L2.CX P w) P w K mg base N qual sc f cd A outer s H E) (W := fun cls d _ H => E cls d H) (takes_of rfl rfl rfl rfl) fun _ _ _ _ h => h

/-! ### operators -/
section
variable {X : Cx}
theorem op_addS : OpR X (binaryOp .Add) rAddS := op_add_str
def rMulS : R2 := fun x y H Q => ∃ z n, x = .str z ∧ y = .int n ∧ MulOk z n ∧ Q (.str (Txt.mul z n)) H
theorem op_mulS : OpR X (binaryOp .Mult) rMulS := by
  intro pins s σ H x y v u Q I rx ry h
  obtain ⟨z, n, rfl, rfl, ok, q⟩ := h
  obtain ⟨t, rfl⟩ := rx
  obtain ⟨t', rfl⟩ := ry
  exact SB.mul ok fun t' k => ⟨.str _, H, I.tok _, ⟨_, rfl⟩, q⟩
end
end Kn

/-! What expressions and statements come to over a KNOWN heap H: any heap that holds what H holds. -/
namespace Kn
open PySem PySem.Spec L2 Evl

/-! ### known heaps -/
theorem exu {G H : Hp} {p : Addr} {o o' : HO} (e : Ex (upd G p o) H) : Ex (upd G p o') (upd H p o') := fun a u h => by
  by_cases c : a = p
  · subst c; rw [upd_same] at h ⊢; exact h
  · rw [upd_ne c] at h ⊢
    exact e a u (by rw [upd_ne c]; exact h)
/-- an object that stands, changed -/
theorem exc {G H : Hp} {p : Addr} {o' : HO} (e : Ex G H) : Ex (upd G p o') (upd H p o') := fun a u h => by
  by_cases c : a = p
  · subst c; rw [upd_same] at h ⊢; exact h
  · rw [upd_ne c] at h ⊢; exact e a u h
/-- what is new in H1 lies beside H -/
theorem ex_new {H H1 : Hp} {p : Addr} {o : HO} (e : Ex H H1) (h : H1 p = some o) : Ex (upd H p o) H1 := fun a u q => by
  by_cases c : a = p
  · subst c; rw [upd_same] at q; cases q; exact h
  · rw [upd_ne c] at q; exact e a u q
theorem ex_upd {H : Hp} {p : Addr} {o : HO} (h : H p = none) : Ex H (upd H p o) := Ex.new h
theorem ex_skip {G H : Hp} {p : Addr} {o : HO} (h : G p = none) (e : Ex (upd G p o) H) : Ex G H := (Ex.new h).trans e

/-! ### what expressions come to -/
def Eg (te : TE) (σ : L2.St) (H : Hp) (R : V → Hp → Prop) : Prop := ∀ H1, Ex H H1 → ∀ Q : VK, (∀ v H' H2, R v H' → Ex H' H2 → Q v H2) → te σ H1 Q
def EgA (ta : TA) (σ : L2.St) (H : Hp) (R : List V → Hp → Prop) : Prop := ∀ H1, Ex H H1 → ∀ Q : List V → Hp → Prop, (∀ v H' H2, R v H' → Ex H' H2 → Q v H2) → ta σ H1 Q
def EgT (tt : TT) (σ : L2.St) (H : Hp) (R : Bool → Hp → Prop) : Prop := ∀ H1, Ex H H1 → ∀ Q : Bool → Hp → Prop, (∀ v H' H2, R v H' → Ex H' H2 → Q v H2) → tt σ H1 Q
section
variable {K : PySem.W.Frag} {σ : L2.St} {H H' : Hp} {ta tb te tx td ty tv : TE} {t u : TT} {x y z v w : V} {r : R2} {p a : Addr} {xs ys vs : List V}
theorem Eg.imp {R R' : V → Hp → Prop} (h : Eg te σ H R) (k : ∀ v H', R v H' → R' v H') : Eg te σ H R' := fun H1 e Q q => h H1 e Q fun v H' H2 r e2 => q v H' H2 (k v H' r) e2
theorem eg_ev (h : Ev te σ H v) : Eg te σ H (fun v' H' => v' = v ∧ H' = H) := fun H1 e Q q => h H1 e Q fun H2 e2 => q v H H2 ⟨rfl, rfl⟩ (e.trans e2)
theorem eg_l (h : EvL te σ H xs) : Eg te σ H (fun v' H' => ∃ p, v' = .ref p ∧ H p = none ∧ H' = upd H p (.lst xs)) := fun H1 e Q q =>
  h H1 e Q fun p H2 hp e2 h2 => q _ _ H2 ⟨p, rfl, fresh_back e hp, rfl⟩ (ex_new (e.trans e2) h2)
theorem eg_u (h : EvU te σ H xs) : Eg te σ H (fun v' H' => ∃ p, v' = .ref p ∧ H p = none ∧ H' = upd H p (.tup xs)) := fun H1 e Q q =>
  h H1 e Q fun p H2 hp e2 h2 => q _ _ H2 ⟨p, rfl, fresh_back e hp, rfl⟩ (ex_new (e.trans e2) h2)
theorem ega_nil : EgA tNil σ H (fun vs H' => vs = [] ∧ H' = H) := fun H1 e Q q => q [] H H1 ⟨rfl, rfl⟩ e
theorem ega_cons {tr : TA} {R : V → Hp → Prop} {S : V → Hp → List V → Hp → Prop} (h : Eg te σ H R) (hr : ∀ v H', R v H' → EgA tr σ H' (S v H')) : EgA (tCons te tr) σ H (fun vs H2 => ∃ v H' ws, vs = v :: ws ∧ R v H' ∧ S v H' ws H2) := fun H1 e Q q =>
  h H1 e _ fun v H' H2 r e2 => hr v H' r H2 e2 _ fun ws H3 H4 s e3 => q _ H3 H4 ⟨v, H', ws, rfl, r, s⟩ e3
theorem ega_ev {ta : TA} (h : EvA ta σ H vs) : EgA ta σ H (fun v' H' => v' = vs ∧ H' = H) := fun H1 e Q q => h H1 e Q fun H2 e2 => q vs H H2 ⟨rfl, rfl⟩ (e.trans e2)

/-! calls -/
theorem ev_meth {C : Addr} {m : Str} {sp : Sp} {E : XK} {ta : TE} {t : TA} {dx : Addr} {fs : List (Str × V)} (h : Ev ta σ H (.ref a)) (ho : H a = some (.ins C dx fs)) (hm : fs.lookup m = none) (hA : EvA t σ H vs) (hs : SpV sp (.ref a :: vs) H z) :
    Ev (tMeth C m sp [] E ta t) σ H z := fun H1 e Q q =>
  h H1 e _ fun H2 e2 => ⟨a, dx, fs, rfl, (e.trans e2) _ _ ho, hm, hA H2 (e.trans e2) _ fun H3 e3 => by
    rw [List.append_nil]
    exact hs H3 ((e.trans e2).trans e3) Q (fun H4 e4 => q H4 ((e2.trans e3).trans e4)) E⟩
theorem ev_fld {f : Str} {C dx : Addr} {fs : List (Str × V)} (h : Ev ta σ H (.ref a)) (ho : H a = some (.ins C dx fs)) (c : Cls K C) (n : NoAttr K C f) (hf : fs.lookup f = some v) : Ev (tFld K ta f) σ H v := fun H1 e Q q =>
  h H1 e _ fun H2 e2 => ⟨a, C, dx, fs, v, rfl, (e.trans e2) _ _ ho, c, n, hf, q H2 e2⟩
/-- a call: what the promise says over the known heap -/
def SpG (sp : Sp) (vs : List V) (H : Hp) (R : V → Hp → Prop) : Prop := ∀ H1, Ex H H1 → ∀ Q : VK, (∀ v H' H2, R v H' → Ex H' H2 → Q v H2) → ∀ E : XK, sp vs H1 Q E
def SpU (sp : Sp) (vs : List V) (H : Hp) (xs : List V) : Prop := ∀ H1, Ex H H1 → ∀ Q : VK, (∀ p H2, H1 p = none → Ex H1 H2 → H2 p = some (.tup xs) → Q (.ref p) H2) → ∀ E : XK, sp vs H1 Q E
theorem eu_call {sp : Sp} {E : XK} {ta : TA} (h : EvA ta σ H vs) (hs : SpU sp vs H xs) : EvU (tCall sp [] E ta) σ H xs := fun H1 e Q q =>
  h H1 e _ fun H2 e2 => by
    rw [List.append_nil]
    exact hs H2 (e.trans e2) Q (fun p H3 hp e3 h3 => q p H3 (fresh_back e2 hp) (e2.trans e3) h3) E
theorem ev_call0 {sp : Sp} {E : XK} {ta : TA} (h : EvA ta σ H vs) (hs : SpV sp vs H z) : Ev (tCall sp [] E ta) σ H z := ev_call h (by rw [List.append_nil]; exact hs)
theorem el_call0 {sp : Sp} {E : XK} {ta : TA} (h : EvA ta σ H vs) (hs : SpL sp vs H xs) : EvL (tCall sp [] E ta) σ H xs := el_call h (by rw [List.append_nil]; exact hs)
theorem eg_call {sp : Sp} {E : XK} {ta : TA} {R : V → Hp → Prop} (h : EvA ta σ H vs) (hs : SpG sp vs H R) : Eg (tCall sp [] E ta) σ H R := fun H1 e Q q =>
  h H1 e _ fun H2 e2 => by
    rw [List.append_nil]
    exact hs H2 (e.trans e2) Q q E
theorem eg_callG {sp : Sp} {E : XK} {ta : TA} {S : List V → Hp → Prop} {R : V → Hp → Prop} (h : EgA ta σ H S) (hs : ∀ vs H', S vs H' → SpG sp vs H' R) : Eg (tCall sp [] E ta) σ H R := fun H1 e Q q =>
  h H1 e _ fun vs H' H2 s e2 => by
    rw [List.append_nil]
    exact hs vs H' s H2 e2 Q q E

/-! operators -/
theorem rv_addS {i j : Str} (h : i.length + j.length ≤ sizeLine) : RV rAddS (.str i) (.str j) H (.str (i ++ j)) := fun H1 _ _ q => ⟨i, j, rfl, rfl, h, q H1 (Ex.refl H1)⟩
theorem rv_mulS {i : Str} {n : Int} (h : MulOk i n) : RV rMulS (.str i) (.int n) H (.str (Txt.mul i n)) := fun H1 _ _ q => ⟨i, n, rfl, rfl, h, q H1 (Ex.refl H1)⟩
theorem rv_inS {c : Nat} {z : Str} : RV rInS (.str ⟨#[c]⟩) (.str z) H (.bl (decide (c ∈ z.cps.toList))) := fun H1 _ _ q => ⟨c, z, rfl, rfl, q H1 (Ex.refl H1)⟩
theorem rv_ninS {c : Nat} {z : Str} : RV rNotInS (.str ⟨#[c]⟩) (.str z) H (.bl (!decide (c ∈ z.cps.toList))) := fun H1 _ _ q => ⟨c, z, rfl, rfl, q H1 (Ex.refl H1)⟩
theorem rv_isN : RV rIsN x .non H (.bl (decide (x = .non))) := fun H1 _ _ q => ⟨rfl, q H1 (Ex.refl H1)⟩
theorem rv_notN : RV rNotN x .non H (.bl (!decide (x = .non))) := fun H1 _ _ q => ⟨rfl, q H1 (Ex.refl H1)⟩
theorem rv_kd {w : World} {p : Addr} {s : Str} {v : V} (h : KDct K w p s v) : RV (rIxD K w) (.ref p) (.str s) H v := fun H1 _ _ q => ⟨p, s, v, rfl, rfl, h, q H1 (Ex.refl H1)⟩
theorem ev_un_neg {i : Int} (h : Ev ta σ H (.int i)) : Ev (tUn (rU fun i => .int (-i)) ta) σ H (.int (-i)) := ev_un h ru_neg
/-! built-in functions -/
theorem ev_lenS {s : Str} (h : Ev ta σ H (.str s)) (hl : s.length ≤ sizeLine) : Ev (tCB (fun xs H Q => ∃ z : Str, xs = [.str z] ∧ z.length ≤ sizeLine ∧ Q (.int z.length) H) (tCons ta tNil)) σ H (.int s.length) := fun H1 e Q q =>
  h H1 e _ fun H2 e2 => ⟨s, rfl, hl, q H2 e2⟩
theorem ev_lenL (h : Ev ta σ H (.ref a)) (hx : SqL K H a xs) : Ev (tCB (fun xs H Q => ∃ p ys, xs = [.ref p] ∧ (SqL K H p ys ∨ SqT K H p ys) ∧ Q (.int ys.length) H) (tCons ta tNil)) σ H (.int xs.length) := fun H1 e Q q =>
  h H1 e _ fun H2 e2 => ⟨a, xs, rfl, Or.inl (ex_l (e.trans e2) hx), q H2 e2⟩
theorem ev_lenNL (h : EvL ta σ H xs) : Ev (tCB (fun xs H Q => ∃ p ys, xs = [.ref p] ∧ (SqL K H p ys ∨ SqT K H p ys) ∧ Q (.int ys.length) H) (tCons ta tNil)) σ H (.int xs.length) := fun H1 e Q q =>
  h H1 e _ fun p H2 _ e2 h2 => ⟨p, xs, rfl, Or.inl (sq_of h2), q H2 e2⟩
theorem ev_lenT (h : Ev ta σ H (.ref a)) (hx : SqT K H a xs) : Ev (tCB (fun xs H Q => ∃ p ys, xs = [.ref p] ∧ (SqL K H p ys ∨ SqT K H p ys) ∧ Q (.int ys.length) H) (tCons ta tNil)) σ H (.int xs.length) := fun H1 e Q q =>
  h H1 e _ fun H2 e2 => ⟨a, xs, rfl, Or.inr (ex_t (e.trans e2) hx), q H2 e2⟩
theorem ev_lenD {kvs : List (Key × V)} (h : Ev ta σ H (.ref a)) (hx : H a = some (.dK kvs)) : Ev (tCB (fun xs H Q => ∃ a kvs, xs = [V.ref a] ∧ H a = some (.dK kvs) ∧ Q (.int kvs.length) H) (tCons ta tNil)) σ H (.int kvs.length) := fun H1 e Q q =>
  h H1 e _ fun H2 e2 => ⟨a, kvs, rfl, (e.trans e2) _ _ hx, q H2 e2⟩
theorem ev_abs {i : Int} (h : Ev ta σ H (.int i)) : Ev (tCB (fun xs H Q => ∃ i, xs = [.int i] ∧ Q (.int (if i < 0 then -i else i)) H) (tCons ta tNil)) σ H (.int (i.natAbs : Int)) := fun H1 e Q q =>
  h H1 e _ fun H2 e2 => ⟨i, rfl, by
    have : (if i < 0 then -i else i) = (i.natAbs : Int) := by split <;> omega
    rw [this]
    exact q H2 e2⟩
theorem ev_max {i j : Int} (h : Ev ta σ H (.int i)) (g : Ev tb σ H (.int j)) : Ev (tCB (fun xs H Q => ∃ i j, xs = [.int i, .int j] ∧ Q (.int (if j > i then j else i)) H) (tCons ta (tCons tb tNil))) σ H (.int (max i j)) := fun H1 e Q q =>
  h H1 e _ fun H2 e2 => g H2 (e.trans e2) _ fun H3 e3 => ⟨i, j, rfl, by
    have : (if j > i then j else i) = max i j := by split <;> omega
    rw [this]
    exact q H3 (e2.trans e3)⟩
theorem ev_min {i j : Int} (h : Ev ta σ H (.int i)) (g : Ev tb σ H (.int j)) : Ev (tCB (fun xs H Q => ∃ i j, xs = [.int i, .int j] ∧ Q (.int (if j < i then j else i)) H) (tCons ta (tCons tb tNil))) σ H (.int (min i j)) := fun H1 e Q q =>
  h H1 e _ fun H2 e2 => g H2 (e.trans e2) _ fun H3 e3 => ⟨i, j, rfl, by
    have : (if j < i then j else i) = min i j := by split <;> omega
    rw [this]
    exact q H3 (e2.trans e3)⟩
theorem ev_intI {i : Int} (h : Ev ta σ H (.int i)) : Ev (tCB (fun xs H Q => (∃ i, xs = [.int i] ∧ Q (.int i) H) ∨ ∃ k, xs = [.bl k] ∧ Q (.int (if k then 1 else 0)) H) (tCons ta tNil)) σ H (.int i) := fun H1 e Q q =>
  h H1 e _ fun H2 e2 => Or.inl ⟨i, rfl, q H2 e2⟩
theorem ev_intB {b : Bool} (h : Ev ta σ H (.bl b)) : Ev (tCB (fun xs H Q => (∃ i, xs = [.int i] ∧ Q (.int i) H) ∨ ∃ k, xs = [.bl k] ∧ Q (.int (if k then 1 else 0)) H) (tCons ta tNil)) σ H (.int (if b then 1 else 0)) := fun H1 e Q q =>
  h H1 e _ fun H2 e2 => Or.inr ⟨b, rfl, q H2 e2⟩
theorem ev_sumNL {ns : List Int} (h : EvL ta σ H (ns.map V.int)) : Ev (tCB (rSum K) (tCons ta tNil)) σ H (.int ns.sum) := fun H1 e Q q => h H1 e _ fun p H2 _ e2 h2 => ⟨p, ns, rfl, sq_of h2, q H2 e2⟩
theorem ev_allNL {bs : List Bool} (h : EvL ta σ H (bs.map V.bl)) : Ev (tCB (rAll K) (tCons ta tNil)) σ H (.bl (bs.all id)) := fun H1 e Q q => h H1 e _ fun p H2 _ e2 h2 => ⟨p, bs, rfl, sq_of h2, q H2 e2⟩
/-- the greatest of a list -/
theorem ev_maxNL {ns : List Int} {m : Int} (h : EvL ta σ H (ns.map V.int)) (hm : m ∈ ns) (hg : ∀ y ∈ ns, y ≤ m) : Ev (tCB (rMax K) (tCons ta tNil)) σ H (.int m) := fun H1 e Q q => h H1 e _ fun p H2 _ e2 h2 =>
  ⟨p, ns, rfl, sq_of h2, List.length_pos_of_mem hm, fun m' h1 h3 => by
    have : m' = m := Int.le_antisymm (hg m' h1) (h3 m hm)
    rw [this]; exact q H2 e2⟩
theorem ev_maxL {ns : List Int} {m : Int} (h : Ev ta σ H (.ref a)) (hx : SqL K H a (ns.map V.int)) (hm : m ∈ ns) (hg : ∀ y ∈ ns, y ≤ m) : Ev (tCB (rMax K) (tCons ta tNil)) σ H (.int m) := fun H1 e Q q => h H1 e _ fun H2 e2 =>
  ⟨a, ns, rfl, ex_l (e.trans e2) hx, List.length_pos_of_mem hm, fun m' h1 h3 => by
    have : m' = m := Int.le_antisymm (hg m' h1) (h3 m hm)
    rw [this]; exact q H2 e2⟩
theorem ev_minL {ns : List Int} {m : Int} (h : Ev ta σ H (.ref a)) (hx : SqL K H a (ns.map V.int)) (hm : m ∈ ns) (hg : ∀ y ∈ ns, m ≤ y) : Ev (tCB (rMin K) (tCons ta tNil)) σ H (.int m) := fun H1 e Q q => h H1 e _ fun H2 e2 =>
  ⟨a, ns, rfl, ex_l (e.trans e2) hx, List.length_pos_of_mem hm, fun m' h1 h3 => by
    have : m' = m := Int.le_antisymm (h3 m hm) (hg m' h1)
    rw [this]; exact q H2 e2⟩
theorem ev_minNL {ns : List Int} {m : Int} (h : EvL ta σ H (ns.map V.int)) (hm : m ∈ ns) (hg : ∀ y ∈ ns, m ≤ y) : Ev (tCB (rMin K) (tCons ta tNil)) σ H (.int m) := fun H1 e Q q => h H1 e _ fun p H2 _ e2 h2 =>
  ⟨p, ns, rfl, sq_of h2, List.length_pos_of_mem hm, fun m' h1 h3 => by
    have : m' = m := Int.le_antisymm (h3 m hm) (hg m' h1)
    rw [this]; exact q H2 e2⟩
theorem ev_isi {c : V} {t u : Value} {b : Bool} (h : Ev ta σ H x) (g : Ev tb σ H c) (hc : ClsV c u) (ht : ∀ H', Ex H H' → TyX K H' x t) (hk : PySem.W.kitOne K t u = some b) : Ev (tCB (rIsi K) (tCons ta (tCons tb tNil))) σ H (.bl b) := fun H1 e Q q =>
  h H1 e _ fun H2 e2 => g H2 (e.trans e2) _ fun H3 e3 => ⟨x, c, t, u, b, rfl, hc, ht H3 ((e.trans e2).trans e3), hk, q H3 (e2.trans e3)⟩
/-! subscripts, slices -/
theorem ev_slS {s : Str} {tl th : TO} {lo hi : Option Int} (h : Ev te σ H (.str s)) (h1 : EvO tl σ H lo) (h2 : EvO th σ H hi) (hl : s.length ≤ sizeLine) : Ev (tSl rSlS te tl th) σ H (.str (cutS s lo hi)) := fun H1 e Q q =>
  h H1 e _ fun H2 e2 => h1 H2 (e.trans e2) _ fun H3 e3 => h2 H3 ((e.trans e2).trans e3) _ fun H4 e4 => ⟨s, rfl, hl, q H4 ((e2.trans e3).trans e4)⟩
theorem rv_ixS' {w : Str} {i : Int} {c : Nat} (h : w.length ≤ sizeLine) (ha : atI w.cps.toList i = some c) : RV rIxS (.str w) (.int i) H (.str ⟨#[c]⟩) := fun H1 _ _ q => ⟨w, i, c, rfl, rfl, h, ha, q H1 (Ex.refl H1)⟩
/-- an index of a tuple that was just made -/
theorem ev_ixU {i : Int} (h : EvU ta σ H xs) (g : Ev tb σ H (.int i)) (ha : atI xs i = some v) : Ev (tOp (rIxT K) ta tb) σ H v := fun H1 e Q q =>
  h H1 e _ fun p H2 _ e2 h2 => g H2 (e.trans e2) _ fun H3 e3 => ⟨p, xs, i, v, rfl, rfl, st_of (e3 _ _ h2), ha, q H3 (e2.trans e3)⟩
theorem ev_ixNL {i : Int} (h : EvL ta σ H xs) (g : Ev tb σ H (.int i)) (ha : atI xs i = some v) : Ev (tOp (rIxL K) ta tb) σ H v := fun H1 e Q q =>
  h H1 e _ fun p H2 _ e2 h2 => g H2 (e.trans e2) _ fun H3 e3 => ⟨p, xs, i, v, rfl, rfl, sq_of (e3 _ _ h2), ha, q H3 (e2.trans e3)⟩
/-! dicts -/
theorem dget_ex {o : Option V} (e : Ex H H') (h : DGet H a y o) : DGet H' a y o := by
  rcases h with ⟨kvs, k, r, hy, ho⟩ | ⟨kvs, k, b, r, hy, hb, ho⟩
  · exact .inl ⟨kvs, k, ex_rd e r, hy, ho⟩
  · exact .inr ⟨kvs, k, b, ex_rd e r, hy, e _ _ hb, ho⟩
theorem ev_dget (h : Ev td σ H (.ref a)) (g : Ev ty σ H y) (hd : DGet H a y (some v)) : Ev (tDGet td ty) σ H v := fun H1 e Q q =>
  h H1 e _ fun H2 e2 => g H2 (e.trans e2) _ fun H3 e3 => ⟨a, v, rfl, dget_ex ((e.trans e2).trans e3) hd, q H3 (e2.trans e3)⟩
theorem ev_din {o : Option V} (g : Ev ty σ H y) (h : Ev td σ H (.ref a)) (hd : DGet H a y o) : Ev (tDIn ty td) σ H (.bl o.isSome) := fun H1 e Q q =>
  g H1 e _ fun H2 e2 => h H2 (e.trans e2) _ fun H3 e3 => ⟨a, o, rfl, dget_ex ((e.trans e2).trans e3) hd, q H3 (e2.trans e3)⟩
theorem ev_dnin {o : Option V} (g : Ev ty σ H y) (h : Ev td σ H (.ref a)) (hd : DGet H a y o) : Ev (tDNotIn ty td) σ H (.bl (!o.isSome)) := fun H1 e Q q =>
  g H1 e _ fun H2 e2 => h H2 (e.trans e2) _ fun H3 e3 => ⟨a, o, rfl, dget_ex ((e.trans e2).trans e3) hd, q H3 (e2.trans e3)⟩
/-! tests -/
theorem et_truS {s : Str} (h : Ev te σ H (.str s)) (hl : s.length ≤ sizeLine) : EvT (fun σ H Q => te σ H fun x H' => ∃ k, TruV K x H' k ∧ Q k H') σ H ((s.length : Int) != 0) := fun H1 e Q q =>
  h H1 e _ fun H2 e2 => ⟨_, ⟨hl, rfl⟩, q H2 e2⟩
theorem et_truI {i : Int} (h : Ev te σ H (.int i)) : EvT (fun σ H Q => te σ H fun x H' => ∃ k, TruV K x H' k ∧ Q k H') σ H (i != 0) := fun H1 e Q q =>
  h H1 e _ fun H2 e2 => ⟨_, rfl, q H2 e2⟩
theorem et_truL (h : Ev te σ H (.ref a)) (hx : SqL K H a xs) : EvT (fun σ H Q => te σ H fun x H' => ∃ k, TruV K x H' k ∧ Q k H') σ H (!xs.isEmpty) := fun H1 e Q q =>
  h H1 e _ fun H2 e2 => ⟨_, Or.inl ⟨xs, ex_l (e.trans e2) hx, rfl⟩, q H2 e2⟩
theorem ev_chain {r r' : R2} {tc : TE} {b c : Bool} (h : Ev ta σ H x) (g : Ev tb σ H y) (hr : RV r x y H (.bl b)) (k : b = true → Ev tc σ H z ∧ RV r' y z H (.bl c)) : Ev (tChain r r' ta tb tc) σ H (.bl (b && c)) := fun H1 e Q q =>
  h H1 e _ fun H2 e2 => g H2 (e.trans e2) _ fun H3 e3 => hr H3 ((e.trans e2).trans e3) _ fun H4 e4 => ⟨b, rfl, by
    cases b with
    | true =>
      obtain ⟨k1, k2⟩ := k rfl
      show tc σ H4 _
      exact k1 H4 (((e.trans e2).trans e3).trans e4) _ fun H5 e5 => k2 H5 ((((e.trans e2).trans e3).trans e4).trans e5) _ fun H6 e6 => q H6 ((((e2.trans e3).trans e4).trans e5).trans e6)
    | false =>
      show Q (.bl false) H4
      exact q H4 ((e2.trans e3).trans e4)⟩
end
end Kn

/-! Statements, loops and comprehensions over a known heap. -/
namespace Kn
open PySem PySem.Spec L2 Evl

/-- the block t runs well at every heap above the known one -/
def Run (t : TS) (D : Ends) (σ : L2.St) (H : Hp) : Prop := ∀ H1, Ex H H1 → t D σ H1
def Up (P : L2.St → Hp → Prop) : L2.St → Hp → Prop := fun σ H2 => ∃ H', Ex H' H2 ∧ P σ H'
section
variable {K : PySem.W.Frag} {σ : L2.St} {H H' : Hp} {ta tb te tx td ty tv : TE} {t : TT} {x y z v w : V} {r : R2} {p a : Addr} {xs ys vs : List V} {D : Ends} {u tu tw : TS} {i j l : Nat}
theorem Run.go (h : Run u D σ H) : u D σ H := h H (Ex.refl H)
theorem Run.mono (e : Ex H H') (h : Run u D σ H) : Run u D σ H' := fun H1 e1 => h H1 (e.trans e1)
theorem Run.start {N : List Str} {vs : List V} (e : L2.start N vs = σ) (h : Run u D σ H) : u D (L2.start N vs) H := by rw [e]; exact h.go
theorem run_asg (h : Ev te σ H v) (k : Run u D (σ.set i (some v)) H) : Run (tSeq (tAsg te (gName i)) u) D σ H := fun H1 e => h H1 e _ fun H2 e2 => k H2 (e.trans e2)
theorem run_asgL (h : EvL te σ H xs) (k : ∀ p, H p = none → Run u D (σ.set i (some (.ref p))) (upd H p (.lst xs))) : Run (tSeq (tAsg te (gName i)) u) D σ H := fun H1 e => h H1 e _ fun p H2 hp e2 h2 => k p (fresh_back e hp) H2 (ex_new (e.trans e2) h2)
theorem run_asgU (h : EvU te σ H xs) (k : ∀ p, H p = none → Run u D (σ.set i (some (.ref p))) (upd H p (.tup xs))) : Run (tSeq (tAsg te (gName i)) u) D σ H := fun H1 e => h H1 e _ fun p H2 hp e2 h2 => k p (fresh_back e hp) H2 (ex_new (e.trans e2) h2)
theorem run_asgG {R : V → Hp → Prop} (h : Eg te σ H R) (k : ∀ v H', R v H' → Run u D (σ.set i (some v)) H') : Run (tSeq (tAsg te (gName i)) u) D σ H := fun H1 e => h H1 e _ fun v H' H2 r e2 => k v H' r H2 e2
theorem run_asgD (k : ∀ p, H p = none → Run u D (σ.set i (some (.ref p))) (upd H p (.dK []))) : Run (tSeq (tAsg tDNewK (gName i)) u) D σ H := fun H1 e p hp => k p (fresh_back e hp) _ (exc e)
theorem run_ret (h : Ev te σ H v) (k : ∀ H2, Ex H H2 → D.rt v H2) : Run (tSeq (tRet te) u) D σ H := fun H1 e => h H1 e _ fun H2 e2 => k H2 (e.trans e2)
theorem run_retL (h : EvL te σ H xs) (k : ∀ p, H p = none → ∀ H2, Ex (upd H p (.lst xs)) H2 → D.rt (.ref p) H2) : Run (tSeq (tRet te) u) D σ H := fun H1 e => h H1 e _ fun p H2 hp e2 h2 => k p (fresh_back e hp) H2 (ex_new (e.trans e2) h2)
theorem run_retU (h : EvU te σ H xs) (k : ∀ p, H p = none → ∀ H2, Ex (upd H p (.tup xs)) H2 → D.rt (.ref p) H2) : Run (tSeq (tRet te) u) D σ H := fun H1 e => h H1 e _ fun p H2 hp e2 h2 => k p (fresh_back e hp) H2 (ex_new (e.trans e2) h2)
theorem run_retG {R : V → Hp → Prop} (h : Eg te σ H R) (k : ∀ v H', R v H' → ∀ H2, Ex H' H2 → D.rt v H2) : Run (tSeq (tRet te) u) D σ H := fun H1 e => h H1 e _ fun v H' H2 r e2 => k v H' r H2 e2
theorem run_if {b : Bool} (h : EvT t σ H b) (h1 : b = true → Run tu { D with nx := u D } σ H) (h2 : b = false → Run tw { D with nx := u D } σ H) : Run (tSeq (tIfS t tu tw) u) D σ H := fun H1 e => h H1 e _ fun H2 e2 => by
  cases b with
  | true =>
    show tu { D with nx := u D } σ H2
    exact h1 rfl H2 (e.trans e2)
  | false =>
    show tw { D with nx := u D } σ H2
    exact h2 rfl H2 (e.trans e2)
theorem run_ifG {R : Bool → Hp → Prop} (h : EgT t σ H R) (h1 : ∀ H', R true H' → Run tu { D with nx := u D } σ H') (h2 : ∀ H', R false H' → Run tw { D with nx := u D } σ H') : Run (tSeq (tIfS t tu tw) u) D σ H := fun H1 e => h H1 e _ fun b H' H2 r e2 => by
  cases b with
  | true =>
    show tu { D with nx := u D } σ H2
    exact h1 H' r H2 e2
  | false =>
    show tw { D with nx := u D } σ H2
    exact h2 H' r H2 e2
theorem run_drop (h : Ev te σ H v) (k : Run u D σ H) : Run (tSeq (tDrop te) u) D σ H := fun H1 e => h H1 e _ fun H2 e2 => k H2 (e.trans e2)
theorem run_dropG {R : V → Hp → Prop} (h : Eg te σ H R) (k : ∀ v H', R v H' → Run u D σ H') : Run (tSeq (tDrop te) u) D σ H := fun H1 e => h H1 e _ fun v H' H2 r e2 => k v H' r H2 e2
theorem run_pass (k : Run u D σ H) : Run (tSeq tNext u) D σ H := k
/-- the block's end, what is behind known -/
theorem run_next (k : ∀ H2, Ex H H2 → D.nx σ H2) : Run tNext D σ H := k
theorem run_end (k : Run u D σ H) : Run tNext { D with nx := u D } σ H := fun H1 e1 => k H1 e1
/-- an if without else -/
theorem run_when {b : Bool} (h : EvT t σ H b) (h1 : b = true → Run tu { D with nx := u D } σ H) (h2 : b = false → Run u D σ H) : Run (tSeq (tIfS t tu tNext) u) D σ H := run_if h h1 fun hb => run_end (h2 hb)
theorem run_then {w' : TS} {D0 : Ends} (e : D.nx = w' D0) (k : Run w' D0 σ H) : Run tNext D σ H := fun H1 e1 => by show D.nx σ H1; rw [e]; exact k H1 e1
theorem run_up {P : L2.St → Hp → Prop} (e : D.nx = Up P) (h : P σ H) : Run tNext D σ H := fun H1 e1 => by show D.nx σ H1; rw [e]; exact ⟨H, e1, h⟩
theorem run_par (h : EvA ta' σ H [v, w]) (k : Run u D ((σ.set i (some v)).set j (some w)) H) : Run (tSeq (tPar i j ta') u) D σ H := fun H1 e => h H1 e _ fun H2 e2 => ⟨v, w, rfl, k H2 (e.trans e2)⟩
theorem run_parG {R : List V → Hp → Prop} (h : EgA ta' σ H R) (k : ∀ vs H', R vs H' → ∃ v w, vs = [v, w] ∧ Run u D ((σ.set i (some v)).set j (some w)) H') : Run (tSeq (tPar i j ta') u) D σ H := fun H1 e => h H1 e _ fun vs H' H2 r e2 => by
  obtain ⟨v, w, e3, q⟩ := k vs H' r
  exact ⟨v, w, e3, q H2 e2⟩
theorem run_parG3 {R : List V → Hp → Prop} (h : EgA ta' σ H R) (k : ∀ vs H', R vs H' → ∃ v w z, vs = [v, w, z] ∧ Run u D (((σ.set i (some v)).set j (some w)).set l (some z)) H') : Run (tSeq (tPar3 i j l ta') u) D σ H := fun H1 e => h H1 e _ fun vs H' H2 r e2 => by
  obtain ⟨v, w, z, e3, q⟩ := k vs H' r
  exact ⟨v, w, z, e3, q H2 e2⟩
/-- a, b = a new tuple -/
theorem run_unp2 (h : EvU te σ H [v, w]) (k : Run u D ((σ.set i (some v)).set j (some w)) H) : Run (tSeq (tAsg te (gTup K 2 (gCons (gName i) (gCons (gName j) gNil)))) u) D σ H := fun H1 e => h H1 e _ fun p H2 _ e2 h2 =>
  ⟨p, [v, w], rfl, st_of h2, rfl, v, [w], rfl, w, [], rfl, rfl, k H2 (e.trans e2)⟩
theorem run_unp3 (h : EvU te σ H [v, w, z]) (k : Run u D (((σ.set i (some v)).set j (some w)).set l (some z)) H) : Run (tSeq (tAsg te (gTup K 3 (gCons (gName i) (gCons (gName j) (gCons (gName l) gNil))))) u) D σ H := fun H1 e => h H1 e _ fun p H2 _ e2 h2 =>
  ⟨p, [v, w, z], rfl, st_of h2, rfl, v, [w, z], rfl, w, [z], rfl, z, [], rfl, rfl, k H2 (e.trans e2)⟩
/-- .. = a tuple that stands -/
theorem run_unp3V (h : Ev te σ H (.ref a)) (hx : SqT K H a [v, w, z]) (k : Run u D (((σ.set i (some v)).set j (some w)).set l (some z)) H) : Run (tSeq (tAsg te (gTup K 3 (gCons (gName i) (gCons (gName j) (gCons (gName l) gNil))))) u) D σ H := fun H1 e => h H1 e _ fun H2 e2 =>
  ⟨a, [v, w, z], rfl, ex_t (e.trans e2) hx, rfl, v, [w, z], rfl, w, [z], rfl, z, [], rfl, rfl, k H2 (e.trans e2)⟩
theorem run_unp2V (h : Ev te σ H (.ref a)) (hx : SqT K H a [v, w]) (k : Run u D ((σ.set i (some v)).set j (some w)) H) : Run (tSeq (tAsg te (gTup K 2 (gCons (gName i) (gCons (gName j) gNil)))) u) D σ H := fun H1 e => h H1 e _ fun H2 e2 =>
  ⟨a, [v, w], rfl, ex_t (e.trans e2) hx, rfl, v, [w], rfl, w, [], rfl, rfl, k H2 (e.trans e2)⟩
/-- .. = a list that stands -/
theorem run_unl2V (h : Ev te σ H (.ref a)) (hx : SqL K H a [v, w]) (k : Run u D ((σ.set i (some v)).set j (some w)) H) : Run (tSeq (tAsg te (gLst K 2 (gCons (gName i) (gCons (gName j) gNil)))) u) D σ H := fun H1 e => h H1 e _ fun H2 e2 =>
  ⟨a, [v, w], rfl, ex_l (e.trans e2) hx, rfl, v, [w], rfl, w, [], rfl, rfl, k H2 (e.trans e2)⟩
theorem run_unl3V (h : Ev te σ H (.ref a)) (hx : SqL K H a [v, w, z]) (k : Run u D (((σ.set i (some v)).set j (some w)).set l (some z)) H) : Run (tSeq (tAsg te (gLst K 3 (gCons (gName i) (gCons (gName j) (gCons (gName l) gNil))))) u) D σ H := fun H1 e => h H1 e _ fun H2 e2 =>
  ⟨a, [v, w, z], rfl, ex_l (e.trans e2) hx, rfl, v, [w, z], rfl, w, [z], rfl, z, [], rfl, rfl, k H2 (e.trans e2)⟩
/-- d[k] = v -/
theorem run_dput {G : Hp} {kvs : List (Key × V)} {k : Key} (hv : Ev tv σ (upd G p (.dK kvs)) v) (hd : Ev td σ (upd G p (.dK kvs)) (.ref p)) (hk : Ev ty σ (upd G p (.dK kvs)) (kV k)) (hl : kvs.length < sizeLine) (q : Run u D σ (upd G p (.dK (putK kvs k v)))) :
    Run (tSeq (sDPut td ty tv) u) D σ (upd G p (.dK kvs)) := fun H1 e => hv H1 e _ fun H2 e2 => hd H2 (e.trans e2) _ fun H3 e3 => hk H3 ((e.trans e2).trans e3) _ fun H4 e4 =>
  ⟨p, _, rfl, DPut.k ((((e.trans e2).trans e3).trans e4) p _ upd_same) hl, q _ (exu (((e.trans e2).trans e3).trans e4))⟩
/-- xs.append(e) -/
theorem run_app {G : Hp} (hl : Ev ta σ (upd G p (.lst xs)) (.ref p)) (h : Ev te σ (upd G p (.lst xs)) v) (hz : xs.length < sizeLine) (q : Run u D σ (upd G p (.lst (xs ++ [v])))) :
    Run (tSeq (tDrop (tBM K "list" rAppend ta (tCons te tNil))) u) D σ (upd G p (.lst xs)) := fun H1 e => hl H1 e _ fun H2 e2 =>
  ⟨Or.inl ⟨rfl, xs, sq_of ((e.trans e2) p _ upd_same)⟩, h H2 (e.trans e2) _ fun H3 e3 => ⟨p, xs, v, rfl, rfl, ((e.trans e2).trans e3) p _ upd_same, hz, q _ (exu ((e.trans e2).trans e3))⟩⟩
/-- xs[i] = e -/
theorem run_setL {G : Hp} {k : Nat} (h : Ev te σ (upd G p (.lst xs)) v) (hl : Ev ta σ (upd G p (.lst xs)) (.ref p)) (hi : Ev tb σ (upd G p (.lst xs)) (.int (k : Int))) (hk : k < xs.length) (q : Run u D σ (upd G p (.lst (xs.set k v)))) :
    Run (tSeq (tAsg te (gSub ta tb rSetL)) u) D σ (upd G p (.lst xs)) := fun H1 e => h H1 e _ fun H2 e2 => hl H2 (e.trans e2) _ fun H3 e3 => hi H3 ((e.trans e2).trans e3) _ fun H4 e4 =>
  ⟨p, xs, (k : Int), k, rfl, rfl, (((e.trans e2).trans e3).trans e4) p _ upd_same, ixN_nat hk, q _ (exu (((e.trans e2).trans e3).trans e4))⟩
/-- self.f = e -/
theorem run_fld {G : Hp} {f : Str} {C dx : Addr} {fs : List (Str × V)} (hv : Ev tv σ (upd G p (.ins C dx fs)) v) (h : Ev ta σ (upd G p (.ins C dx fs)) (.ref p)) (c : Cls K C) (n : NoAttr K C f) (hf : fs.length < 1000) (q : Run u D σ (upd G p (.ins C dx (putF f v fs)))) :
    Run (tSeq (sFld K ta tv f) u) D σ (upd G p (.ins C dx fs)) := fun H1 e => hv H1 e _ fun H2 e2 => h H2 (e.trans e2) _ fun H3 e3 => ⟨p, C, dx, fs, rfl, ((e.trans e2).trans e3) p _ upd_same, c, n, hf, q _ (exu ((e.trans e2).trans e3))⟩
theorem run_fldL {G : Hp} {f : Str} {C dx : Addr} {fs : List (Str × V)} (hv : EvL tv σ (upd G p (.ins C dx fs)) xs) (h : ∀ H', Ex (upd G p (.ins C dx fs)) H' → Ev ta σ H' (.ref p)) (c : Cls K C) (n : NoAttr K C f) (hf : fs.length < 1000)
    (q : ∀ b, (upd G p (.ins C dx fs)) b = none → Run u D σ (upd (upd G b (.lst xs)) p (.ins C dx (putF f (.ref b) fs)))) :
    Run (tSeq (sFld K ta tv f) u) D σ (upd G p (.ins C dx fs)) := fun H1 e => hv H1 e _ fun b H2 hb e2 h2 => h H2 (e.trans e2) H2 (Ex.refl H2) _ fun H3 e3 => ⟨p, C, dx, fs, rfl, ((e.trans e2).trans e3) p _ upd_same, c, n, hf, q b (fresh_back e hb) _ (fun a' o' q' => by
      have hbp : p ≠ b := ne_of_none (e p _ upd_same) hb
      by_cases c1 : a' = p
      · subst c1; rw [upd_same] at q' ⊢; exact q'
      · rw [upd_ne c1] at q' ⊢
        by_cases c2 : a' = b
        · subst c2; rw [upd_same] at q'; cases q'; exact e3 _ _ h2
        · rw [upd_ne c2] at q'
          exact ((e.trans e2).trans e3) a' o' (by rw [upd_ne c1]; exact q'))⟩
theorem run_fldU {G : Hp} {f : Str} {C dx : Addr} {fs : List (Str × V)} (hv : EvU tv σ (upd G p (.ins C dx fs)) xs) (h : ∀ H', Ex (upd G p (.ins C dx fs)) H' → Ev ta σ H' (.ref p)) (c : Cls K C) (n : NoAttr K C f) (hf : fs.length < 1000)
    (q : ∀ b, (upd G p (.ins C dx fs)) b = none → Run u D σ (upd (upd G b (.tup xs)) p (.ins C dx (putF f (.ref b) fs)))) :
    Run (tSeq (sFld K ta tv f) u) D σ (upd G p (.ins C dx fs)) := fun H1 e => hv H1 e _ fun b H2 hb e2 h2 => h H2 (e.trans e2) H2 (Ex.refl H2) _ fun H3 e3 => ⟨p, C, dx, fs, rfl, ((e.trans e2).trans e3) p _ upd_same, c, n, hf, q b (fresh_back e hb) _ (fun a' o' q' => by
      have hbp : p ≠ b := ne_of_none (e p _ upd_same) hb
      by_cases c1 : a' = p
      · subst c1; rw [upd_same] at q' ⊢; exact q'
      · rw [upd_ne c1] at q' ⊢
        by_cases c2 : a' = b
        · subst c2; rw [upd_same] at q'; cases q'; exact e3 _ _ h2
        · rw [upd_ne c2] at q'
          exact ((e.trans e2).trans e3) a' o' (by rw [upd_ne c1]; exact q'))⟩
/-- raise X() -/
theorem run_raise {C : Addr} {W : WX} (k : ∀ H2, Ex H H2 → W (.ref C) none σ H2) : Run (tSeq (fun _ σ H => (fun (_ : L2.St) (H : Hp) (Q : XK) => Q (.ref C) none H) σ H fun cls d H' => W cls d σ H') u) D σ H := fun H1 e => k H1 e

/-! ### what is walked, as a list -/
structure Pur (J : It) (H : Hp) (xs : List V) : Prop where
  go : ∀ i H', Ex H H' → i < xs.length → J.go i H'
  yld : ∀ i H' x H'', Ex H H' → i < xs.length → J.yld i H' x H'' → H'' = H' ∧ xs[i]? = some x
  stop : ∀ H', Ex H H' → J.stop xs.length H'
theorem Pur.mono {J : It} (e : Ex H H') (h : Pur J H xs) : Pur J H' xs := ⟨fun i H2 e2 => h.go i H2 (e.trans e2), fun i H2 x H3 e2 => h.yld i H2 x H3 (e.trans e2), fun H2 e2 => h.stop H2 (e.trans e2)⟩
/-- the walked thing gives the values xs, one after the other, while the known heap stands -/
def EvI (wi : TI) (σ : L2.St) (H : Hp) (xs : List V) : Prop := ∀ H1, Ex H H1 → ∀ R : It → Hp → Prop, (∀ J H2, Ex H1 H2 → Pur J H xs → R J H2) → wi σ H1 R
/-- .. while the heap at its making stands (for comprehensions) -/
def EvJ (wi : TI) (σ : L2.St) (H : Hp) (xs : List V) : Prop := ∀ H1, Ex H H1 → ∀ R : It → Hp → Prop, (∀ J H2, Ex H1 H2 → Pur J H2 xs → R J H2) → wi σ H1 R
theorem EvI.toJ {wi : TI} (h : EvI wi σ H xs) : EvJ wi σ H xs := fun H1 e R q => h H1 e R fun J H2 e2 pu => q J H2 e2 (pu.mono (e.trans e2))
/-- .. where a new list is made and walked: known from then on -/
def EvIN (wi : TI) (σ : L2.St) (H : Hp) (xs : List V) : Prop := ∀ H1, Ex H H1 → ∀ R : It → Hp → Prop, (∀ J p H2, H p = none → Ex H1 H2 → H2 p = some (.lst xs) → Pur J (upd H p (.lst xs)) xs → R J H2) → wi σ H1 R
def rgs (lo : Int) (n : Nat) : List V := (List.range n).map fun i : Nat => V.int (lo + (i : Int))
theorem rgs_len (lo : Int) (n : Nat) : (rgs lo n).length = n := by unfold rgs; rw [List.length_map, List.length_range]
theorem rgs_at {lo : Int} {n i : Nat} (h : i < n) : (rgs lo n)[i]? = some (.int (lo + (i : Int))) := by
  unfold rgs; rw [List.getElem?_map, List.getElem?_range h]; rfl
theorem rgs_of {lo : Int} {n i : Nat} {x : V} (h : (rgs lo n)[i]? = some x) : i < n ∧ x = .int (lo + (i : Int)) := by
  have hl := (List.getElem?_eq_some_iff.mp h).1
  rw [rgs_len] at hl
  rw [rgs_at hl] at h
  exact ⟨hl, (Option.some.inj h).symm⟩
theorem pur_rng {lo : Int} {n : Nat} : Pur (Itr lo n) H (rgs lo n) := by
  refine ⟨fun i H' _ hi => by rw [rgs_len] at hi; exact hi, fun i H' x H'' _ hi y => ?_, fun H' _ => by rw [rgs_len]; exact Nat.le_refl n⟩
  rw [rgs_len] at hi
  obtain ⟨e1, e2⟩ := y
  exact ⟨e1, by rw [rgs_at hi, e2]⟩
theorem ei_rng1 {ta : TA} {n : Int} (h : EvA ta σ H [.int n]) (h1 : -(2 ^ 62) ≤ n) (h2 : n < 2 ^ 62) : EvI (iRng1 ta) σ H (rgs 0 n.toNat) := fun H1 e R q =>
  h H1 e _ fun H2 e2 => ⟨n, rfl, h1, h2, q _ H2 e2 pur_rng⟩
theorem ei_rng2 {ta : TA} {lo n : Int} (h : EvA ta σ H [.int lo, .int n]) (h1 : -(2 ^ 62) ≤ lo) (h2 : lo < 2 ^ 62) (h3 : -(2 ^ 62) ≤ n) (h4 : n < 2 ^ 62) : EvI (iRng2 ta) σ H (rgs lo (n - lo).toNat) := fun H1 e R q =>
  h H1 e _ fun H2 e2 => ⟨lo, n, rfl, ⟨h1, h2, h3, h4⟩, q _ H2 e2 pur_rng⟩
theorem pur_list (hx : SqL K H a xs) : Pur (Itl K a) H xs :=
  ⟨fun i H' e hi => ⟨xs, xs[i], ex_l e hx, by rw [List.getElem?_eq_getElem hi]⟩, fun i H' x H'' e _ y => ⟨y.1, y.2 xs (ex_l e hx)⟩, fun H' e => ⟨xs, ex_l e hx, Nat.le_refl _⟩⟩
theorem pur_tup (hx : SqT K H a xs) : Pur (Itt K a) H xs :=
  ⟨fun i H' e hi => ⟨xs, xs[i], ex_t e hx, by rw [List.getElem?_eq_getElem hi]⟩, fun i H' x H'' e _ y => ⟨y.1, y.2 xs (ex_t e hx)⟩, fun H' e => ⟨xs, ex_t e hx, Nat.le_refl _⟩⟩
theorem ei_list (h : Ev te σ H (.ref a)) (hx : SqL K H a xs) : EvI (iList K te) σ H xs := fun H1 e R q =>
  h H1 e _ fun H2 e2 => ⟨a, rfl, ⟨xs, ex_l (e.trans e2) hx⟩, q _ H2 e2 (pur_list hx)⟩
theorem ei_tup (h : Ev te σ H (.ref a)) (hx : SqT K H a xs) : EvI (iTup K te) σ H xs := fun H1 e R q =>
  h H1 e _ fun H2 e2 => ⟨a, rfl, ⟨xs, ex_t (e.trans e2) hx⟩, q _ H2 e2 (pur_tup hx)⟩
theorem ej_new (h : EvL te σ H xs) : EvJ (iList K te) σ H xs := fun H1 e R q =>
  h H1 e _ fun p H2 _ e2 h2 => ⟨p, rfl, ⟨xs, sq_of h2⟩, q _ H2 e2 (pur_list (sq_of h2))⟩
theorem ein_new (h : EvL te σ H xs) : EvIN (iList K te) σ H xs := fun H1 e R q =>
  h H1 e _ fun p H2 hp e2 h2 => ⟨p, rfl, ⟨xs, sq_of h2⟩, q _ p H2 (fresh_back e hp) e2 h2 (pur_list (sq_of upd_same))⟩
def signs (z : Str) : List V := z.cps.toList.map fun c => V.str ⟨#[c]⟩
theorem ei_str {z : Str} (h : Ev te σ H (.str z)) : EvI (iStr te) σ H (signs z) := fun H1 e R q =>
  h H1 e _ fun H2 e2 => ⟨z, rfl, q _ H2 e2 ⟨fun i H' _ hi => by
      have : i < z.cps.size := by simpa [signs] using hi
      exact this, fun i H' x H'' _ _ y => by
      obtain ⟨e1, c, hc, ex⟩ := y
      refine ⟨e1, ?_⟩
      unfold signs
      rw [List.getElem?_map, Array.getElem?_toList, hc, ex]; rfl, fun H' _ => by
      have : z.cps.size ≤ (signs z).length := by simp [signs]
      exact this⟩⟩

/-! ### for -/
/-- the body's ends in a loop -/
abbrev LpD (D : Ends) (u : TS) (P : L2.St → Hp → Prop) : Ends := { D with nx := Up P, ct := Up P, bk := u D }
theorem loop_core {J : It} {g : TG} {tb : TS} {H0 H2 : Hp} (pu : Pur J H0 xs) (P : Nat → L2.St → Hp → Prop) (h0 : Up (P 0) σ H2) (hx : ∀ i σ' H', P i σ' H' → Ex H0 H')
    (hs : ∀ i x σ' H', i < xs.length → xs[i]? = some x → P i σ' H' → ∀ H1, Ex H' H1 → g x σ' H1 fun σ2 H2 => tb (LpD D u (P (i + 1))) σ2 H2) (hd : ∀ σ' H', P xs.length σ' H' → Run u D σ' H') :
    ∃ W : Nat → Nat → L2.St → Hp → Prop, (∃ m, W 0 m σ H2) ∧ ∀ i m σ H, W i m σ H → (J.stop i H ∧ u D σ H) ∨ (J.go i H ∧ ∃ N : L2.St → Hp → Prop, (∀ σ' H', N σ' H' → ∃ m', m' < m ∧ W (i + 1) m' σ' H') ∧ ∀ x H', J.yld i H x H' → g x σ H' fun σ2 H2 => tb { nx := N, rt := D.rt, bk := u D, ct := N } σ2 H2) := by
  refine ⟨fun i m σ' H' => m = xs.length - i ∧ i ≤ xs.length ∧ Up (P i) σ' H', ⟨xs.length, by simp, Nat.zero_le _, h0⟩, ?_⟩
  rintro i m σ' H' ⟨rfl, hi, H4, e4, p⟩
  have e3 : Ex H0 H' := (hx i σ' H4 p).trans e4
  by_cases hlt : i < xs.length
  · refine .inr ⟨pu.go i H' e3 hlt, Up (P (i + 1)), fun σ5 H5 p' => ⟨xs.length - (i + 1), by omega, rfl, hlt, p'⟩, fun x H'' y => ?_⟩
    obtain ⟨e5, hx'⟩ := pu.yld i H' x H'' e3 hlt y
    subst e5
    exact hs i x σ' H4 hlt hx' p H'' e4
  · have e5 : i = xs.length := by omega
    subst e5
    exact .inl ⟨pu.stop H' e3, hd σ' H4 p H' e4⟩
theorem run_forG {wi : TI} {g : TG} {tb : TS} (h : EvI wi σ H xs) (P : Nat → L2.St → Hp → Prop) (h0 : P 0 σ H) (hx : ∀ i σ' H', P i σ' H' → Ex H H')
    (hs : ∀ i x σ' H', i < xs.length → xs[i]? = some x → P i σ' H' → ∀ H1, Ex H' H1 → g x σ' H1 fun σ2 H2 => tb (LpD D u (P (i + 1))) σ2 H2) (hd : ∀ σ' H', P xs.length σ' H' → Run u D σ' H') :
    Run (tSeq (tFor wi g tb) u) D σ H := fun H1 e => h H1 e _ fun J H2 e2 pu => loop_core (D := D) (u := u) pu P ⟨H, e.trans e2, h0⟩ hx hs hd
/-- the target a name -/
theorem run_for {wi : TI} {tb : TS} (h : EvI wi σ H xs) (P : Nat → L2.St → Hp → Prop) (h0 : P 0 σ H) (hx : ∀ i σ' H', P i σ' H' → Ex H H')
    (hs : ∀ i x σ' H', i < xs.length → xs[i]? = some x → P i σ' H' → Run tb (LpD D u (P (i + 1))) (σ'.set j (some x)) H') (hd : ∀ σ' H', P xs.length σ' H' → Run u D σ' H') :
    Run (tSeq (tFor wi (gName j) tb) u) D σ H := run_forG h P h0 hx (fun i x σ' H' hi hx' p H1 e => hs i x σ' H' hi hx' p H1 e) hd
/-- over a new list -/
theorem run_forN {wi : TI} {tb : TS} (h : EvIN wi σ H xs) (P : Addr → Nat → L2.St → Hp → Prop) (h0 : ∀ p, H p = none → P p 0 σ (upd H p (.lst xs))) (hx : ∀ p i σ' H', H p = none → P p i σ' H' → Ex (upd H p (.lst xs)) H')
    (hs : ∀ p i x σ' H', H p = none → i < xs.length → xs[i]? = some x → P p i σ' H' → Run tb (LpD D u (P p (i + 1))) (σ'.set j (some x)) H') (hd : ∀ p σ' H', H p = none → P p xs.length σ' H' → Run u D σ' H') :
    Run (tSeq (tFor wi (gName j) tb) u) D σ H := fun H1 e => h H1 e _ fun J p H2 hp e2 h2 pu => loop_core (D := D) (u := u) pu (P p) ⟨_, ex_new (e.trans e2) h2, h0 p hp⟩ (hx p · · · hp) (fun i x σ' H' hi hx' q H1 e => hs p i x σ' H' hp hi hx' q H1 e) (fun σ' H' q => hd p σ' H' hp q)
/-- range(n) -/
theorem run_rng1 {ta : TA} {tb : TS} {n : Int} (h : EvA ta σ H [.int n]) (h1 : -(2 ^ 62) ≤ n) (h2 : n < 2 ^ 62) (P : Nat → L2.St → Hp → Prop) (h0 : P 0 σ H)
    (hs : ∀ (i : Nat) σ' H', i < n.toNat → P i σ' H' → Run tb (LpD D u (P (i + 1))) (σ'.set j (some (.int (i : Int)))) H') (hd : ∀ σ' H', P n.toNat σ' H' → Run u D σ' H') :
    Run (tSeq (tFor (iRng1 ta) (gName j) tb) u) D σ H := fun H1 e => h H1 e _ fun H2 e2 => ⟨n, rfl, h1, h2, by
  have lc := loop_core (D := D) (u := u) (g := gName j) (tb := tb) (J := Itr 0 n.toNat) (xs := rgs 0 n.toNat) (H0 := fun _ => none) (H2 := H2) (σ := σ) pur_rng P ⟨H, e.trans e2, h0⟩ (fun _ _ _ _ _ _ q => by cases q)
    (fun i x σ' H' hi hx' p H1 e => by
      obtain ⟨hi', ex⟩ := rgs_of hx'
      rw [Int.zero_add] at ex
      subst ex
      exact hs i σ' H' hi' p H1 e) (fun σ' H' p => hd σ' H' (by rw [rgs_len] at p; exact p))
  exact lc⟩
/-- range(lo, n) -/
theorem run_rng2 {ta : TA} {tb : TS} {lo n : Int} (h : EvA ta σ H [.int lo, .int n]) (h1 : -(2 ^ 62) ≤ lo) (h2 : lo < 2 ^ 62) (h3 : -(2 ^ 62) ≤ n) (h4 : n < 2 ^ 62) (P : Nat → L2.St → Hp → Prop) (h0 : P 0 σ H)
    (hs : ∀ (i : Nat) σ' H', i < (n - lo).toNat → P i σ' H' → Run tb (LpD D u (P (i + 1))) (σ'.set j (some (.int (lo + (i : Int))))) H') (hd : ∀ σ' H', P (n - lo).toNat σ' H' → Run u D σ' H') :
    Run (tSeq (tFor (iRng2 ta) (gName j) tb) u) D σ H := fun H1 e => h H1 e _ fun H2 e2 => ⟨lo, n, rfl, ⟨h1, h2, h3, h4⟩, by
  have lc := loop_core (D := D) (u := u) (g := gName j) (tb := tb) (J := Itr lo (n - lo).toNat) (xs := rgs lo (n - lo).toNat) (H0 := fun _ => none) (H2 := H2) (σ := σ) pur_rng P ⟨H, e.trans e2, h0⟩ (fun _ _ _ _ _ _ q => by cases q)
    (fun i x σ' H' hi hx' p H1 e => by
      obtain ⟨hi', ex⟩ := rgs_of hx'
      subst ex
      exact hs i σ' H' hi' p H1 e) (fun σ' H' p => hd σ' H' (by rw [rgs_len] at p; exact p))
  exact lc⟩
/-- while, by a word that falls -/
theorem run_while {tb : TS} (W : Nat → L2.St → Hp → Prop) (m0 : Nat) (h0 : W m0 σ H)
    (hs : ∀ m σ' H', W m σ' H' → ∃ b, EvT t σ' H' b ∧ (b = true → Run tb (LpD D u (fun σ2 H2 => ∃ m', m' < m ∧ W m' σ2 H2)) σ' H') ∧ (b = false → Run u D σ' H')) : Run (tSeq (tWhile t tb) u) D σ H := fun H1 e =>
  ⟨fun m => Up (W m), ⟨m0, H, e, h0⟩, fun m σ' H' hw => by
    obtain ⟨H2, e2, w⟩ := hw
    obtain ⟨b, hb, h1, h2⟩ := hs m σ' H2 w
    refine hb H' e2 _ fun H3 e3 => ?_
    cases b with
    | true =>
      rw [if_pos rfl]
      exact ⟨Up (fun σ2 H2 => ∃ m', m' < m ∧ W m' σ2 H2), fun σ4 H4 ⟨H5, e5, m', hm, w'⟩ => ⟨m', hm, H5, e5, w'⟩, h1 rfl H3 (e2.trans e3)⟩
    | false =>
      rw [if_neg Bool.false_ne_true]
      exact h2 rfl H3 (e2.trans e3)⟩

/-! ### comprehensions whose parts change nothing -/
/-- turn by turn: kept or not, and what -/
theorem el_lc {α : Type} {wi : TI} {tt : TT} {vs : List Nat} {l : List α} {g : α → V} (f : α → Bool) (val : α → V) (h : EvJ wi σ H (l.map g)) (hz : l.length ≤ sizeLine) (hw : ∀ x, wipe ((wipe σ vs).set j (some x)) vs = wipe σ vs)
    (ht : ∀ c, c ∈ l → EvT tt ((wipe σ vs).set j (some (g c))) H (f c)) (he : ∀ c, c ∈ l → f c = true → Ev te ((wipe σ vs).set j (some (g c))) H (val c)) :
    EvL (tLc wi (gName j) tt te vs) σ H ((l.filter f).map val) := fun H0 e Q q => h H0 e _ fun J H1 e1 pu Dl hD => by
  have hlen : (l.map g).length = l.length := List.length_map _
  refine ⟨fun i m H' => m = l.length - i ∧ i ≤ l.length ∧ Ex H1 H' ∧ H' Dl = some (.lst (((l.take i).filter f).map val)), ⟨l.length, by simp, Nat.zero_le _, Ex.new hD, by simp [upd_same]⟩, ?_⟩
  rintro i m H' ⟨rfl, hi, e2, hl⟩
  by_cases hlt : i < l.length
  · refine .inr ⟨pu.go i H' e2 (by omega), fun H5 => i + 1 ≤ l.length ∧ Ex H1 H5 ∧ H5 Dl = some (.lst (((l.take (i + 1)).filter f).map val)), fun H5 p' => ⟨l.length - (i + 1), by omega, rfl, p'⟩, fun x H'' y => ?_⟩
    obtain ⟨e5, hx'⟩ := pu.yld i H' x H'' e2 (by omega) y
    subst e5
    obtain ⟨c, hc, rfl⟩ : ∃ c, l[i]? = some c ∧ x = g c := by
      rw [List.getElem?_map, List.getElem?_eq_getElem hlt] at hx'
      exact ⟨l[i], List.getElem?_eq_getElem hlt, (Option.some.inj hx').symm⟩
    have hm : c ∈ l := List.mem_of_getElem? hc
    refine ⟨hw _, ?_⟩
    have tk : l.take (i + 1) = l.take i ++ [c] := by rw [List.take_add_one, hc]; rfl
    refine ht c hm H'' ((e.trans e1).trans e2) _ fun H3 e3 => ?_
    cases hf : f c with
    | true =>
      rw [if_pos rfl]
      refine he c hm hf H3 (((e.trans e1).trans e2).trans e3) _ fun H4 e4 => ⟨_, e4 _ _ (e3 _ _ hl), ?_, hlt, ?_, ?_⟩
      · have l1 := List.length_filter_le f (l.take i)
        rw [List.length_map]
        rw [List.length_take] at l1
        omega
      · intro a' o' q'
        rw [upd_ne (ne_of_none q' hD)]
        exact ((e2.trans e3).trans e4) a' o' q'
      · rw [upd_same, tk, List.filter_append, List.map_append]
        simp [hf]
    | false =>
      rw [if_neg Bool.false_ne_true]
      refine ⟨hlt, e2.trans e3, ?_⟩
      rw [e3 _ _ hl, tk, List.filter_append, List.map_append]
      simp [hf]
  · have e5 : i = l.length := by omega
    subst e5
    refine .inl ⟨hlen ▸ pu.stop H' e2, q Dl H' ?_ (e1.trans e2) ?_⟩
    · exact fresh_back e1 hD
    · rw [List.take_length] at hl; exact hl
/-- .. without a test -/
theorem el_lcA {α : Type} {wi : TI} {vs : List Nat} {l : List α} {g : α → V} (val : α → V) (h : EvJ wi σ H (l.map g)) (hz : l.length ≤ sizeLine) (hw : ∀ x, wipe ((wipe σ vs).set j (some x)) vs = wipe σ vs)
    (he : ∀ c, c ∈ l → Ev te ((wipe σ vs).set j (some (g c))) H (val c)) : EvL (tLc wi (gName j) tYes te vs) σ H (l.map val) := by
  have := el_lc (tt := tYes) (fun _ => true) val h hz hw (fun x _ => fun H1 e Q q => q H1 (Ex.refl H1)) (fun x hx _ => he x hx)
  rw [List.filter_eq_self.mpr (fun _ _ => rfl)] at this
  exact this
end
end Kn

/-! Texts of steps as lists of codes; the module's table of steps. -/
namespace Kn
open PySem PySem.Spec L2 Evl Mw

def S (l : List Nat) : Str := ⟨l.toArray⟩
theorem S_len (l : List Nat) : (S l).length = l.length := by simp [S, Str.length]
theorem S_cps (l : List Nat) : (S l).cps.toList = l := by simp [S]
theorem S_inj {l m : List Nat} (h : S l = S m) : l = m := by
  have := congrArg (fun z : Str => z.cps.toList) h
  simpa [S] using this
theorem S_app (l m : List Nat) : S l ++ S m = S (l ++ m) := by
  show (⟨(S l).cps ++ (S m).cps⟩ : Str) = _
  simp [S]
theorem S_of (z : Str) : z = S z.cps.toList := by cases z; simp [S]
theorem S_signs (l : List Nat) : signs (S l) = l.map fun c => V.str (S [c]) := by unfold signs; rw [S_cps]; rfl
theorem S_eq_iff {l m : List Nat} : S l = S m ↔ l = m := ⟨S_inj, fun h => by rw [h]⟩
theorem cut_take (l : List Nat) {k : Int} (hk : 0 ≤ k) : cutS (S l) none (some k) = S (l.take k.toNat) := by
  unfold cutS
  rw [S_cps, S_len]
  simp only [HT.sIx, List.drop_zero, Nat.sub_zero]
  rw [if_neg (by omega)]
  unfold S
  congr 1
  congr 1
  rcases Nat.le_total k.toNat l.length with h | h
  · rw [Nat.min_eq_left h]
  · rw [Nat.min_eq_right h, List.take_of_length_le (Nat.le_refl _), List.take_of_length_le h]
theorem cut_drop (l : List Nat) {k : Int} (hk : 0 ≤ k) : cutS (S l) (some k) none = S (l.drop k.toNat) := by
  unfold cutS
  rw [S_cps, S_len]
  simp only [HT.sIx]
  rw [if_neg (by omega)]
  unfold S
  congr 2
  rcases Nat.le_total k.toNat l.length with h | h
  · rw [Nat.min_eq_left h, List.take_of_length_le (by rw [List.length_drop]; omega)]
  · rw [Nat.min_eq_right h, Nat.sub_self, List.take_zero, List.drop_of_length_le h]
theorem cut_last (l : List Nat) (hl : 0 < l.length) : cutS (S l) none (some (-1)) = S l.dropLast := by
  unfold cutS
  rw [S_cps, S_len]
  simp only [HT.sIx, List.drop_zero, Nat.sub_zero]
  rw [if_pos (by omega), List.dropLast_eq_take]
  unfold S
  congr 3
  omega
theorem at_last {α : Type} (l : List α) {c : α} (h : l.getLast? = some c) : atI l (-1) = some c := by
  unfold atI ixN
  have h0 : l ≠ [] := by intro e; rw [e] at h; cases h
  have hl : 0 < l.length := List.length_pos_iff.mpr h0
  rw [if_neg (by omega), if_pos (by omega)]
  show l[(-1 + (l.length : Int)).toNat]? = some c
  rw [List.getLast?_eq_getElem?] at h
  rw [← h]
  congr 1
  omega
theorem at_nat {α : Type} (l : List α) {i : Nat} {c : α} (h : l[i]? = some c) : atI l (i : Int) = some c := by
  have hi := (List.getElem?_eq_some_iff.mp h).1
  unfold atI ixN
  rw [if_pos (by omega), if_pos (by omega)]
  show l[((i : Int)).toNat]? = some c
  rw [Int.toNat_natCast]; exact h
theorem at_int {α : Type} (l : List α) {i : Int} {c : α} (h0 : 0 ≤ i) (h : l[i.toNat]? = some c) : atI l i = some c := by
  have := at_nat l h
  rw [Int.toNat_of_nonneg h0] at this
  exact this
theorem fold_rep (a : Array Nat) : ∀ (k : Nat) (acc : Array Nat), (List.replicate k a).foldl (· ++ ·) acc = acc ++ (rep a.toList k).toArray
  | 0, acc => by simp [rep]
  | k + 1, acc => by
    rw [List.replicate_succ, List.foldl_cons, fold_rep a k, rep]
    apply Array.toList_inj.mp
    simp
theorem mulS_rep (l : List Nat) {n : Int} (hn : 0 ≤ n) : Txt.mul (S l) n = S (rep l n.toNat) := by
  unfold Txt.mul
  by_cases h0 : n < 1
  · rw [if_pos h0, show n.toNat = 0 from by omega]; rfl
  · rw [if_neg h0]
    by_cases h1 : (n == 1 || (S l).length == 0) = true
    · rw [if_pos h1]
      rw [Bool.or_eq_true] at h1
      rcases h1 with h1 | h1
      · have : n = 1 := by simpa using h1
        subst this
        show S l = S (rep l 1)
        simp [rep]
      · have : l.length = 0 := by rw [S_len] at h1; simpa using h1
        have : l = [] := List.length_eq_zero_iff.mp this
        subst this
        congr 1
        generalize n.toNat = k
        induction k with
        | zero => rfl
        | succ k ih => rw [rep, ← ih]; rfl
    · rw [if_neg h1, fold_rep]
      simp [S]
theorem mulOk_small (l : List Nat) {n : Int} (hl : l.length ≤ 1000) (h0 : 0 ≤ n) (h1 : n ≤ 1000) : MulOk (S l) n := by
  unfold MulOk
  refine ⟨?_, fun h2 _ => ?_, fun _ _ => ?_⟩
  · rw [decide_eq_false (by omega), decide_eq_false (by omega)]; rfl
  · rw [S_len]
    have : (1000 : Int) ≤ (2 ^ 63 - 1) / n := by
      rw [Int.le_ediv_iff_mul_le (by omega)]
      omega
    omega
  · rw [S_len]
    have : l.length * n.toNat ≤ 1000 * 1000 := Nat.mul_le_mul hl (by omega)
    have h2 : (1000 * 1000 : Nat) ≤ sizeLine := by decide
    have h3 := Nat.le_trans this h2; show decide _ = false; exact decide_eq_false (Nat.not_lt.mpr h3)

/-! ### steps -/
def isStep (c : Nat) : Bool := c == 102 || c == 98 || c == 115
def Stp (l : List Nat) : Prop := l.all isStep = true
theorem Stp.take {l : List Nat} (h : Stp l) (k : Nat) : Stp (l.take k) := by
  unfold Stp at *
  rw [List.all_eq_true] at *
  exact fun x hx => h x (List.mem_of_mem_take hx)
theorem Stp.drop {l : List Nat} (h : Stp l) (k : Nat) : Stp (l.drop k) := by
  unfold Stp at *
  rw [List.all_eq_true] at *
  exact fun x hx => h x (List.mem_of_mem_drop hx)
theorem Stp.append {l m : List Nat} (h : Stp l) (h' : Stp m) : Stp (l ++ m) := by
  unfold Stp at *
  rw [List.all_append, h, h']; rfl
theorem Stp.nil : Stp [] := rfl
theorem Stp.mem {l : List Nat} (h : Stp l) {c : Nat} (hc : c ∈ l) : c = 102 ∨ c = 98 ∨ c = 115 := by
  have := (List.all_eq_true.mp h) c hc
  unfold isStep at this
  simp only [Bool.or_eq_true, beq_iff_eq] at this
  omega
/-- the table STEPS as it stands in the written part -/
structure StepsAt (K : PySem.W.Frag) (w : World) (d : Addr) : Prop where
  ex : ∃ (t1 t2 t3 u1 u2 u3 : Tok) (n : Nat), K.lookup d = some ⟨.type "dict", none, .dict #[⟨PyData.keyHash w.params "f", .str "f" t1, .int 1 u1⟩, ⟨PyData.keyHash w.params "b", .str "b" t2, .int (-1) u2⟩, ⟨PyData.keyHash w.params "s", .str "s" t3, .int 0 u3⟩] n, #[]⟩
  low : (d == sysModules) = false
section
variable {K : PySem.W.Frag} {w : World} {d : Addr}
theorem StepsAt.kd (T : StepsAt K w d) : ∃ es n, KDict K w d es n := by
  obtain ⟨t1, t2, t3, u1, u2, u3, n, h⟩ := T.ex
  exact ⟨_, _, h, ⟨⟨_, _, rfl, rfl⟩, ⟨_, _, rfl, rfl⟩, ⟨_, _, rfl, rfl⟩, trivial⟩, T.low⟩
theorem str_ne {a b : Str} (h : a.cps.toList ≠ b.cps.toList) : ¬ a = b := fun e => h (by rw [e])
theorem strf : ("f" : Str) = S [102] := by decide +kernel
theorem strb : ("b" : Str) = S [98] := by decide +kernel
theorem strs' : ("s" : Str) = S [115] := by decide +kernel
theorem isStr_S (l m : List Nat) (t : Tok) : (Value.str (S l) t).isStr (S m) = decide (l = m) := by
  rw [PySem.W.isStr_of]
  show (S l == S m) = _
  by_cases h : l = m
  · subst h; simp
  · rw [decide_eq_false h, beq_eq_false_iff_ne]
    exact fun e => h (S_inj e)
theorem StepsAt.ns (T : StepsAt K w d) (l : List Nat) : ∃ u1 u2 u3 : Tok, PySem.W.nsIn K d (S l) = some (if l = [102] then some (.int 1 u1) else if l = [98] then some (.int (-1) u2) else if l = [115] then some (.int 0 u3) else none) := by
  obtain ⟨t1, t2, t3, u1, u2, u3, n, h⟩ := T.ex
  refine ⟨u1, u2, u3, ?_⟩
  unfold PySem.W.nsIn
  rw [h, strf, strb, strs']
  dsimp only
  rw [List.find?_cons, isStr_S]
  by_cases h1 : l = [102]
  · subst h1; rfl
  · rw [decide_eq_false (fun e : [102] = l => h1 e.symm), if_neg h1]
    dsimp only
    rw [List.find?_cons, isStr_S]
    by_cases h2 : l = [98]
    · subst h2; rfl
    · rw [decide_eq_false (fun e : [98] = l => h2 e.symm), if_neg h2]
      dsimp only
      rw [List.find?_cons, isStr_S]
      by_cases h3 : l = [115]
      · subst h3; rfl
      · rw [decide_eq_false (fun e : [115] = l => h3 e.symm), if_neg h3]
        rfl
theorem StepsAt.get (T : StepsAt K w d) {c : Nat} (hc : c = 102 ∨ c = 98 ∨ c = 115) : KDct K w d (S [c]) (.int (sv c)) := by
  obtain ⟨es, n, kd⟩ := T.kd
  obtain ⟨u1, u2, u3, e⟩ := T.ns [c]
  rcases hc with rfl | rfl | rfl
  · exact ⟨es, n, _, kd.at_, kd.lit, e, ⟨_, rfl⟩⟩
  · exact ⟨es, n, _, kd.at_, kd.lit, e, ⟨_, rfl⟩⟩
  · exact ⟨es, n, _, kd.at_, kd.lit, e, ⟨_, rfl⟩⟩
end
section
variable {X : Cx} {d : Addr}
/-- c in STEPS -/
def rInK (d : Addr) : R2 := fun x y H Q => ∃ l, x = .str (S l) ∧ y = .ref d ∧ Q (.bl (decide (l = [102] ∨ l = [98] ∨ l = [115]))) H
theorem op_inSt (T : StepsAt X.K X.w d) : OpR X (compareOp .In) (rInK d) := by
  intro pins s σ H x y v u Q I rx ry h
  obtain ⟨l, rfl, rfl, q⟩ := h
  obtain ⟨es, n, kd⟩ := T.kd
  obtain ⟨u1, u2, u3, e⟩ := T.ns l
  refine op_in_kd kd pins s σ H _ _ v u Q I rx ry ⟨S l, _, rfl, rfl, e, ?_⟩
  have : (if l = [102] then some (Value.int 1 u1) else if l = [98] then some (.int (-1) u2) else if l = [115] then some (.int 0 u3) else none).isSome = decide (l = [102] ∨ l = [98] ∨ l = [115]) := by
    by_cases h1 : l = [102]
    · simp [h1]
    · by_cases h2 : l = [98]
      · simp [h2]
      · by_cases h3 : l = [115]
        · simp [h3]
        · simp [h1, h2, h3]
  rw [this]
  exact q
theorem rv_inK {l : List Nat} {H : Hp} : RV (rInK d) (.str (S l)) (.ref d) H (.bl (decide (l = [102] ∨ l = [98] ∨ l = [115]))) := fun H1 _ _ q => ⟨l, rfl, rfl, q H1 (Ex.refl H1)⟩
theorem ix_kdE {K : PySem.W.Frag} {w : World} (hK : X.K = K) (hw : X.w = w) : IxR X (rIxD K w) := by
  subst hK hw; exact ix_kdict
theorem ix_listE {K : PySem.W.Frag} (hK : X.K = K) : IxR X (rIxL K) := by
  subst hK; exact ix_list
/-- a module's constant -/
theorem pe_gc {x : Str} {v : V} {pos : Pos} (hg : Gl X x) (h : ∃ u, X.mg x = some u ∧ RelV v u) (hd : (x == ("__debug__" : Str)) = false := by decide) : PE X (.Name x pos) (tC v) := by
  obtain ⟨u, hm, r⟩ := h
  exact pe_glob hg hm r hd
end
/-! ### the built-in names -/
theorem b_isinstance : bootBuiltins "isinstance" = some (.builtin "isinstance") := by decide +kernel
theorem b_len : bootBuiltins "len" = some (.builtin "len") := by decide +kernel
theorem b_abs : bootBuiltins "abs" = some (.builtin "abs") := by decide +kernel
theorem b_max : bootBuiltins "max" = some (.builtin "max") := by decide +kernel
theorem b_min : bootBuiltins "min" = some (.builtin "min") := by decide +kernel
theorem b_sum : bootBuiltins "sum" = some (.builtin "sum") := by decide +kernel
theorem b_all : bootBuiltins "all" = some (.builtin "all") := by decide +kernel
theorem b_sorted : bootBuiltins "sorted" = some (.builtin "sorted") := by decide +kernel
theorem b_int : bootBuiltins "int" = some (.type "int") := by decide +kernel
theorem b_bool : bootBuiltins "bool" = some (.type "bool") := by decide +kernel
theorem b_str : bootBuiltins "str" = some (.type "str") := by decide +kernel
theorem b_list : bootBuiltins "list" = some (.type "list") := by decide +kernel
theorem b_dict : bootBuiltins "dict" = some (.type "dict") := by decide +kernel
theorem b_tuple : bootBuiltins "tuple" = some (.type "tuple") := by decide +kernel
theorem b_set : bootBuiltins "set" = some (.type "set") := by decide +kernel
end Kn
namespace Kn
open PySem PySem.Spec L2 Evl Mw
theorem strOk_S {l : List Nat} (h : Stp l) : PyData.strOk (S l) = true := by
  show (S l).cps.all _ = true
  rw [← Array.all_toList, S_cps, List.all_eq_true]
  intro c hc
  rcases h.mem hc with rfl | rfl | rfl <;> decide
theorem shaped2 {a b : Str} (h1 : PyData.strOk a = true) (h2 : PyData.strOk b = true) : SeqAt.shaped (.tuple [.str a, .str b]) = true := by
  unfold SeqAt.shaped PyData.canLay0 PyData.canLayAll0 PyData.canLayAll0 PyData.canLayAll0 PyData.canLay0
  rw [h1, h2]
  simp [PyData.depth, PyData.depthAll]
end Kn

/-! The law's draws: a list at d whose first item is the script's copy at l; its state is told by nothing but signs. -/
namespace Kn
open PySem PySem.Spec L2 Evl Mw

def Dro (l : Addr) (o : HO) : Prop := ∃ i c s : Int, 0 ≤ i ∧ 0 ≤ c ∧ o = .lst [.ref l, .int i, .int c, .int s]
/-- G: what is known beside the draws -/
structure Dw (G : Hp) (d l : Addr) : Prop where
  free : G d = none
  lst : ∃ ns : List Int, G l = some (.lst (ns.map V.int)) ∧ ns.length ≤ 1000
theorem Dw.ext {G G' : Hp} {d l : Addr} (w : Dw G d l) (e : Ex G G') (h : G' d = none) : Dw G' d l := ⟨h, let ⟨ns, h1, h2⟩ := w.lst; ⟨ns, e _ _ h1, h2⟩⟩
theorem upd_swap {G : Hp} {p d : Addr} {o x : HO} (h : p ≠ d) : upd (upd G d o) p x = upd (upd G p x) d o := by
  funext a
  by_cases c : a = p
  · subst c; rw [upd_same, upd_ne h, upd_same]
  · rw [upd_ne c]
    by_cases c2 : a = d
    · subst c2; rw [upd_same, upd_same]
    · rw [upd_ne c2, upd_ne c2, upd_ne c]
/-- what is behind: R of the value and of what is known beside the draws -/
abbrev DR (G : Hp) (d l : Addr) (R : V → Hp → Prop) : V → Hp → Prop := fun v H' => ∃ G' o', R v G' ∧ Ex G G' ∧ Dw G' d l ∧ Dro l o' ∧ H' = upd G' d o'
abbrev DRA (G : Hp) (d l : Addr) (R : List V → Hp → Prop) : List V → Hp → Prop := fun v H' => ∃ G' o', R v G' ∧ Ex G G' ∧ Dw G' d l ∧ Dro l o' ∧ H' = upd G' d o'
def ED (te : TE) (σ : L2.St) (G : Hp) (d l : Addr) (R : V → Hp → Prop) : Prop := ∀ o, Dro l o → Eg te σ (upd G d o) (DR G d l R)
def EDA (ta : TA) (σ : L2.St) (G : Hp) (d l : Addr) (R : List V → Hp → Prop) : Prop := ∀ o, Dro l o → EgA ta σ (upd G d o) (DRA G d l R)
def SpD (sp : Sp) (vs : List V) (G : Hp) (d l : Addr) (R : V → Hp → Prop) : Prop := ∀ o, Dro l o → SpG sp vs (upd G d o) (DR G d l R)
def RD (t : TS) (D : Ends) (σ : L2.St) (G : Hp) (d l : Addr) : Prop := ∀ o, Dro l o → Run t D σ (upd G d o)
section
variable {K : PySem.W.Frag} {σ : L2.St} {G G' H : Hp} {ta tb te tx : TE} {t : TT} {x y z v w : V} {r : R2} {p a d l : Addr} {xs ys vs : List V} {D : Ends} {u tu tw : TS} {i j k : Nat} {R S : V → Hp → Prop}
theorem ed_ev (w : Dw G d l) (h : Ev te σ G v) : ED te σ G d l (fun v' G' => v' = v ∧ G' = G) := fun o ho => (eg_ev (h.mono (ex_upd w.free))).imp fun v' H' ⟨e1, e2⟩ => ⟨G, o, ⟨e1, rfl⟩, Ex.refl G, w, ho, e2⟩
theorem ed_at (w : Dw G d l) (h : ∀ o, Dro l o → Ev te σ (upd G d o) v) : ED te σ G d l (fun v' G' => v' = v ∧ G' = G) := fun o ho => (eg_ev (h o ho)).imp fun v' H' ⟨e1, e2⟩ => ⟨G, o, ⟨e1, rfl⟩, Ex.refl G, w, ho, e2⟩
theorem dw_new {o : HO} (w : Dw G d l) (hp : G p = none) (hpd : p ≠ d) : Dw (upd G p o) d l := w.ext (ex_upd hp) (by rw [upd_ne (Ne.symm hpd)]; exact w.free)
theorem ed_l (w : Dw G d l) (h : EvL te σ G xs) : ED te σ G d l (fun v' G' => ∃ p, v' = .ref p ∧ G p = none ∧ p ≠ d ∧ G' = upd G p (.lst xs)) := fun o ho => by
  have h1 : EvL te σ (upd G d o) xs := fun H1 e Q q => h H1 (ex_skip w.free e) Q q
  refine (eg_l h1).imp ?_
  rintro v' H' ⟨p, rfl, hp, rfl⟩
  have hpd : p ≠ d := fun e => by subst e; rw [upd_same] at hp; cases hp
  rw [upd_ne hpd] at hp
  exact ⟨upd G p (.lst xs), o, ⟨p, rfl, hp, hpd, rfl⟩, ex_upd hp, dw_new w hp hpd, ho, upd_swap hpd⟩
theorem ED.imp (h : ED te σ G d l R) (k : ∀ v G', R v G' → S v G') : ED te σ G d l S := fun o ho => (h o ho).imp fun v H' ⟨G', o', h1, h2⟩ => ⟨G', o', k _ _ h1, h2⟩
/-- an operation whose parts draw -/
theorem ed_op {Ra : V → Hp → Prop} {Rb : V → V → Hp → Prop} (ha : ED ta σ G d l Ra) (hb : ∀ x G1, Ra x G1 → Ex G G1 → Dw G1 d l → ED tb σ G1 d l (Rb x)) (hr : ∀ x G1 y G2, Ra x G1 → Rb x y G2 → Ex G1 G2 → Dw G2 d l → ∃ z, RV r x y G2 z ∧ R z G2) : ED (tOp r ta tb) σ G d l R := fun o ho H1 e Q q =>
  ha o ho H1 e _ fun x H2 H3 ⟨G1, o1, r1, e1, w1, ho1, eq1⟩ e3 => by
    subst eq1
    refine hb x G1 r1 e1 w1 o1 ho1 H3 e3 _ fun y H4 H5 ⟨G2, o2, r2, e2, w2, ho2, eq2⟩ e5 => ?_
    subst eq2
    obtain ⟨z, hz, rz⟩ := hr x G1 y G2 r1 r2 e2 w2
    exact hz H5 (ex_skip w2.free e5) Q fun H6 e6 => q z _ H6 ⟨G2, o2, rz, e1.trans e2, w2, ho2, rfl⟩ (e5.trans e6)
/-- .. the left part plain, .. the right part plain -/
theorem ed_opR (w : Dw G d l) (ha : Ev ta σ G x) (hb : ED tb σ G d l S) (hr : ∀ y G2, S y G2 → Ex G G2 → Dw G2 d l → ∃ z, RV r x y G2 z ∧ R z G2) : ED (tOp r ta tb) σ G d l R :=
  ed_op (ed_ev w ha) (Rb := fun x' y G2 => x' = x ∧ S y G2) (fun x' G1 ⟨e1, e2⟩ _ _ => by subst e1 e2; exact hb.imp fun y G' h => ⟨rfl, h⟩) fun x' G1 y G2 ⟨e1, e2⟩ ⟨_, hs⟩ ex w2 => by subst e1 e2; exact hr y G2 hs ex w2
theorem ed_opL (ha : ED ta σ G d l S) (hb : ∀ x G1, S x G1 → Ex G G1 → Dw G1 d l → Ev tb σ G1 y) (hr : ∀ x G1, S x G1 → Ex G G1 → Dw G1 d l → ∃ z, RV r x y G1 z ∧ R z G1) : ED (tOp r ta tb) σ G d l R :=
  ed_op ha (Rb := fun x' y' G2 => y' = y ∧ S x' G2 ∧ Ex G G2) (fun x' G1 h1 e1 w1 => (ed_ev w1 (hb x' G1 h1 e1 w1)).imp fun y' G' ⟨e2, e3⟩ => ⟨e2, e3 ▸ h1, e3 ▸ e1⟩) fun x' G1 y' G2 _ ⟨e1, h2, e2⟩ _ w2 => by subst e1; exact hr x' G2 h2 e2 w2
theorem ed_call {sp : Sp} {E : XK} {ta : TA} (h : ∀ o, Dro l o → EvA ta σ (upd G d o) vs) (hs : SpD sp vs G d l R) : ED (tCall sp [] E ta) σ G d l R := fun o ho => eg_call (h o ho) (hs o ho)
theorem ed_callP {sp : Sp} {E : XK} {ta : TA} (w : Dw G d l) (h : EvA ta σ G vs) (hs : SpD sp vs G d l R) : ED (tCall sp [] E ta) σ G d l R := ed_call (fun o _ => h.mono (ex_upd w.free)) hs
/-- arguments, items -/
theorem eda_nil (w : Dw G d l) : EDA tNil σ G d l (fun vs G' => vs = [] ∧ G' = G) := fun o ho H1 e Q q => q [] _ H1 ⟨G, o, ⟨rfl, rfl⟩, Ex.refl G, w, ho, rfl⟩ e
theorem eda_cons {tr : TA} {T : V → List V → Hp → Prop} {U : List V → Hp → Prop} (h : ED te σ G d l R) (hr : ∀ v G1, R v G1 → Ex G G1 → Dw G1 d l → EDA tr σ G1 d l (T v)) (hu : ∀ v G1 ws G2, R v G1 → T v ws G2 → Ex G1 G2 → U (v :: ws) G2) : EDA (tCons te tr) σ G d l U := fun o ho H1 e Q q =>
  h o ho H1 e _ fun v H2 H3 ⟨G1, o1, r1, e1, w1, ho1, eq1⟩ e3 => by
    subst eq1
    refine hr v G1 r1 e1 w1 o1 ho1 H3 e3 _ fun ws H4 H5 ⟨G2, o2, r2, e2, w2, ho2, eq2⟩ e5 => ?_
    subst eq2
    exact q (v :: ws) _ H5 ⟨G2, o2, hu v G1 ws G2 r1 r2 e2, e1.trans e2, w2, ho2, rfl⟩ e5
/-- a list display whose items draw -/
theorem ed_lst {ta : TA} {U : List V → Hp → Prop} (h : EDA ta σ G d l U) (hz : ∀ vs G', U vs G' → vs.length ≤ 1000) : ED (tLst ta) σ G d l (fun v G' => ∃ p vs G1, v = .ref p ∧ U vs G1 ∧ Ex G G1 ∧ G1 p = none ∧ p ≠ d ∧ G' = upd G1 p (.lst vs)) := fun o ho H1 e Q q =>
  h o ho H1 e _ fun vs H2 H3 ⟨G1, o1, r1, e1, w1, ho1, eq1⟩ e3 => by
    subst eq1
    refine ⟨Nat.le_trans (hz vs G1 r1) (by decide), fun p hp => ?_⟩
    have hp2 := fresh_back e3 hp
    have hpd : p ≠ d := fun e => by subst e; rw [upd_same] at hp2; cases hp2
    have hp3 := hp2
    rw [upd_ne hpd] at hp3
    refine q _ (upd (upd G1 p (.lst vs)) d o1) _ ⟨_, o1, ⟨p, vs, G1, rfl, r1, e1, hp3, hpd, rfl⟩, e1.trans (ex_upd hp3), dw_new w1 hp3 hpd, ho1, rfl⟩ ?_
    rw [← upd_swap hpd]
    exact exc e3
/-- blocks -/
theorem RD.of (w : Dw G d l) (h : Run u D σ G) : RD u D σ G d l := fun o _ => h.mono (ex_upd w.free)
theorem rd_asg (h : ED te σ G d l R) (k : ∀ v G', R v G' → Ex G G' → Dw G' d l → RD u D (σ.set i (some v)) G' d l) : RD (tSeq (tAsg te (gName i)) u) D σ G d l := fun o ho => run_asgG (h o ho) fun v H' ⟨G', o', r1, e1, w1, ho1, eq1⟩ => by subst eq1; exact k v G' r1 e1 w1 o' ho1
theorem rd_asgP (w : Dw G d l) (h : Ev te σ G v) (k : RD u D (σ.set i (some v)) G d l) : RD (tSeq (tAsg te (gName i)) u) D σ G d l := fun o ho => run_asg (h.mono (ex_upd w.free)) (k o ho)
theorem rd_ret (h : ED te σ G d l R) (k : ∀ v G', R v G' → Ex G G' → Dw G' d l → ∀ o, Dro l o → ∀ H2, Ex (upd G' d o) H2 → D.rt v H2) : RD (tSeq (tRet te) u) D σ G d l := fun o ho => run_retG (h o ho) fun v H' ⟨G', o', r1, e1, w1, ho1, eq1⟩ => by subst eq1; exact k v G' r1 e1 w1 o' ho1
theorem rd_par {ta : TA} {U : List V → Hp → Prop} (h : EDA ta σ G d l U) (k : ∀ vs G', U vs G' → Ex G G' → Dw G' d l → ∃ v w, vs = [v, w] ∧ RD u D ((σ.set i (some v)).set j (some w)) G' d l) : RD (tSeq (tPar i j ta) u) D σ G d l := fun o ho => run_parG (h o ho) fun vs H' ⟨G', o', r1, e1, w1, ho1, eq1⟩ => by
  subst eq1
  obtain ⟨v, w, e2, q⟩ := k vs G' r1 e1 w1
  exact ⟨v, w, e2, q o' ho1⟩
theorem rd_if {b : Bool} (w : Dw G d l) (h : EvT t σ G b) (h1 : b = true → RD tu { D with nx := u D } σ G d l) (h2 : b = false → RD tw { D with nx := u D } σ G d l) : RD (tSeq (tIfS t tu tw) u) D σ G d l := fun o ho => run_if (h.mono (ex_upd w.free)) (fun hb => h1 hb o ho) (fun hb => h2 hb o ho)
/-- a test that draws -/
theorem rd_ifE (h : ED te σ G d l R) (hb : ∀ v G', R v G' → ∃ b, v = .bl b) (h1 : ∀ G', R (.bl true) G' → Ex G G' → Dw G' d l → RD tu { D with nx := u D } σ G' d l) (h2 : ∀ G', R (.bl false) G' → Ex G G' → Dw G' d l → RD tw { D with nx := u D } σ G' d l) : RD (tSeq (tIfS (tTest te) tu tw) u) D σ G d l := fun o ho H1 e =>
  h o ho H1 e _ fun v H2 H3 ⟨G1, o1, r1, e1, w1, ho1, eq1⟩ e3 => by
    subst eq1
    obtain ⟨b, rfl⟩ := hb v G1 r1
    refine ⟨b, rfl, ?_⟩
    cases b with
    | true =>
      show tu _ σ H3
      exact h1 G1 r1 e1 w1 o1 ho1 H3 e3
    | false =>
      show tw _ σ H3
      exact h2 G1 r1 e1 w1 o1 ho1 H3 e3
theorem rd_end (k : RD u D σ G d l) : RD tNext { D with nx := u D } σ G d l := fun o ho => run_end (k o ho)
end
end Kn

/-! More rules: a block cut at a word, comprehensions that draw, texts joined. -/
namespace Kn
open PySem PySem.Spec L2 Evl Mw
section
variable {K : PySem.W.Frag} {σ : L2.St} {G G' H : Hp} {ta tb te tx : TE} {t u : TS} {tt : TT} {x y z v w : V} {p a d l : Addr} {xs ys vs : List V} {D : Ends} {i j k : Nat} {R S' : V → Hp → Prop}
theorem run_cut (Mid : L2.St → Hp → Prop) (h : Run t { D with nx := Up Mid } σ H) (q : ∀ σ' H', Mid σ' H' → Run u D σ' H') : Run (Evl.tCut t u) D σ H := fun H1 e => ⟨Up Mid, h H1 e, fun σ' H' ⟨H2, e2, m⟩ => q σ' H2 m H' e2⟩
/-- an if alone -/
theorem run_ifO {t : TT} {tw : TS} {b : Bool} (h : EvT t σ H b) (h1 : b = true → Run u D σ H) (h2 : b = false → Run tw D σ H) : Run (tIfS t u tw) D σ H := fun H1 e => h H1 e _ fun H2 e2 => by
  cases b with
  | true =>
    show u D σ H2
    exact h1 rfl H2 (e.trans e2)
  | false =>
    show tw D σ H2
    exact h2 rfl H2 (e.trans e2)
/-- a comprehension over range(n) whose element draws -/
theorem ed_lc {ta : TA} {vs : List Nat} {n : Int} {C : V → Prop} (w : Dw G d l) (h : EvA ta σ G [.int n]) (h1 : -(2 ^ 62) ≤ n) (h2 : n < 2 ^ 62) (hz : n.toNat ≤ 1000) (hw : ∀ x, wipe ((wipe σ vs).set j (some x)) vs = wipe σ vs)
    (he : ∀ (i : Nat) G1, i < n.toNat → Ex G G1 → Dw G1 d l → ED te ((wipe σ vs).set j (some (.int (i : Int)))) G1 d l (fun v G2 => C v ∧ G2 = G1)) :
    ED (tLc (iRng1 ta) (gName j) tYes te vs) σ G d l (fun v G' => ∃ p xs, v = .ref p ∧ xs.length = n.toNat ∧ (∀ x ∈ xs, C x) ∧ G p = none ∧ p ≠ d ∧ G' = upd G p (.lst xs)) := fun o ho H0 e Q q =>
  h H0 (ex_skip w.free e) _ fun H1 e1 => ⟨n, rfl, h1, h2, fun Dl hD => by
    have hD0 := fresh_back e1 hD
    have hD1 := fresh_back e hD0
    have hpd : Dl ≠ d := fun z => by subst z; rw [upd_same] at hD1; cases hD1
    have hD2 : G Dl = none := by rw [upd_ne hpd] at hD1; exact hD1
    refine lc_range (lo := 0) (n := n.toNat) (fun i H' => ∃ xs o', xs.length = i ∧ (∀ x ∈ xs, C x) ∧ Dro l o' ∧ Ex (upd (upd G Dl (.lst xs)) d o') H') ⟨[], o, rfl, by simp, ho, ?_⟩ ?_ ?_
    · rw [← upd_swap hpd]; exact exc (e.trans e1)
    · rintro i H' hi ⟨xs, o', hl, hc, ho', e'⟩
      refine ⟨hw _, ?_⟩
      show te ((wipe σ vs).set j (some (.int (0 + (i : Int))))) H' _
      have dw := dw_new (o := .lst xs) w hD2 hpd
      have hh := he i _ hi (ex_upd hD2) dw o' ho' H' e'
      have e0 : (0 : Int) + (i : Int) = (i : Int) := Int.zero_add _
      rw [e0]
      refine hh _ fun v H2 H3 ⟨G2, o2, ⟨cv, eG⟩, _, w2, ho2, eq2⟩ e3 => ?_
      subst eG eq2
      refine ⟨xs, ?_, ?_, xs ++ [v], o2, by simp [hl], ?_, ho2, ?_⟩
      · exact e3 _ _ (by rw [upd_ne hpd, upd_same])
      · rw [hl]; exact Nat.lt_of_lt_of_le hi (Nat.le_trans hz (by decide))
      · intro x hx
        rcases List.mem_append.mp hx with hx | hx
        · exact hc x hx
        · rw [List.mem_singleton] at hx; subst hx; exact cv
      · have := exc (o' := HO.lst (xs ++ [v])) (p := Dl) e3
        rw [upd_swap hpd, upd_upd] at this
        exact this
    · rintro H' ⟨xs, o', hl, hc, ho', e'⟩
      exact q _ _ H' ⟨upd G Dl (.lst xs), o', ⟨Dl, xs, rfl, hl, hc, hD2, hpd, rfl⟩, ex_upd hD2, dw_new w hD2 hpd, ho', rfl⟩ e'⟩
/-- x.join(list) -/
theorem join_signs (m : List Nat) : Txt.join (S []) (m.map fun c => S [c]) = S m := by
  have h := SX.join_S [] (m.map fun c => [c])
  rw [List.map_map] at h
  have e : (SX.S ∘ fun c : Nat => [c]) = fun c => S [c] := by funext c; rfl
  rw [e] at h
  refine Eq.trans h ?_
  show SX.S _ = SX.S m
  congr 1
  clear h e
  induction m with
  | nil => rfl
  | cons c r ih =>
    cases r with
    | nil => rfl
    | cons c2 r2 =>
      show [c] ++ ([] ++ TL.joinL [] ((c2 :: r2).map fun c => [c])) = _
      rw [ih]
      rfl
theorem ev_join {f : V → List V → Hp → VK → Prop} {m : List Str} {s : Str} (hs : Ev ta σ H (.str s)) (h : Ev te σ H (.ref a)) (hx : SqL K H a (m.map V.str)) (hz : (m.map (·.length)).sum + m.length * s.length ≤ 16777216) :
    Ev (tM1 (fun x xs H Q => ∃ a p, ∃ ys : List Str, x = .str a ∧ xs = [.ref p] ∧ (SqL K H p (ys.map V.str) ∨ SqT K H p (ys.map V.str)) ∧ (ys.map (·.length)).sum + ys.length * a.length ≤ 16777216 ∧ Q (.str (Txt.join a ys)) H) ta te) σ H (.str (Txt.join s m)) := fun H1 e Q q =>
  hs H1 e _ fun H2 e2 => ⟨⟨s, rfl⟩, h H2 (e.trans e2) _ fun H3 e3 => ⟨s, a, m, rfl, rfl, .inl (ex_l ((e.trans e2).trans e3) hx), hz, q H3 (e2.trans e3)⟩⟩
/-- .. of a new list that was drawn -/
theorem ed_join {s : Str} {n : Nat} {C : V → Prop} {Z : Str → Prop} (w : Dw G d l) (hs : ∀ G', Ev ta σ G' (.str s)) (h : ED te σ G d l (fun v G' => ∃ p xs, v = .ref p ∧ xs.length = n ∧ (∀ x ∈ xs, C x) ∧ G p = none ∧ p ≠ d ∧ G' = upd G p (.lst xs)))
    (hc : ∀ xs : List V, xs.length = n → (∀ x ∈ xs, C x) → ∃ m : List Str, xs = m.map V.str ∧ (m.map (·.length)).sum + m.length * s.length ≤ 16777216 ∧ Z (Txt.join s m)) :
    ED (tM1 (fun x xs H Q => ∃ a p, ∃ ys : List Str, x = .str a ∧ xs = [.ref p] ∧ (SqL K H p (ys.map V.str) ∨ SqT K H p (ys.map V.str)) ∧ (ys.map (·.length)).sum + ys.length * a.length ≤ 16777216 ∧ Q (.str (Txt.join a ys)) H) ta te) σ G d l (fun v G' => ∃ z, v = .str z ∧ Z z ∧ G' = G) := fun o ho H1 e Q q =>
  hs (upd G d o) H1 e _ fun H2 e2 => ⟨⟨s, rfl⟩, h o ho H2 (e.trans e2) _ fun v H3 H4 ⟨G1, o1, ⟨p, xs, ev, hl, hx, hp, hpd, eG⟩, e3, w3, ho3, eq3⟩ e4 => by
    subst ev eG eq3
    obtain ⟨m, rfl, hz, hZ⟩ := hc xs hl hx
    have hat : H4 p = some (.lst (m.map V.str)) := e4 _ _ (by rw [upd_ne hpd, upd_same])
    refine ⟨s, p, m, rfl, rfl, .inl (sq_of hat), hz, q _ _ H4 ⟨G, o1, ⟨_, rfl, hZ, rfl⟩, Ex.refl G, w, ho3, rfl⟩ ?_⟩
    intro c oc hcc
    refine e4 c oc ?_
    by_cases c1 : c = d
    · subst c1; rw [upd_same] at hcc ⊢; exact hcc
    · rw [upd_ne c1] at hcc ⊢
      rw [upd_ne (ne_of_none hcc hp)]
      exact hcc⟩
/-- f"..": two parts and more -/
theorem ev_fmt {s : Str} (h : Ev te σ H (.str s)) (hl : s.length ≤ sizeLine) : Ev (tFmt te) σ H (.str s) := fun H1 e Q q => h H1 e _ fun H2 e2 => .inl ⟨s, rfl, hl, q H2 e2⟩
/-- the parts of f".." one behind the other -/
def EvJs (ts : List TE) (acc : Str) (σ : L2.St) (H : Hp) (out : Str) : Prop := ∀ H1, Ex H H1 → ∀ Q : Str → Hp → Prop, (∀ H2, Ex H1 H2 → Q out H2) → tJs ts acc σ H1 Q
theorem evjs_nil {acc : Str} : EvJs [] acc σ H acc := fun H1 _ Q q => q H1 (Ex.refl H1)
theorem evjs_cons {ts : List TE} {acc s out : Str} (h : Ev te σ H (.str s)) (hl : (acc ++ s).length ≤ sizeLine) (hr : EvJs ts (acc ++ s) σ H out) : EvJs (te :: ts) acc σ H out := fun H1 e Q q =>
  h H1 e _ fun H2 e2 => ⟨s, rfl, hl, hr H2 (e.trans e2) Q fun H3 e3 => q H3 (e2.trans e3)⟩
theorem ev_joined {ts : List TE} {out : Str} (h : EvJs ts Str.empty σ H out) : Ev (fun σ H Q => tJs ts Str.empty σ H fun out H1 => Q (.str out) H1) σ H (.str out) := fun H1 e Q q => h H1 e _ q
/-- list(xs) -/
theorem el_listOf (h : Ev ta σ H (.ref a)) (hx : SqL K H a xs) : EvL (tCB (fun xs H Q => ∃ p ys, xs = [.ref p] ∧ (SqL K H p ys ∨ SqT K H p ys) ∧ ∀ l, H l = none → Q (.ref l) (upd H l (.lst ys))) (tCons ta tNil)) σ H xs := fun H1 e Q q =>
  h H1 e _ fun H2 e2 => ⟨a, xs, rfl, .inl (ex_l (e.trans e2) hx), fun l hl => q l _ (fresh_back e2 hl) (e2.trans (ex_upd hl)) upd_same⟩
/-- [..], parts made one by one -/
theorem eg_lst {ta : TA} {U : List V → Hp → Prop} (h : EgA ta σ H U) (hz : ∀ vs H', U vs H' → vs.length ≤ 1000) : Eg (tLst ta) σ H (fun v H2 => ∃ p vs H', v = .ref p ∧ U vs H' ∧ H' p = none ∧ H2 = upd H' p (.lst vs)) := fun H1 e Q q =>
  h H1 e _ fun vs H' H2 r e2 => ⟨Nat.le_trans (hz _ _ r) (by decide), fun p hp => q _ _ _ ⟨p, vs, H', rfl, r, fresh_back e2 hp, rfl⟩ (exc e2)⟩
/-- a def that draws: what is asked of its arguments, what it gives -/
def spDR {A : Type} (args : A → Addr → List V) (pre : A → Hp → Prop) (R : A → Hp → V → Hp → Prop) : Sp := fun vs H Q _ => ∃ x G d l o, vs = args x d ∧ pre x G ∧ Ex (upd G d o) H ∧ Dro l o ∧ Dw G d l ∧ ∀ v G' o' H2, R x G v G' → Ex G G' → Dw G' d l → Dro l o' → Ex (upd G' d o') H2 → Q v H2
theorem use_DR {A : Type} {args : A → Addr → List V} {pre : A → Hp → Prop} {R : A → Hp → V → Hp → Prop} (x : A) (w : Dw G d l) (h : pre x G) : SpD (spDR args pre R) (args x d) G d l (R x G) := fun o ho H1 e Q q E =>
  ⟨x, G, d, l, o, rfl, h, e, ho, w, fun v G' o' H2 r e1 w1 ho1 e2 => q v _ H2 ⟨G', o', r, e1, w1, ho1, rfl⟩ e2⟩
theorem RD.run {o : HO} (e : Ex (upd G d o) H) (ho : Dro l o) (h : RD u D σ G d l) : Run u D σ H := (h o ho).mono e
end
end Kn

/-! Texts cut at blanks; lists joined. -/
namespace Kn
open PySem PySem.Spec L2 Evl Mw
theorem spl_wds : ∀ (z acc : List Nat), TL.spl [32] 0 acc z = wds acc z
  | [], acc => by rw [TL.spl_nil, wds]
  | c :: r, acc => by
    have hp : TL.pre [32] (c :: r) = decide (c = 32) := by
      unfold TL.pre
      show ([c] == [32]) = _
      by_cases h : c = 32
      · subst h; rfl
      · rw [decide_eq_false h, beq_eq_false_iff_ne]
        exact fun e => h (by injection e)
    rw [wds]
    by_cases h : c = 32
    · rw [if_pos h, TL.spl_hit (by rw [hp, decide_eq_true h])]
      show acc :: TL.spl [32] 0 [] r = _
      rw [spl_wds r []]
    · rw [if_neg h, TL.spl_miss (by rw [hp, decide_eq_false h]), spl_wds r _]
theorem split_wds (z : List Nat) : Txt.split (S z) (S [32]) = (wds [] z).map S := by
  have h := SX.split_S (a := z) (b := [32]) (by simp) (by decide)
  rw [spl_wds] at h
  exact h
section
variable {K : PySem.W.Frag} {σ : L2.St} {G G' H : Hp} {ta tb te tx : TE} {x y z v w : V} {p a d l : Addr} {xs ys vs : List V}
theorem el_split {z : List Nat} {b : Str} (h : Ev ta σ H (.str (S z))) (hb : Ev te σ H (.str b)) (e0 : b = S [32]) (hz : z.length ≤ 1000) :
    EvL (tM1 (fun x xs H Q => ∃ a b, x = .str a ∧ xs = [.str b] ∧ (b.length == 0) = false ∧ a.length + 2 ≤ sizeLine ∧ rNewStrs (Txt.split a b) H Q) ta te) σ H ((wds [] z).map fun w => V.str (S w)) := fun H1 e Q q =>
  h H1 e _ fun H2 e2 => ⟨⟨S z, rfl⟩, hb H2 (e.trans e2) _ fun H3 e3 => by
    subst e0
    refine ⟨S z, S [32], rfl, rfl, rfl, ?_, fun p hp => ?_⟩
    · rw [S_len]
      exact Nat.le_trans (Nat.add_le_add_right hz 2) (by decide)
    · rw [split_wds, List.map_map]
      exact q p _ (fresh_back (e2.trans e3) hp) ((e2.trans e3).trans (ex_upd hp)) upd_same⟩
/-- a new list + a list -/
theorem el_cat (h : EvL ta σ H xs) (g : ∀ H', Ex H H' → Ev tb σ H' (.ref a)) (hx : H a = some (.lst ys)) (hz : xs.length + ys.length ≤ 100000) : EvL (tOp rCat ta tb) σ H (xs ++ ys) := fun H1 e Q q =>
  h H1 e _ fun p H2 hp e2 h2 => g H2 (e.trans e2) H2 (Ex.refl H2) _ fun H3 e3 => ⟨p, a, xs, ys, rfl, rfl, e3 _ _ h2, ((e.trans e2).trans e3) _ _ hx, Nat.le_trans hz (by decide), fun b hb =>
    q b _ (fresh_back (e2.trans e3) hb) ((e2.trans e3).trans (ex_upd hb)) upd_same⟩
/-- a call whose arguments are made on the way -/
theorem ev_callN {sp : Sp} {E : XK} {ta : TA} (h : ∀ H1, Ex H H1 → EgA ta σ H1 (fun vs H' => Ex H1 H' ∧ SpV sp vs H' z)) : Ev (tCall sp [] E ta) σ H z := fun H1 e Q q =>
  h H1 e H1 (Ex.refl H1) _ fun vs H' H2 ⟨e1, hs⟩ e2 => by
    rw [List.append_nil]
    exact hs H2 e2 Q (fun H3 e3 => q H3 ((e1.trans e2).trans e3)) E
theorem ega1 {R : V → Hp → Prop} (h : Eg te σ H R) : EgA (tCons te tNil) σ H (fun vs H' => ∃ v, vs = [v] ∧ R v H') := fun H1 e Q q => h H1 e _ fun v H' H2 r e2 => q [v] H' H2 ⟨v, rfl, r⟩ e2
theorem EgA.imp {ta : TA} {S S' : List V → Hp → Prop} (h : EgA ta σ H S) (k : ∀ v H', S v H' → S' v H') : EgA ta σ H S' := fun H1 e Q q => h H1 e Q fun v H' H2 r e2 => q v H' H2 (k v H' r) e2
theorem rv_same (h : scal x x = true) : RV rEq x x H (.bl true) := by
  have := rv_eq (H := H) h
  rw [decide_eq_true rfl] at this
  exact this
/-! ### try -/
theorem run_dropS {D : Ends} {u : TS} {sp : Sp} {E : L2.St → XK} {ta : TA} (h : EvA ta σ H vs) (k : ∀ H1, Ex H H1 → sp vs H1 (fun _ H2 => u D σ H2) (E σ)) : Run (tSeq (tDrop (tCallS sp E ta)) u) D σ H := fun H1 e => h H1 e _ fun H2 e2 => k H2 (e.trans e2)
theorem run_dropM {D : Ends} {u : TS} {C : Addr} {sp : Sp} {E : L2.St → XK} {ta : TA} (h : EvA ta σ H vs) (k : ∀ H1, Ex H H1 → ∀ x dx, H1 x = none → H1 dx = none → dx ≠ x → sp (.ref x :: vs) (upd (upd H1 dx (.own x)) x (.ins C dx [])) (fun v H2 => v = .non ∧ u D σ H2) (E σ)) : Run (tSeq (tDrop (tMakeS C sp E ta)) u) D σ H := fun H1 e => h H1 e _ fun H2 e2 => k H2 (e.trans e2)
theorem run_tryB {D : Ends} {t u : TS} (h : ∀ H1, Ex H H1 → t { D with nx := u D } σ H1) : Run (tSeq t u) D σ H := h
theorem run_par3 {D : Ends} {u : TS} {ta' : TA} {i j l : Nat} (h : EvA ta' σ H [v, w, z]) (k : Run u D (((σ.set i (some v)).set j (some w)).set l (some z)) H) : Run (tSeq (tPar3 i j l ta') u) D σ H := fun H1 e => h H1 e _ fun H2 e2 => ⟨v, w, z, rfl, k H2 (e.trans e2)⟩
end
end Kn

/-! Draws in loops, slices, picks. -/
namespace Kn
open PySem PySem.Spec L2 Evl Mw
section
variable {K : PySem.W.Frag} {σ : L2.St} {G G' H : Hp} {ta tb te tx tl : TE} {x y z v w : V} {p a d l : Addr} {xs ys vs : List V} {D : Ends} {u tu tw : TS} {i j k : Nat} {R S' : V → Hp → Prop}
/-- one turn is over: only what was known before counts -/
theorem rd_up {Pv : L2.St → Hp → Prop} (e : D.nx = Up Pv) (eG : Ex G' G) (h : ∀ o, Dro l o → Pv σ (upd G' d o)) : RD tNext D σ G d l := fun o ho H1 e1 => by
  show D.nx σ H1
  rw [e]
  exact ⟨upd G' d o, (exc eG).trans e1, h o ho⟩
/-- for k in range(n): the body draws -/
theorem rd_rng1 {ta : TA} {tb : TS} {n : Int} (w : Dw G d l) (h : EvA ta σ G [.int n]) (h1 : -(2 ^ 62) ≤ n) (h2 : n < 2 ^ 62) (P : Nat → L2.St → Prop) (h0 : P 0 σ)
    (hs : ∀ (i : Nat) σ', i < n.toNat → P i σ' → RD tb (LpD D u (fun σ2 H2 => P (i + 1) σ2 ∧ ∃ o, Dro l o ∧ H2 = upd G d o)) (σ'.set j (some (.int (i : Int)))) G d l) (hd : ∀ σ', P n.toNat σ' → RD u D σ' G d l) :
    RD (tSeq (tFor (iRng1 ta) (gName j) tb) u) D σ G d l := fun o ho => by
  refine run_rng1 (h.mono (ex_upd w.free)) h1 h2 (fun i σ' H' => P i σ' ∧ ∃ o, Dro l o ∧ H' = upd G d o) ⟨h0, o, ho, rfl⟩ ?_ ?_
  · rintro i σ' H' hi ⟨p, o', ho', rfl⟩
    exact hs i σ' hi p o' ho'
  · rintro σ' H' ⟨p, o', ho', rfl⟩
    exact hd σ' p o' ho'
/-- s[lo:], lo drawn -/
theorem ed_slLo {s : Str} {C : Int → Prop} (w : Dw G d l) (h : Ev te σ G (.str s)) (h1 : ED tl σ G d l (fun v G' => ∃ i, v = .int i ∧ C i ∧ G' = G)) (hl : s.length ≤ sizeLine) :
    ED (tSl rSlS te (tPart tl) tNoPart) σ G d l (fun v G' => ∃ i, v = .str (cutS s (some i) none) ∧ C i ∧ G' = G) := fun o ho H1 e Q q =>
  h H1 (ex_skip w.free e) _ fun H2 e2 => h1 o ho H2 (e.trans e2) _ fun v H3 H4 ⟨G1, o1, ⟨i, ev, hc, eG⟩, e1, w1, ho1, eq1⟩ e4 => by
    subst ev eG eq1
    exact ⟨i, rfl, s, rfl, hl, q _ _ H4 ⟨_, o1, ⟨i, rfl, hc, rfl⟩, Ex.refl _, w1, ho1, rfl⟩ e4⟩
/-- xs[draw], a new list -/
theorem ed_pick {n : Nat} (w : Dw G d l) (hl : EvL ta σ G xs) (hn : xs.length = n) (hi : ∀ G1, Ex G G1 → Dw G1 d l → ED tb σ G1 d l (fun v G' => ∃ i : Nat, v = .int (i : Int) ∧ (i : Int) < (n : Int) ∧ G' = G1)) :
    ED (tOp (rIxL K) ta tb) σ G d l (fun v _ => v ∈ xs) :=
  ed_op (ed_l w hl) (Rb := fun x y G2 => ∃ p, x = .ref p ∧ G2 p = some (.lst xs) ∧ ∃ i : Nat, y = .int (i : Int) ∧ i < n) (fun x G1 hx e1 w1 => by
    obtain ⟨p, rfl, hp, hpd, rfl⟩ := hx
    exact (hi _ e1 w1).imp fun v G' ⟨i, e, h, eG⟩ => ⟨p, rfl, by subst eG; exact upd_same, i, e, by omega⟩) fun x G1 y G2 _ hy _ _ => by
    obtain ⟨p, rfl, hp, i, rfl, hlt⟩ := hy
    have hlt : i < xs.length := by omega
    exact ⟨xs[i], rv_ixL (sq_of hp) (at_nat _ (List.getElem?_eq_getElem hlt)), List.getElem_mem hlt⟩
/-- .. a list that stands -/
theorem ed_pickV {n : Nat} (w : Dw G d l) (hl : Ev ta σ G (.ref a)) (hx : G a = some (.lst xs)) (hn : xs.length = n) (hi : ED tb σ G d l (fun v G' => ∃ i : Nat, v = .int (i : Int) ∧ (i : Int) < (n : Int) ∧ G' = G)) :
    ED (tOp (rIxL K) ta tb) σ G d l (fun v G' => v ∈ xs ∧ G' = G) :=
  ed_opR w hl hi fun y G2 hy _ _ => by
    obtain ⟨i, rfl, hlt, rfl⟩ := hy
    have hlt : i < xs.length := by omega
    exact ⟨xs[i], rv_ixL (sq_of hx) (at_nat _ (List.getElem?_eq_getElem hlt)), List.getElem_mem hlt, rfl⟩
/-- a test that draws, an if alone -/
theorem rd_ifEO (h : ED te σ G d l R) (hb : ∀ v G', R v G' → ∃ b, v = .bl b) (h1 : ∀ G', R (.bl true) G' → Ex G G' → Dw G' d l → RD tu D σ G' d l) (h2 : ∀ G', R (.bl false) G' → Ex G G' → Dw G' d l → RD tw D σ G' d l) : RD (tIfS (tTest te) tu tw) D σ G d l := fun o ho H1 e =>
  h o ho H1 e _ fun v H2 H3 ⟨G1, o1, r1, e1, w1, ho1, eq1⟩ e3 => by
    subst eq1
    obtain ⟨b, rfl⟩ := hb v G1 r1
    refine ⟨b, rfl, ?_⟩
    cases b with
    | true => exact h1 G1 r1 e1 w1 o1 ho1 H3 e3
    | false => exact h2 G1 r1 e1 w1 o1 ho1 H3 e3
/-- a call with drawn arguments, whose value is plain -/
theorem ed_callR {sp : Sp} {E : XK} {ta : TA} {U : List V → Hp → Prop} (h : EDA ta σ G d l U) (hs : ∀ vs G1, U vs G1 → Ex G G1 → Dw G1 d l → ∃ z, (∀ o, Dro l o → SpV sp vs (upd G1 d o) z) ∧ R z G1) : ED (tCall sp [] E ta) σ G d l R := fun o ho H1 e Q q =>
  h o ho H1 e _ fun vs H2 H3 ⟨G1, o1, r1, e1, w1, ho1, eq1⟩ e3 => by
    subst eq1
    obtain ⟨z, hz, rz⟩ := hs vs G1 r1 e1 w1
    rw [List.append_nil]
    exact hz o1 ho1 H3 e3 Q (fun H4 e4 => q z _ H4 ⟨G1, o1, rz, e1, w1, ho1, rfl⟩ (e3.trans e4)) E
theorem eda1 (h : ED te σ G d l R) : EDA (tCons te tNil) σ G d l (fun vs G' => ∃ v, vs = [v] ∧ R v G') := fun o ho H1 e Q q => h o ho H1 e _ fun v H2 H3 ⟨G1, o1, r1, e1, w1, ho1, eq1⟩ e3 => q [v] H2 H3 ⟨G1, o1, ⟨v, rfl, r1⟩, e1, w1, ho1, eq1⟩ e3
end
end Kn

/-! == by an own __eq__, either outcome; parts that are never reached. -/
namespace Kn
open PySem PySem.Spec L2 Evl Mw
/-- the class of what is compared -/
def OwnTy (H : Hp) (y : V) (t : Value) : Prop := (∃ b C dy gs, y = .ref b ∧ H b = some (.ins C dy gs) ∧ t = .ref C) ∨ (∃ z, y = .str z ∧ t = .type "str") ∨ (∃ i, y = .int i ∧ t = .type "int")
theorem OwnTy.mono {H H' : Hp} {y : V} {t : Value} (e : Ex H H') (h : OwnTy H y t) : OwnTy H' y t := h.elim (fun ⟨b, C, dy, gs, h1, h2, h3⟩ => .inl ⟨b, C, dy, gs, h1, e _ _ h2, h3⟩) .inr
def rOwn (K : PySem.W.Frag) (C : Addr) (sp : Sp) (E : XK) : R2 := fun x y H Q => ∃ a dx fs t, x = .ref a ∧ H a = some (.ins C dx fs) ∧ OwnTy H y t ∧ PySem.W.notFirst K C t = true ∧ sp [.ref a, y] H (fun v H' => ∃ b, v = .bl b ∧ Q (.bl b) H') E
structure EqM (P : Program) (w : World) (K : PySem.W.Frag) (mg : Str → Option Value) (base : Heap) (CX : CXT) (k : Nat) (C : Addr) (sp : Sp) : Prop where
  ex : ∃ (f : Addr) (fd : FuncData) (ps : List Str), PySem.W.findIn K (.ref C) "__eq__" = some (some (.ref f)) ∧ PySem.W.isFn K (.ref f) = true ∧ FnOk P w K mg base CX k f fd ps sp ∧ Binds K fd ps []
section
variable {X : Cx} {CX : CXT} {k j : Nat} {C : Addr} {sp : Sp} {E : XK}
theorem op_own (c : EqM X.prog X.w X.K X.mg X.base CX k C sp) (hr : Room j X.A) (hk : k ≤ j) (hx : Passes CX X E) : OpR X (compareOp .Eq) (rOwn X.K C sp E) := by
  intro pins s σ H x y v u Q I rx ry hq
  obtain ⟨f, fd, ps, hs, hf, F, hb⟩ := c.ex
  obtain ⟨a, dx, fs, t, rfl, ha, ty, hn, hsp⟩ := hq
  cases rx
  obtain ⟨mA, J, _⟩ := ins_get I.hok ha
  obtain ⟨od, J, _⟩ := J.look
  obtain ⟨m, hF⟩ := I.fr
  have lk : PySem.W.Looks (model X.prog X.w) s.heap (typeOf u) t := by
    rcases ty with ⟨b, C', dy, gs, rfl, hb', rfl⟩ | ⟨z, rfl, rfl⟩ | ⟨i, rfl, rfl⟩
    · cases ry
      obtain ⟨mB, J', _⟩ := ins_get I.hok hb'
      obtain ⟨od', J', _⟩ := J'.look
      exact J'.type
    · obtain ⟨tk, rfl⟩ := ry
      exact fun A Q E s k q => wpAny_typeOf rfl q
    · obtain ⟨tk, rfl⟩ := ry
      exact fun A Q E s k q => wpAny_typeOf rfl q
  show wpAny (model X.prog X.w) X.A (richCompare .Eq (.ref a) u) (EP X pins σ Q) X.xe s
  refine PySem.W.cmp_K (op := .Eq) (tb := t) (hr.units0) hF I.ok.mod.kin J lk hn hs hf ?_
  have hl := F.len _ _ _ _ hsp
  have r2 : Vals [V.ref a, y] [Value.ref a, u] := .cons rfl (.cons ry .nil)
  refine wpAny_call (codeAny_mono (F.run X.A X.stack s H ⟨[.ref a, u], []⟩ [.ref a, u] [.ref a, y] _ E (hr.mono hk) I.env0 (by
    have := hb s [.ref a, u] I.kIn (by simpa using hl)
    simpa using this) r2 hsp) fun r s' hq => ?_)
  cases r with
  | error e => exact hx pins σ H s e s' I hq
  | ok fl =>
    cases fl with
    | ret w =>
      obtain ⟨z, H', I', rz, b, ez, q⟩ := I.after hq
      subst ez
      cases rz
      exact ⟨.bl b, H', I', rfl, q⟩
    | next => exact False.elim hq
    | brk => exact False.elim hq
    | cont => exact False.elim hq
def rIxA (K : PySem.W.Frag) : R2 := fun x y H Q => rIxL K x y H Q ∨ rIxT K x y H Q
theorem ix_any : IxR X (rIxA X.K) := by
  intro value slice pins s σ H x y v u Q I rx ry h hs
  rcases h with h | h
  · exact ix_list value slice pins s σ H x y v u Q I rx ry h hs
  · exact ix_tup value slice pins s σ H x y v u Q I rx ry h hs
theorem rv_ixAL {K : PySem.W.Frag} {H : Hp} {p : Addr} {xs : List V} {i : Int} {v : V} (h : SqL K H p xs) (ha : atI xs i = some v) : RV (rIxA K) (.ref p) (.int i) H v := fun H1 e Q q => .inl (rv_ixL h ha H1 e Q q)
theorem rv_ixAT {K : PySem.W.Frag} {H : Hp} {p : Addr} {xs : List V} {i : Int} {v : V} (h : SqT K H p xs) (ha : atI xs i = some v) : RV (rIxA K) (.ref p) (.int i) H v := fun H1 e Q q => .inr (rv_ixT h ha H1 e Q q)
end
end Kn

/-! Lists and tuples compared; things made on the way while one draws. -/
namespace Kn
open PySem PySem.Spec L2 Evl Mw
def dI (ns : List Int) : List PyData := ns.map PyData.int
def dS (zs : List Str) : List PyData := zs.map PyData.str
theorem eqv_ints : ∀ ns ms : List Int, PyData.eqvAll (dI ns) (dI ms) = decide (ns = ms)
  | [], [] => by unfold dI; simp [PyData.eqvAll]
  | [], m :: ms => by unfold dI; simp [PyData.eqvAll]
  | n :: ns, [] => by unfold dI; simp [PyData.eqvAll]
  | n :: ns, m :: ms => by
    have ih := eqv_ints ns ms
    unfold dI at *
    rw [List.map_cons, List.map_cons, PyData.eqvAll, ih, PyData.eqv]
    by_cases h1 : n = m
    · subst h1; simp
    · have : (n == m) = false := beq_eq_false_iff_ne.mpr h1
      rw [this, Bool.false_and, decide_eq_false]
      intro e; injection e; contradiction
theorem eqv_strs : ∀ ns ms : List Str, PyData.eqvAll (dS ns) (dS ms) = decide (ns = ms)
  | [], [] => by unfold dS; simp [PyData.eqvAll]
  | [], m :: ms => by unfold dS; simp [PyData.eqvAll]
  | n :: ns, [] => by unfold dS; simp [PyData.eqvAll]
  | n :: ns, m :: ms => by
    have ih := eqv_strs ns ms
    unfold dS at *
    rw [List.map_cons, List.map_cons, PyData.eqvAll, ih, PyData.eqv]
    by_cases h1 : n = m
    · subst h1; simp
    · have : (n == m) = false := beq_eq_false_iff_ne.mpr h1
      rw [this, Bool.false_and, decide_eq_false]
      intro e; injection e; contradiction
theorem lay_ints : ∀ ns : List Int, PyData.canLayAll0 (dI ns) = true ∧ PyData.depthAll (dI ns) = 0
  | [] => ⟨rfl, rfl⟩
  | n :: ns => by
    have ih := lay_ints ns
    unfold dI at *
    rw [List.map_cons, PyData.canLayAll0, PyData.depthAll, ih.1, ih.2]
    simp [PyData.canLay0, PyData.depth]
theorem lay_strs : ∀ {ns : List Str}, (∀ z ∈ ns, PyData.strOk z = true) → PyData.canLayAll0 (dS ns) = true ∧ PyData.depthAll (dS ns) = 0
  | [], _ => ⟨rfl, rfl⟩
  | n :: ns, h => by
    have ih := lay_strs (ns := ns) fun z hz => h z (List.mem_cons_of_mem _ hz)
    unfold dS at *
    rw [List.map_cons, PyData.canLayAll0, PyData.depthAll, ih.1, ih.2]
    simp [PyData.canLay0, PyData.depth, h n List.mem_cons_self]
theorem shp_list {ds : List PyData} (h : PyData.canLayAll0 ds = true ∧ PyData.depthAll ds = 0) : SeqAt.shaped (.list ds) = true ∧ SeqAt.shaped (.tuple ds) = true := by
  unfold SeqAt.shaped PyData.canLay0
  rw [h.1]
  constructor <;> simp [PyData.depth, h.2]
section
variable {K : PySem.W.Frag} {H : Hp} {a b : Addr} {ns ms : List Int} {zs ys : List Str}
theorem dp_ints : ∀ ns : List Int, DpAll K H (ns.map V.int) (dI ns)
  | [] => .nil
  | n :: ns => .cons (.int n) (dp_ints ns)
theorem dp_strs : ∀ ns : List Str, DpAll K H (ns.map V.str) (dS ns)
  | [] => .nil
  | n :: ns => .cons (.str n) (dp_strs ns)
theorem rv_eqI (h1 : SqL K H a (ns.map V.int)) (h2 : SqL K H b (ms.map V.int)) : RV (rEqD K) (.ref a) (.ref b) H (.bl (decide (ns = ms))) := fun H1 e Q q =>
  ⟨.list (dI ns), .list (dI ms), .lst (ex_l e h1) (dp_ints ns), .lst (ex_l e h2) (dp_ints ms), (shp_list (lay_ints ns)).1, (shp_list (lay_ints ms)).1, by rw [PyData.eqv, eqv_ints]; exact q H1 (Ex.refl H1)⟩
theorem rv_neI (h1 : SqL K H a (ns.map V.int)) (h2 : SqL K H b (ms.map V.int)) : RV (rNeD K) (.ref a) (.ref b) H (.bl (!decide (ns = ms))) := fun H1 e Q q =>
  ⟨.list (dI ns), .list (dI ms), .lst (ex_l e h1) (dp_ints ns), .lst (ex_l e h2) (dp_ints ms), (shp_list (lay_ints ns)).1, (shp_list (lay_ints ms)).1, by rw [PyData.eqv, eqv_ints]; exact q H1 (Ex.refl H1)⟩
theorem rv_eqTI (h1 : SqT K H a (ns.map V.int)) (h2 : SqT K H b (ms.map V.int)) : RV (rEqD K) (.ref a) (.ref b) H (.bl (decide (ns = ms))) := fun H1 e Q q =>
  ⟨.tuple (dI ns), .tuple (dI ms), .tup (ex_t e h1) (dp_ints ns), .tup (ex_t e h2) (dp_ints ms), (shp_list (lay_ints ns)).2, (shp_list (lay_ints ms)).2, by rw [PyData.eqv, eqv_ints]; exact q H1 (Ex.refl H1)⟩
theorem rv_neTI (h1 : SqT K H a (ns.map V.int)) (h2 : SqT K H b (ms.map V.int)) : RV (rNeD K) (.ref a) (.ref b) H (.bl (!decide (ns = ms))) := fun H1 e Q q =>
  ⟨.tuple (dI ns), .tuple (dI ms), .tup (ex_t e h1) (dp_ints ns), .tup (ex_t e h2) (dp_ints ms), (shp_list (lay_ints ns)).2, (shp_list (lay_ints ms)).2, by rw [PyData.eqv, eqv_ints]; exact q H1 (Ex.refl H1)⟩
theorem rv_neS (o1 : ∀ z ∈ zs, PyData.strOk z = true) (o2 : ∀ z ∈ ys, PyData.strOk z = true) (h1 : SqL K H a (zs.map V.str)) (h2 : SqL K H b (ys.map V.str)) : RV (rNeD K) (.ref a) (.ref b) H (.bl (!decide (zs = ys))) := fun H1 e Q q =>
  ⟨.list (dS zs), .list (dS ys), .lst (ex_l e h1) (dp_strs zs), .lst (ex_l e h2) (dp_strs ys), (shp_list (lay_strs o1)).1, (shp_list (lay_strs o2)).1, by rw [PyData.eqv, eqv_strs]; exact q H1 (Ex.refl H1)⟩
end
section
variable {K : PySem.W.Frag} {σ : L2.St} {G G' H : Hp} {ta tb te tx tl : TE} {x y z v w : V} {p a d l : Addr} {xs ys vs : List V} {D : Ends} {u tu tw : TS} {i j k : Nat} {R S' : V → Hp → Prop}
/-- a method whose outcome is new -/
theorem eg_meth {C : Addr} {m : Str} {sp : Sp} {E : XK} {ta : TE} {t : TA} {dx : Addr} {fs : List (Str × V)} (h : Ev ta σ H (.ref a)) (ho : H a = some (.ins C dx fs)) (hm : fs.lookup m = none) (hA : EvA t σ H vs) (hs : SpG sp (.ref a :: vs) H R) :
    Eg (tMeth C m sp [] E ta t) σ H R := fun H1 e Q q =>
  h H1 e _ fun H2 e2 => ⟨a, dx, fs, rfl, (e.trans e2) _ _ ho, hm, hA H2 (e.trans e2) _ fun H3 e3 => by
    rw [List.append_nil]
    exact hs H3 ((e.trans e2).trans e3) Q q E⟩
/-- one new object while one draws -/
theorem ed_new1 {Po : HO → Prop} (w : Dw G d l) (h : ∀ o, Dro l o → Eg te σ (upd G d o) (fun v H' => ∃ x ob, v = .ref x ∧ Po ob ∧ (upd G d o) x = none ∧ H' = upd (upd G d o) x ob)) :
    ED te σ G d l (fun v G' => ∃ x ob, v = .ref x ∧ Po ob ∧ G x = none ∧ G' = upd G x ob) := fun o ho => by
  refine (h o ho).imp ?_
  rintro v H' ⟨x, ob, rfl, hp, hx, rfl⟩
  have hxd : x ≠ d := fun e => by subst e; rw [upd_same] at hx; cases hx
  rw [upd_ne hxd] at hx
  exact ⟨upd G x ob, o, ⟨x, ob, rfl, hp, hx, rfl⟩, ex_upd hx, dw_new w hx hxd, ho, upd_swap hxd⟩
/-- whatever is new -/
def era (H : Hp) (d : Addr) : Hp := fun c => if c = d then none else H c
theorem era_upd {H : Hp} {d : Addr} {o : HO} (h : H d = some o) : upd (era H d) d o = H := by
  funext c
  by_cases e : c = d
  · subst e; rw [upd_same, h]
  · rw [upd_ne e]; unfold era; rw [if_neg e]
theorem ed_any (w : Dw G d l) (h : ∀ o, Dro l o → Eg te σ (upd G d o) (fun v H' => Ex (upd G d o) H' ∧ R v H')) (k : ∀ v G' o, Dro l o → R v (upd G' d o) → Ex G G' → Dw G' d l → S' v G') : ED te σ G d l S' := fun o ho => by
  refine (h o ho).imp ?_
  rintro v H' ⟨e, r⟩
  have hd : H' d = some o := e _ _ upd_same
  have e1 := era_upd hd
  have eG : Ex G (era H' d) := fun c ob hc => by
    have hcd : c ≠ d := fun z => by subst z; rw [w.free] at hc; cases hc
    unfold era
    rw [if_neg hcd]
    exact e _ _ (by rw [upd_ne hcd]; exact hc)
  have hw : Dw (era H' d) d l := w.ext eG (by unfold era; rw [if_pos rfl])
  refine ⟨era H' d, o, k v _ o ho (by rw [e1]; exact r) eG hw, eG, hw, ho, e1.symm⟩
/-- a call of which the heap behind is known to grow -/
theorem ega_grow {ta : TA} {S : List V → Hp → Prop} (h : ∀ H1, Ex H H1 → EgA ta σ H1 (fun vs H' => Ex H1 H' ∧ S vs H')) : EgA ta σ H (fun vs H' => Ex H H' ∧ S vs H') := fun H1 e Q q => h H1 e H1 (Ex.refl H1) Q fun vs H' H2 ⟨e1, s⟩ e2 => q vs H' H2 ⟨e.trans e1, s⟩ e2
theorem ej_of {wi : TI} (h : EvI wi σ H xs) (e : xs = ys) : EvJ wi σ H ys := by subst e; exact h.toJ
theorem rd_unl2V (w' : Dw G d l) (h : Ev te σ G (.ref a)) (hx : SqL K G a [v, w]) (k : RD u D ((σ.set i (some v)).set j (some w)) G d l) : RD (tSeq (tAsg te (gLst K 2 (gCons (gName i) (gCons (gName j) gNil)))) u) D σ G d l := fun o ho => run_unl2V (h.mono (ex_upd w'.free)) (ex_l (ex_upd w'.free) hx) (k o ho)
/-- arguments: new lists and plain values -/
theorem ega_LL (h1 : EvL ta σ H xs) (h2 : EvL tb σ H ys) : EgA (tCons ta (tCons tb tNil)) σ H (fun vs H' => Ex H H' ∧ ∃ a b, vs = [.ref a, .ref b] ∧ H' a = some (.lst xs) ∧ H' b = some (.lst ys)) := fun H1 e Q q =>
  h1 H1 e _ fun a H2 _ e2 ha => h2 H2 (e.trans e2) _ fun b H3 _ e3 hb => q _ H3 H3 ⟨(e.trans e2).trans e3, a, b, rfl, e3 _ _ ha, hb⟩ (Ex.refl H3)
theorem ega_LV (h1 : EvL ta σ H xs) (h2 : ∀ H', Ex H H' → Ev tb σ H' y) : EgA (tCons ta (tCons tb tNil)) σ H (fun vs H' => Ex H H' ∧ ∃ a, vs = [.ref a, y] ∧ H' a = some (.lst xs)) := fun H1 e Q q =>
  h1 H1 e _ fun a H2 _ e2 ha => h2 H2 (e.trans e2) H2 (Ex.refl H2) _ fun H3 e3 => q _ H3 H3 ⟨(e.trans e2).trans e3, a, rfl, e3 _ _ ha⟩ (Ex.refl H3)
theorem ega_VL (h1 : Ev ta σ H x) (h2 : EvL tb σ H ys) : EgA (tCons ta (tCons tb tNil)) σ H (fun vs H' => Ex H H' ∧ ∃ b, vs = [x, .ref b] ∧ H' b = some (.lst ys)) := fun H1 e Q q =>
  h1 H1 e _ fun H2 e2 => h2 H2 (e.trans e2) _ fun b H3 _ e3 hb => q _ H3 H3 ⟨(e.trans e2).trans e3, b, rfl, hb⟩ (Ex.refl H3)
theorem ega_UU (h1 : EvU ta σ H xs) (h2 : EvU tb σ H ys) : EgA (tCons ta (tCons tb tNil)) σ H (fun vs H' => Ex H H' ∧ ∃ a b, vs = [.ref a, .ref b] ∧ H' a = some (.tup xs) ∧ H' b = some (.tup ys)) := fun H1 e Q q =>
  h1 H1 e _ fun a H2 _ e2 ha => h2 H2 (e.trans e2) _ fun b H3 _ e3 hb => q _ H3 H3 ⟨(e.trans e2).trans e3, a, b, rfl, e3 _ _ ha, hb⟩ (Ex.refl H3)
theorem el_callN {sp : Sp} {E : XK} {ta : TA} (h : ∀ H1, Ex H H1 → EgA ta σ H1 (fun vs H' => Ex H1 H' ∧ SpL sp vs H' xs)) : EvL (tCall sp [] E ta) σ H xs := fun H1 e Q q =>
  h H1 e H1 (Ex.refl H1) _ fun vs H' H2 ⟨e1, hs⟩ e2 => by
    rw [List.append_nil]
    exact hs H2 e2 Q (fun p H3 hp e3 h3 => q p H3 (fresh_back (e1.trans e2) hp) ((e1.trans e2).trans e3) h3) E
theorem eu_callN {sp : Sp} {E : XK} {ta : TA} (h : ∀ H1, Ex H H1 → EgA ta σ H1 (fun vs H' => Ex H1 H' ∧ SpU sp vs H' xs)) : EvU (tCall sp [] E ta) σ H xs := fun H1 e Q q =>
  h H1 e H1 (Ex.refl H1) _ fun vs H' H2 ⟨e1, hs⟩ e2 => by
    rw [List.append_nil]
    exact hs H2 e2 Q (fun p H3 hp e3 h3 => q p H3 (fresh_back (e1.trans e2) hp) ((e1.trans e2).trans e3) h3) E
/-- an operation whose right part is made on the way -/
theorem ev_opN {r : R2} (ha : Ev ta σ H x) (hb : ∀ H1, Ex H H1 → Eg tb σ H1 (fun y H' => Ex H1 H' ∧ RV r x y H' z)) : Ev (tOp r ta tb) σ H z := fun H1 e Q q =>
  ha H1 e _ fun H2 e2 => hb H2 (e.trans e2) H2 (Ex.refl H2) _ fun y H' H3 ⟨e3, hr⟩ e4 => hr H3 e4 Q fun H5 e5 => q H5 ((e2.trans (e3.trans e4)).trans e5)
end
end Kn

/-! len() by an own __len__. -/
namespace Kn
open PySem PySem.Spec L2 Evl Mw
def rLenOwn (C : Addr) (sp : Sp) (E : XK) : List V → Hp → VK → Prop := fun xs H Q => ∃ a dx fs, xs = [.ref a] ∧ H a = some (.ins C dx fs) ∧ sp [.ref a] H (fun v H' => ∃ n : Int, v = .int n ∧ 0 ≤ n ∧ n < 2 ^ 63 ∧ Q (.int n) H') E
structure LnM (P : Program) (w : World) (K : PySem.W.Frag) (mg : Str → Option Value) (base : Heap) (CX : CXT) (k : Nat) (C : Addr) (sp : Sp) : Prop where
  ex : ∃ (f : Addr) (fd : FuncData) (ps : List Str), PySem.W.findIn K (.ref C) "__len__" = some (some (.ref f)) ∧ PySem.W.isFn K (.ref f) = true ∧ FnOk P w K mg base CX k f fd ps sp ∧ Binds K fd ps []
section
variable {X : Cx} {CX : CXT} {k j : Nat} {C : Addr} {sp : Sp} {E : XK}
theorem call_lenOwn (c : LnM X.prog X.w X.K X.mg X.base CX k C sp) (hr : Room j X.A) (hk : k + 1 ≤ j) (hx : Passes CX X E) : CallR X (.builtin "len") (rLenOwn C sp E) := by
  intro pins s σ H xs us Q I r hq
  obtain ⟨f, fd, ps, hs, hf, F, hb⟩ := c.ex
  obtain ⟨a, dx, fs, rfl, ha, hsp⟩ := hq
  obtain ⟨u1, rfl, r1⟩ := vals1 r
  cases r1
  obtain ⟨mA, J, _⟩ := ins_get I.hok ha
  obtain ⟨od, J, _⟩ := J.look
  obtain ⟨m, hF⟩ := I.fr
  refine PySem.W.len_K hF I.ok.mod.kin J hs hf ?_
  have hl := F.len _ _ _ _ hsp
  have r2 : Vals [V.ref a] [Value.ref a] := .cons rfl .nil
  have e0 : Env0 X.prog X.w X.K X.mg X.base X.A.in1 X.stack s H := by
    have e := I.env0
    exact ⟨e.frames, e.mod, e.bs, e.bsz, e.funs, e.frf, e.hok, e.bare⟩
  refine wpAny_call (codeAny_mono (F.run X.A.in1 X.stack s H ⟨[.ref a], []⟩ [.ref a] [.ref a] _ E ((hr.mono hk).in1) e0 (by
    have := hb s [.ref a] I.kIn (by simpa using hl)
    simpa using this) r2 hsp) fun r s' hq => ?_)
  cases r with
  | error e => exact hx pins σ H s e s' I hq
  | ok fl =>
    cases fl with
    | ret w =>
      obtain ⟨z, H', I', rz, n, ez, h0, h1, q⟩ := I.after hq
      subst ez
      obtain ⟨t, rfl⟩ := rz
      exact ⟨⟨h0, h1⟩, ⟨.int n, H', I'.tok _, ⟨_, rfl⟩, q⟩⟩
    | next => exact False.elim hq
    | brk => exact False.elim hq
    | cont => exact False.elim hq
end
section
variable {K : PySem.W.Frag} {σ : L2.St} {H : Hp} {ta : TE} {a : Addr}
theorem ev_lenOwn {C dx : Addr} {fs : List (Str × V)} {sp : Sp} {E : XK} {n : Nat} (h : Ev ta σ H (.ref a)) (ho : H a = some (.ins C dx fs)) (hs : SpV sp [.ref a] H (.int (n : Int))) (hn : n < 2 ^ 62) : Ev (tCB (rLenOwn C sp E) (tCons ta tNil)) σ H (.int (n : Int)) := fun H1 e Q q =>
  h H1 e _ fun H2 e2 => ⟨a, dx, fs, rfl, (e.trans e2) _ _ ho, hs H2 (e.trans e2) _ (fun H3 e3 => ⟨n, rfl, by omega, by omega, q H3 (e2.trans e3)⟩) E⟩
variable {G : Hp} {te tb : TE} {x v w z y : V} {xs ys vs : List V} {D : Ends} {u : TS} {p : Addr}
/-- a call for its own sake, that may raise -/
theorem run_dropC {sp : Sp} {E : XK} {ta : TA} (h : EvA ta σ H vs) (k : ∀ H1, Ex H H1 → sp vs H1 (fun _ H2 => u D σ H2) E) : Run (tSeq (tDrop (tCall sp [] E ta)) u) D σ H := fun H1 e => h H1 e _ fun H2 e2 => by
  rw [List.append_nil]
  exact k H2 (e.trans e2)
/-- return of a call that may raise -/
theorem run_retC {sp : Sp} {E : XK} {ta : TA} (h : EvA ta σ H vs) (k : ∀ H1, Ex H H1 → sp vs H1 D.rt E) : Run (tSeq (tRet (tCall sp [] E ta)) u) D σ H := fun H1 e => h H1 e _ fun H2 e2 => by
  rw [List.append_nil]
  exact k H2 (e.trans e2)
/-- xs.append(e), the list a field -/
theorem run_appF {G : Hp} {te : TE} (hl : Ev ta σ (upd G p (.lst xs)) (.ref p)) (h : Ev te σ (upd G p (.lst xs)) v) (hz : xs.length < sizeLine) (q : Run u D σ (upd G p (.lst (xs ++ [v])))) :
    Run (tSeq (tDrop (tBM K "list" rAppend ta (tCons te tNil))) u) D σ (upd G p (.lst xs)) := run_app hl h hz q
/-- xs.pop() -/
theorem run_pop {G : Hp} (hl : Ev ta σ (upd G p (.lst (xs ++ [v]))) (.ref p)) (q : Run u D σ (upd G p (.lst xs))) :
    Run (tSeq (tDrop (tBM0 K "list" rPop ta)) u) D σ (upd G p (.lst (xs ++ [v]))) := fun H1 e => hl H1 e _ fun H2 e2 =>
  ⟨Or.inl ⟨rfl, xs ++ [v], sq_of ((e.trans e2) p _ upd_same)⟩, p, xs ++ [v], v, rfl, rfl, (e.trans e2) p _ upd_same, by simp, by rw [List.dropLast_concat]; exact q _ (exu (e.trans e2))⟩
theorem ev_callX {sp : Sp} {E : XK} {ta : TA} (h : EvA ta σ H vs) (hs : SpV sp vs H z) : Ev (tCall sp [] E ta) σ H z := ev_call0 h hs
/-- o.m() within a try, for its own sake -/
theorem run_dropMS {C dx : Addr} {m : Str} {sp : Sp} {E : L2.St → XK} {fs : List (Str × V)} {t : TA} {a : Addr} (h : Ev ta σ H (.ref a)) (ho : H a = some (.ins C dx fs)) (hm : fs.lookup m = none) (hA : EvA t σ H vs) (k : ∀ H1, Ex H H1 → sp (.ref a :: vs) H1 (fun _ H2 => u D σ H2) (E σ)) :
    Run (tSeq (tDrop (tMethS C m sp E ta t)) u) D σ H := fun H1 e => h H1 e _ fun H2 e2 => ⟨a, dx, fs, rfl, (e.trans e2) _ _ ho, hm, hA H2 (e.trans e2) _ fun H3 e3 => k H3 ((e.trans e2).trans e3)⟩
/-- .. beside a try -/
theorem run_dropMC {C dx : Addr} {m : Str} {sp : Sp} {E : XK} {fs : List (Str × V)} {t : TA} {a : Addr} (h : Ev ta σ H (.ref a)) (ho : H a = some (.ins C dx fs)) (hm : fs.lookup m = none) (hA : EvA t σ H vs) (k : ∀ H1, Ex H H1 → sp (.ref a :: vs) H1 (fun _ H2 => u D σ H2) E) :
    Run (tSeq (tDrop (tMeth C m sp [] E ta t)) u) D σ H := fun H1 e => h H1 e _ fun H2 e2 => ⟨a, dx, fs, rfl, (e.trans e2) _ _ ho, hm, hA H2 (e.trans e2) _ fun H3 e3 => by
  rw [List.append_nil]
  exact k H3 ((e.trans e2).trans e3)⟩
/-! ### effects in tests, cuts while one draws -/
theorem eg_opL {r : R2} {ta tb : TE} {S : V → Hp → Prop} (ha : Eg ta σ H S) (hb : ∀ x H', S x H' → Ev tb σ H' y) (hr : ∀ x H', S x H' → RV r x y H' z) : Eg (tOp r ta tb) σ H (fun v H' => v = z ∧ ∃ x, S x H') := fun H1 e Q q =>
  ha H1 e _ fun x H' H2 s e2 => hb x H' s H2 e2 _ fun H3 e3 => hr x H' s H3 (e2.trans e3) Q fun H4 e4 => q z H' H4 ⟨rfl, x, s⟩ ((e2.trans e3).trans e4)
theorem egt_test {R : V → Hp → Prop} (h : Eg te σ H R) (hb : ∀ v H', R v H' → ∃ b, v = .bl b) : EgT (tTest te) σ H (fun b H' => R (.bl b) H') := fun H1 e Q q =>
  h H1 e _ fun v H' H2 r e2 => by
    obtain ⟨b, rfl⟩ := hb v H' r
    exact ⟨b, rfl, q b H' H2 r e2⟩
variable {d l : Addr}
theorem rd_cut {t : TS} (M : L2.St → Prop) (h : RD t { D with nx := Up (fun σ' H' => M σ' ∧ ∃ o, Dro l o ∧ H' = upd G d o) } σ G d l) (q : ∀ σ', M σ' → RD u D σ' G d l) : RD (Evl.tCut t u) D σ G d l := fun o ho =>
  run_cut (fun σ' H' => M σ' ∧ ∃ o, Dro l o ∧ H' = upd G d o) (h o ho) fun σ' H' ⟨m, o', ho', e⟩ => by subst e; exact q σ' m o' ho'
theorem rd_ifO {t : TT} {tw : TS} {b : Bool} (w : Dw G d l) (h : EvT t σ G b) (h1 : b = true → RD u D σ G d l) (h2 : b = false → RD tw D σ G d l) : RD (tIfS t u tw) D σ G d l := fun o ho => run_ifO (h.mono (ex_upd w.free)) (fun hb => h1 hb o ho) (fun hb => h2 hb o ho)
theorem upd_back {G : Hp} {p z : Addr} {o ob : HO} (h : (upd G p o) z = some ob) (hne : ob ≠ o) : G z = some ob := by
  have hz : z ≠ p := fun e => by subst e; rw [upd_same] at h; exact hne (Option.some.inj h).symm
  rw [upd_ne hz] at h; exact h
theorem ed_imp2 {R S' : V → Hp → Prop} (h : ED te σ G d l R) (k : ∀ v G', R v G' → Ex G G' → Dw G' d l → S' v G') : ED te σ G d l S' := fun o ho => (h o ho).imp fun v H' ⟨G', o', h1, h2, h3, h4⟩ => ⟨G', o', k _ _ h1 h2 h3, h2, h3, h4⟩
theorem EgT.imp {t : TT} {R R' : Bool → Hp → Prop} (h : EgT t σ H R) (k : ∀ v H', R v H' → R' v H') : EgT t σ H R' := fun H1 e Q q => h H1 e Q fun v H' H2 r e2 => q v H' H2 (k v H' r) e2
theorem eu_meth {C dx : Addr} {m : Str} {sp : Sp} {E : XK} {t : TA} {fs : List (Str × V)} {a : Addr} (h : Ev ta σ H (.ref a)) (ho : H a = some (.ins C dx fs)) (hm : fs.lookup m = none) (hA : EvA t σ H vs) (hs : SpU sp (.ref a :: vs) H xs) : EvU (tMeth C m sp [] E ta t) σ H xs := fun H1 e Q q =>
  h H1 e _ fun H2 e2 => ⟨a, dx, fs, rfl, (e.trans e2) _ _ ho, hm, hA H2 (e.trans e2) _ fun H3 e3 => by
    rw [List.append_nil]
    exact hs H3 ((e.trans e2).trans e3) Q (fun p H4 hp e4 h4 => q p H4 (fresh_back (e2.trans e3) hp) ((e2.trans e3).trans e4) h4) E⟩
end
end Kn

/-! New dicts; tables of first times as dicts. -/
namespace Kn
open PySem PySem.Spec L2 Evl Mw
/-- a new dict -/
def EvD (te : TE) (σ : L2.St) (H : Hp) (kvs : List (Key × V)) : Prop := ∀ H1, Ex H H1 → ∀ Q : VK, (∀ p H2, H1 p = none → Ex H1 H2 → H2 p = some (.dK kvs) → Q (.ref p) H2) → te σ H1 Q
def SpK (sp : Sp) (vs : List V) (H : Hp) (kvs : List (Key × V)) : Prop := ∀ H1, Ex H H1 → ∀ Q : VK, (∀ p H2, H1 p = none → Ex H1 H2 → H2 p = some (.dK kvs) → Q (.ref p) H2) → ∀ E : XK, sp vs H1 Q E
def RetK (kvs : List (Key × V)) (H : Hp) (Q : VK) : Prop := ∀ p, H p = none → ∀ H2, Ex (upd H p (.dK kvs)) H2 → Q (.ref p) H2
theorem RetK.k {sp : Sp} {vs : List V} {H : Hp} {kvs : List (Key × V)} (h : ∀ H1, Ex H H1 → ∀ Q, RetK kvs H1 Q → ∀ E, sp vs H1 Q E) : SpK sp vs H kvs := fun H1 e Q q E => h H1 e Q (fun p hp H2 e2 => q p H2 hp (ex_skip hp e2) (e2 _ _ upd_same)) E
section
variable {K : PySem.W.Frag} {σ : L2.St} {G H : Hp} {ta td te tb ty : TE} {x y z v w : V} {p a d l : Addr} {xs ys vs : List V} {D : Ends} {u : TS} {i : Nat} {kvs : List (Key × V)} {k : Key} {o : Option V}
theorem evd_call {sp : Sp} {E : XK} {ta : TA} (h : EvA ta σ H vs) (hs : SpK sp vs H kvs) : EvD (tCall sp [] E ta) σ H kvs := fun H1 e Q q =>
  h H1 e _ fun H2 e2 => by
    rw [List.append_nil]
    exact hs H2 (e.trans e2) Q (fun p H3 hp e3 h3 => q p H3 (fresh_back e2 hp) (e2.trans e3) h3) E
theorem run_asgK (h : EvD te σ H kvs) (k : ∀ p, H p = none → Run u D (σ.set i (some (.ref p))) (upd H p (.dK kvs))) : Run (tSeq (tAsg te (gName i)) u) D σ H := fun H1 e => h H1 e _ fun p H2 hp e2 h2 => k p (fresh_back e hp) H2 (ex_new (e.trans e2) h2)
theorem run_retK (h : EvD te σ H kvs) (k : ∀ p, H p = none → ∀ H2, Ex (upd H p (.dK kvs)) H2 → D.rt (.ref p) H2) : Run (tSeq (tRet te) u) D σ H := fun H1 e => h H1 e _ fun p H2 hp e2 h2 => k p (fresh_back e hp) H2 (ex_new (e.trans e2) h2)
theorem eg_k (h : EvD te σ H kvs) : Eg te σ H (fun v' H' => ∃ p, v' = .ref p ∧ H p = none ∧ H' = upd H p (.dK kvs)) := fun H1 e Q q => h H1 e Q fun p H2 hp e2 h2 => q _ _ H2 ⟨p, rfl, fresh_back e hp, rfl⟩ (ex_new (e.trans e2) h2)
theorem ed_k (w : Dw G d l) (h : EvD te σ G kvs) : ED te σ G d l (fun v' G' => ∃ p, v' = .ref p ∧ G p = none ∧ p ≠ d ∧ G' = upd G p (.dK kvs)) := fun o ho => by
  have h1 : EvD te σ (upd G d o) kvs := fun H1 e Q q => h H1 (ex_skip w.free e) Q q
  refine (eg_k h1).imp ?_
  rintro v' H' ⟨p, rfl, hp, rfl⟩
  have hpd : p ≠ d := fun e => by subst e; rw [upd_same] at hp; cases hp
  rw [upd_ne hpd] at hp
  exact ⟨upd G p (.dK kvs), o, ⟨p, rfl, hp, hpd, rfl⟩, ex_upd hp, dw_new w hp hpd, ho, upd_swap hpd⟩
theorem ev_lenK (h : EvD ta σ H kvs) : Ev (tCB (fun xs H Q => ∃ a kvs, xs = [V.ref a] ∧ H a = some (.dK kvs) ∧ Q (.int kvs.length) H) (tCons ta tNil)) σ H (.int kvs.length) := fun H1 e Q q => h H1 e _ fun p H2 _ e2 h2 => ⟨p, kvs, rfl, h2, q H2 e2⟩
/-- d.get(k) -/
theorem ev_dget1 (h : Ev td σ H (.ref a)) (hx : H a = some (.dK kvs)) (g : Ev ty σ H (kV k)) : Ev (tDGet1 td ty) σ H ((valV kvs k).getD .non) := fun H1 e Q q =>
  h H1 e _ fun H2 e2 => ⟨a, rfl, .inl ⟨kvs, .inl ((e.trans e2) _ _ hx)⟩, g H2 (e.trans e2) _ fun H3 e3 => ⟨_, DGet.k (((e.trans e2).trans e3) _ _ hx), q H3 (e2.trans e3)⟩⟩
theorem ev_dget1N (h : EvD td σ H kvs) (g : ∀ H', Ex H H' → Ev ty σ H' (kV k)) : Ev (tDGet1 td ty) σ H ((valV kvs k).getD .non) := fun H1 e Q q =>
  h H1 e _ fun p H2 _ e2 h2 => ⟨p, rfl, .inl ⟨kvs, .inl h2⟩, g H2 (e.trans e2) H2 (Ex.refl H2) _ fun H3 e3 => ⟨_, DGet.k (e3 _ _ h2), q H3 (e2.trans e3)⟩⟩
end
/-! ### tables -/
def tabK (l : List (Int × Int)) : List (Key × V) := l.map fun p => ((Sum.inl p.1 : Key), V.int p.2)
theorem tab_len (l : List (Int × Int)) : (tabK l).length = l.length := List.length_map _
theorem tab_val (g : Int) : ∀ l : List (Int × Int), valV (tabK l) (.inl g) = (l.find? fun p => decide (p.1 = g)).map fun p => V.int p.2
  | [] => rfl
  | p :: l => by
    show valV (((Sum.inl p.1 : Key), V.int p.2) :: tabK l) (.inl g) = _
    by_cases c : p.1 = g
    · rw [valV_pos (p := ((Sum.inl p.1 : Key), V.int p.2)) (by rw [← c]), List.find?_cons, decide_eq_true c]; rfl
    · rw [valV_neg (p := ((Sum.inl p.1 : Key), V.int p.2)) (fun e => c (Sum.inl.inj e)), tab_val g l, List.find?_cons, decide_eq_false c]
theorem tab_some (g : Int) (l : List (Int × Int)) : (valV (tabK l) (.inl g)).isSome = decide (g ∈ l.map (·.1)) := by
  rw [tab_val, Option.isSome_map]
  by_cases c : g ∈ l.map (·.1)
  · rw [decide_eq_true c]
    obtain ⟨p, hp, e⟩ := List.mem_map.mp c
    rw [List.find?_isSome]
    exact ⟨p, hp, decide_eq_true e⟩
  · rw [decide_eq_false c]
    cases h : l.find? fun p => decide (p.1 = g) with
    | none => rfl
    | some p =>
      have h1 := List.find?_some h
      have h2 := List.mem_of_find?_eq_some h
      exact absurd (List.mem_map.mpr ⟨p, h2, of_decide_eq_true h1⟩) c
theorem tab_snoc {l : List (Int × Int)} {g t : Int} (h : g ∉ l.map (·.1)) : putK (tabK l) (.inl g) (.int t) = tabK (l ++ [(g, t)]) := by
  rw [putK_new _ (by
    have := tab_some g l
    rw [decide_eq_false h] at this
    cases hv : valV (tabK l) (.inl g) with
    | none => rfl
    | some v => rw [hv] at this; cases this)]
  unfold tabK
  rw [List.map_append]
  rfl
/-- what a table says of a rest -/
def getV (l : List (Int × Int)) (g : Int) : V := (valV (tabK l) (.inl g)).getD .non
theorem getV_sc (l : List (Int × Int)) (g : Int) : getV l g = .non ∨ ∃ t, getV l g = .int t := by
  unfold getV
  rw [tab_val]
  cases l.find? fun p => decide (p.1 = g) with
  | none => exact .inl rfl
  | some p => exact .inr ⟨p.2, rfl⟩
end Kn

/-! Dict comprehensions, sorted keys. -/
namespace Kn
open PySem PySem.Spec L2 Evl Mw
/-- a list of ints in order -/
def srt (l : List Int) : List Int := l.mergeSort fun a b => decide (a ≤ b)
theorem srt_perm (l : List Int) : (srt l).Perm l := List.mergeSort_perm l _
theorem srt_le (l : List Int) : (srt l).Pairwise (· ≤ ·) := by
  have h := List.pairwise_mergeSort (le := fun a b : Int => decide (a ≤ b)) (fun a b c h1 h2 => by
    have h1 := of_decide_eq_true h1
    have h2 := of_decide_eq_true h2
    exact decide_eq_true (by omega)) (fun a b => by
    rw [Bool.or_eq_true, decide_eq_true_eq, decide_eq_true_eq]; omega) l
  exact h.imp fun h => of_decide_eq_true h
theorem srt_uniq {a b : List Int} (h1 : a.Pairwise (· ≤ ·)) (h2 : b.Pairwise (· ≤ ·)) (p : a.Perm b) : a = b := List.Perm.eq_of_pairwise (fun x y _ _ h h' => Int.le_antisymm h h') h1 h2 p
theorem srt_of {a l : List Int} (h1 : a.Pairwise (· ≤ ·)) (p : a.Perm l) : a = srt l := srt_uniq h1 (srt_le l) (p.trans (srt_perm l).symm)
/-- strictly rising, the same members -/
theorem srt_mem {a l : List Int} (h1 : a.Pairwise (· < ·)) (hn : l.Nodup) (hm : ∀ k, k ∈ a ↔ k ∈ l) : a = srt l := by
  have h0 : a.Nodup := h1.imp fun h => by omega
  exact srt_of (h1.imp fun h => by omega) ((List.perm_ext_iff_of_nodup h0 hn).mpr hm)
def dcT {α : Type} (kf : α → Key) (vf : α → V) (l : List α) : List (Key × V) := l.foldl (fun acc c => putK acc (kf c) (vf c)) []
theorem dcT_snoc {α : Type} (kf : α → Key) (vf : α → V) (l : List α) (c : α) : dcT kf vf (l ++ [c]) = putK (dcT kf vf l) (kf c) (vf c) := by unfold dcT; rw [List.foldl_append]; rfl
theorem put_len (c : List (Key × V)) (k : Key) (x : V) : (putK c k x).length ≤ c.length + 1 := by
  unfold putK
  split
  · rw [List.length_map]; omega
  · simp
theorem dcT_len {α : Type} (kf : α → Key) (vf : α → V) (l : List α) : (dcT kf vf l).length ≤ l.length := by
  unfold dcT
  have : ∀ (l : List α) (acc : List (Key × V)), (l.foldl (fun acc c => putK acc (kf c) (vf c)) acc).length ≤ acc.length + l.length := by
    intro l
    induction l with
    | nil => intro acc; simp
    | cons c l ih =>
      intro acc
      have h1 := ih (putK acc (kf c) (vf c))
      have h2 := put_len acc (kf c) (vf c)
      rw [List.foldl_cons, List.length_cons]
      omega
  have := this l []
  rw [List.length_nil] at this
  omega
section
variable {K : PySem.W.Frag} {σ : L2.St} {G H : Hp} {ta td te tk tv ty : TE} {x y z v w : V} {p a d l : Addr} {xs ys vs : List V} {i j : Nat} {kvs : List (Key × V)} {k : Key}
theorem evd_dc {α : Type} {wi : TI} {vs : List Nat} {l : List α} {g : α → V} (kf : α → Key) (vf : α → V) (h : EvJ wi σ H (l.map g)) (hz : l.length ≤ 100000) (hw : ∀ x, wipe ((wipe σ vs).set j (some x)) vs = wipe σ vs)
    (hk : ∀ c, c ∈ l → Ev tk ((wipe σ vs).set j (some (g c))) H (kV (kf c))) (hv : ∀ c, c ∈ l → Ev tv ((wipe σ vs).set j (some (g c))) H (vf c)) :
    EvD (tDc wi (gName j) tYes tk tv vs) σ H (dcT kf vf l) := fun H0 e Q q => h H0 e _ fun J H1 e1 pu Dl hD => by
  have hlen : (l.map g).length = l.length := List.length_map _
  refine ⟨fun i m H' => m = l.length - i ∧ i ≤ l.length ∧ Ex H1 H' ∧ H' Dl = some (.dK (dcT kf vf (l.take i))), ⟨l.length, by simp, Nat.zero_le _, Ex.new hD, by simp [upd_same, dcT]⟩, ?_⟩
  rintro i m H' ⟨rfl, hi, e2, hl⟩
  by_cases hlt : i < l.length
  · refine .inr ⟨pu.go i H' e2 (by omega), fun H5 => i + 1 ≤ l.length ∧ Ex H1 H5 ∧ H5 Dl = some (.dK (dcT kf vf (l.take (i + 1)))), fun H5 p' => ⟨l.length - (i + 1), by omega, rfl, p'⟩, fun x H'' y => ?_⟩
    obtain ⟨e5, hx'⟩ := pu.yld i H' x H'' e2 (by omega) y
    subst e5
    obtain ⟨c, hc, rfl⟩ : ∃ c, l[i]? = some c ∧ x = g c := by
      rw [List.getElem?_map, List.getElem?_eq_getElem hlt] at hx'
      exact ⟨l[i], List.getElem?_eq_getElem hlt, (Option.some.inj hx').symm⟩
    have hm : c ∈ l := List.mem_of_getElem? hc
    refine ⟨hw _, ?_⟩
    have tk' : l.take (i + 1) = l.take i ++ [c] := by rw [List.take_add_one, hc]; rfl
    show tk ((wipe σ vs).set j (some (g c))) H'' _
    refine hk c hm H'' ((e.trans e1).trans e2) _ fun H3 e3 => ?_
    refine hv c hm H3 (((e.trans e1).trans e2).trans e3) _ fun H4 e4 => ⟨_, kf c, rfl, e4 _ _ (e3 _ _ hl), ?_, hlt, ?_, ?_⟩
    · have l1 := dcT_len kf vf (l.take i)
      rw [List.length_take] at l1
      exact Nat.lt_of_le_of_lt (show _ ≤ 100000 by omega) (by decide)
    · intro a' o' q'
      rw [upd_ne (ne_of_none q' hD)]
      exact ((e2.trans e3).trans e4) a' o' q'
    · rw [upd_same, tk', dcT_snoc]
  · have e5 : i = l.length := by omega
    subst e5
    refine .inl ⟨hlen ▸ pu.stop H' e2, q Dl H' (fresh_back e1 hD) (e1.trans e2) ?_⟩
    rw [List.take_length] at hl; exact hl
/-- sorted(d), its keys ints -/
theorem el_sortedD {ks : List Int} (h : EvD td σ H kvs) (hk : kvs.map (·.1) = ks.map Sum.inl) (hl : ks.length < 64) :
    EvL (tCB (fun xs H Q => ∃ (a : Addr) (kvs : List (Key × V)) (ks : List Int), xs = [.ref a] ∧ Rd H a (.dK kvs) ∧ kvs.map (·.1) = ks.map Sum.inl ∧ ks.length < 64 ∧ ∀ (ys : List Int) (p : Addr), ys.Perm ks → ys.Pairwise (· ≤ ·) → H p = none → Q (.ref p) (upd H p (.lst (ys.map V.int)))) (tCons td tNil)) σ H ((srt ks).map V.int) := fun H1 e Q q =>
  h H1 e _ fun p H2 hp e2 h2 => ⟨p, kvs, ks, rfl, .inl h2, hk, hl, fun ys r hperm hle hr => by
    rw [srt_of hle hperm]
    exact q r _ (fresh_back e2 hr) (e2.trans (ex_upd hr)) upd_same⟩
end
/-- the keys of a comprehension over first times -/
theorem dc_keys (f : Nat → Int) (n : Int) (vf : Nat → V) : ∀ T, (dcT (fun t => (Sum.inl (f t % n) : Key)) vf (List.range T)).map (·.1) = ((ft f n T).map (·.1)).map Sum.inl
  | 0 => rfl
  | T + 1 => by
    have ih := dc_keys f n vf T
    rw [List.range_succ, dcT_snoc]
    have hk : ((dcT (fun t => (Sum.inl (f t % n) : Key)) vf (List.range T)).any fun kv => decide (kv.1 = Sum.inl (f T % n))) = decide (f T % n ∈ (ft f n T).map (·.1)) := by
      have e1 : ((dcT (fun t => (Sum.inl (f t % n) : Key)) vf (List.range T)).any fun kv => decide (kv.1 = Sum.inl (f T % n))) = ((dcT (fun t => (Sum.inl (f t % n) : Key)) vf (List.range T)).map (·.1)).any fun k => decide (k = Sum.inl (f T % n)) := by rw [List.any_map]; rfl
      rw [e1, ih, List.any_map]
      by_cases c : f T % n ∈ (ft f n T).map (·.1)
      · rw [decide_eq_true c, List.any_eq_true]
        exact ⟨_, c, decide_eq_true rfl⟩
      · rw [decide_eq_false c, List.any_eq_false]
        intro x hx
        show ¬ decide ((Sum.inl x : Key) = Sum.inl (f T % n)) = true
        rw [decide_eq_true_eq]
        intro e
        exact c (Sum.inl.inj e ▸ hx)
    by_cases c : f T % n ∈ (ft f n T).map (·.1)
    · rw [ft_yes c]
      unfold putK
      rw [hk, decide_eq_true c, if_pos rfl, List.map_map, ← ih]
      refine List.map_congr_left fun p _ => ?_
      show (if p.1 = _ then (p.1, _) else p).1 = p.1
      split <;> rfl
    · rw [ft_no c]
      unfold putK
      rw [hk, decide_eq_false c, if_neg (by simp), List.map_append, ih, List.map_append, List.map_append]
      rfl
section
variable {K : PySem.W.Frag} {σ : L2.St} {H : Hp} {te : TE} {vs : List V} {D : Ends} {u : TS} {C : Addr} {sp : Sp} {E : XK}
/-! ### what raises -/
theorem run_dropX {ta : TA} (h : EvA ta σ H vs) (k : ∀ H1, Ex H H1 → ∀ Q, sp vs H1 Q E) : Run (tSeq (tDrop (tCall sp [] E ta)) u) D σ H := fun H1 e => h H1 e _ fun H2 e2 => by
  rw [List.append_nil]
  exact k H2 (e.trans e2) _
theorem run_asgX {g : TG} {ta : TA} (h : EvA ta σ H vs) (k : ∀ H1, Ex H H1 → ∀ Q, sp vs H1 Q E) : Run (tSeq (tAsg (tCall sp [] E ta) g) u) D σ H := fun H1 e => h H1 e _ fun H2 e2 => by
  rw [List.append_nil]
  exact k H2 (e.trans e2) _
theorem run_dropXG {ta : TA} {S : List V → Hp → Prop} (h : EgA ta σ H S) (k : ∀ vs H', S vs H' → ∀ H1, Ex H' H1 → ∀ Q, sp vs H1 Q E) : Run (tSeq (tDrop (tCall sp [] E ta)) u) D σ H := fun H1 e => h H1 e _ fun vs H' H2 s e2 => by
  rw [List.append_nil]
  exact k vs H' s H2 e2 _
theorem run_dropXM {ta : TA} (h : EvA ta σ H vs) (k : ∀ H1, Ex H H1 → ∀ x dx, H1 x = none → H1 dx = none → dx ≠ x → ∀ Q, sp (.ref x :: vs) (upd (upd H1 dx (.own x)) x (.ins C dx [])) Q E) : Run (tSeq (tDrop (tMake C sp [] E ta)) u) D σ H := fun H1 e => h H1 e _ fun H2 e2 x dx hx hdx hne => by
  rw [List.append_nil]
  exact k H2 (e.trans e2) x dx hx hdx hne _
theorem run_dropXm {m : Str} {S : V → Hp → Prop} (h : Eg te σ H S) (k : ∀ v H', S v H' → ∃ a dx fs, v = .ref a ∧ H' a = some (.ins C dx fs) ∧ fs.lookup m = none ∧ ∀ H1, Ex H' H1 → ∀ Q, sp [v] H1 Q E) : Run (tSeq (tDrop (tMeth C m sp [] E te tNil)) u) D σ H := fun H1 e => h H1 e _ fun v H' H2 s e2 => by
  obtain ⟨a, dx, fs, rfl, h1, h2, h3⟩ := k v H' s
  exact ⟨a, dx, fs, rfl, e2 _ _ h1, h2, h3 H2 e2 _⟩
end
end Kn

/-! set(xs), xs a list of ints. -/
namespace Kn
open PySem PySem.Spec L2 Evl Mw PyProof.Rows
section
variable {P : Program} {w : World} {A : Around} {E : Value → Shared → Prop} {s : Shared}
/-- an empty set that was just made -/
abbrev emS (w : World) : Obj := { cls := .type "set", dict := none, data := .set #[] 0 (.fresh 0 0 (!w.params.followText "set-order")) }
theorem set_ofList {l : Addr} {items : Array Value} (ns : List Int) {Q : Value → Shared → Prop} (hh : A.handled = none) (hl : s.heap.IsList l items) (hit : IntsAre items.toList ns) (hb : ns.length + 1 < scanBound)
    (h : ∀ (h' : Heap) (tk c : Nat), SetR w h' s.heap.objs.size (fun j => decide (j ∈ ns)) c → c ≤ ns.length → (∀ b o, s.heap.get? b = some o → h'.get? b = some o) → Q (.ref s.heap.objs.size) { s with heap := h', toks := tk }) :
    wpAny (model P w) A (call (.type "set") [.ref l]) Q E s := by
  have hsize : items.size = ns.length := by
    have q := IntsAre.length hit
    rw [Array.length_toList] at q
    exact q
  obtain ⟨c, tl, hm0⟩ := F.called_set.mro
  have hm1 := F.called_set.made
  have hm2 := F.called_set.sub
  refine wpAny_call (codeAny_of_tree ?_)
  show wpAny _ _ (callAny (.type "set") _) _ _ _
  refine wpAny_pure ⟨Code.quiet_builtin _ (by decide +kernel), codeAny_builtin F.entry_type_call ?_⟩
  rw [Around.under_plain (weight_type_call_type "set" [.ref l] []) rfl]
  have q1 := F.called_set.notType
  have q2 := F.called_set.canCreate
  have q3 := F.typeCall_set_1 (.ref l)
  repeat (any_goals (first | assumption | wp_step))

  refine codeAny_mono (code_set_led1 (.ref l) (E := E) (Q₁ := fun obj s₁ => obj = .ref s.heap.objs.size ∧ s₁ = { s with heap := s.heap.push (emS w) }) ⟨rfl, rfl⟩) fun r s₁ hr => ?_
  cases r with
  | error e => exact hr
  | ok fl =>
    cases fl with
    | ret obj =>
      obtain ⟨rfl, rfl⟩ := hr
      have hobj : (s.heap.push (emS w)).get? s.heap.objs.size = some (emS w) := Heap.get?_push_size _ rfl
      have htyp : Shared.TypeIs { s with heap := s.heap.push (emS w) } (.ref s.heap.objs.size) "set" := ⟨_, hobj, rfl⟩
      have hlk := F.called_set.init.lookup
      have hbd := F.called_set.init.bind (.ref s.heap.objs.size)
      repeat (any_goals (first | assumption | wp_step))

      refine codeAny_mono (codeAny_call_builtin (R := wants (fun r s2 => r = .none ∧ ∃ h' tk c, s2 = { s with heap := h', toks := tk } ∧ SetR w h' s.heap.objs.size (fun j => decide (j ∈ ns)) c ∧ c ≤ ns.length ∧
          (∀ b o, s.heap.get? b = some o → h'.get? b = some o)) E) F.called_set.init.plain F.entry_set_init (check_set_init_1 htyp ?_)) fun r2 s2 hr2 => ?_
      · obtain ⟨ol, hob, hoc, cap, hod⟩ := hl
        obtain ⟨o1, o2, o3, o4⟩ := ol
        simp only at hoc hod
        subst hoc; subst hod
        have hob1 : (s.heap.push (emS w)).get? l = some { cls := .type "list", dict := o2, data := .seq items cap, slots := o4 } := Heap.get?_push_of_some _ hob
        have hs1 := F.sub_list_set
        have hs2 := F.sub_list_frozenset
        have hne : (Value.type "list" == Value.type "dict") = false := by decide
        have hlp : (s.heap.push (emS w)).IsList l items := ⟨_, hob1, rfl, cap, rfl⟩
        unfold Builtin.«set.__init__» noKeywords Builtin.Frozenset.updateFrom
        generalize hITR : pyIter = ITR
        wp_walk
        subst hITR

        refine wpAny_pyIter_list hlp ?_
        refine wpAny_bind (wpAny_runValue ?_)
        have hlt : l < s.heap.objs.size := Heap.lt_size hob
        have hnh : A.in1.in1.in1.handled = none := by simp [hh]
        have hz0 : (s.heap.push (emS w)).objs.size = s.heap.objs.size + 1 := Heap.size_push ..
        have hne1 : l ≠ (s.heap.push (emS w)).objs.size := by
          rw [Heap.size_push]; exact Nat.ne_of_lt (Nat.lt_succ_of_lt hlt)
        have hnf : s.heap.objs.size ∉ [(s.heap.push (emS w)).objs.size, l] := by
          rw [Heap.size_push]; simp only [List.mem_cons, List.mem_singleton, List.not_mem_nil, or_false, not_or]
          exact ⟨Nat.ne_of_lt (Nat.lt_succ_self _), Nat.ne_of_gt hlt⟩
        have hvs : ∀ (i : Nat) (v : Value), items[i]? = some v → ∃ k t, ns[i]? = some k ∧ v = .int k t := fun i v hv => by
          have hi : i < ns.length := by rw [← hsize]; exact (Array.getElem?_eq_some_iff.mp hv).1
          obtain ⟨t, e⟩ := PyProof.Rows.IntsAre.int_at hit i v (by rw [Array.getElem?_toList]; exact hv)
          refine ⟨ns[i], t, List.getElem?_eq_getElem hi, ?_⟩
          rw [e, List.getD_eq_getElem?_getD, List.getElem?_eq_getElem hi] <;> rfl
        refine set_update_ints ((Walks.list hnh _ l hne1 items).toS) s.heap.objs.size
          hnf ns hsize hb hvs (items.size - 0) 0 _ (by omega) (Nat.zero_le _)
          ⟨⟨_, Heap.get?_push_size _ rfl, rfl, rfl⟩, (hlp.push _)⟩ ?hS0 ?hR
        case hS0 =>
          have hg0 : ((s.heap.push (emS w)).push { cls := .type "list_iterator", data := .fields #[.ref l, .int 0 0] }).get? s.heap.objs.size
              = some (emS w) := Heap.get?_push_of_some _ hobj
          exact ⟨0, Nat.le_refl 0, setR_new_at hg0⟩
        case hR =>
          intro s' c' hm hcnt hfin
          obtain ⟨h', g2, d', tk', os'⟩ := s'
          have eg1 : g2 = s.gens := hm.gens
          have ed1 : d' = s.drawn := hm.drawn
          have eo1 : os' = s.os := hm.os
          subst eg1; subst ed1; subst eo1
          show wpAny _ _ _ _ _ _
          refine wpAny_pure ?_
          show wpAny _ _ (ret Value.none) _ _ _
          rw [hsize] at hcnt
          refine wpAny_pure ⟨rfl, h', tk', c', rfl, hfin, hcnt, fun b o e => ?_⟩
          have hc0 : b < s.heap.objs.size := Heap.lt_size e
          have hc1 : b ≠ s.heap.objs.size := Nat.ne_of_lt hc0
          have hc2 : b ≠ (s.heap.push (emS w)).objs.size := by
            rw [Heap.size_push]; exact Nat.ne_of_lt (Nat.lt_succ_of_lt hc0)
          exact hm.heap b o (by simp only [List.mem_cons, List.mem_singleton, List.not_mem_nil, or_false, not_or]; exact ⟨hc1, hc2⟩) (Heap.get?_push_of_some _ (Heap.get?_push_of_some _ e))

      · cases r2 with
        | error e => exact hr2
        | ok fl2 =>
          cases fl2 with
          | ret r =>
            obtain ⟨rfl, h', tk, c', rfl, hfin, hcnt, hkeep⟩ := hr2
            repeat (any_goals (first | assumption | wp_step))
            exact h _ _ _ hfin hcnt hkeep
          | _ => exact hr2.elim
    | _ => exact hr.elim

end

section
variable {X : Cx}
/-- set(xs), xs a list of ints: c members -/
def rSetL (K : PySem.W.Frag) (w : World) : List V → Hp → VK → Prop := fun xs H Q => ∃ l, ∃ ns : List Int, xs = [.ref l] ∧ SqL K H l (ns.map V.int) ∧ ns.length ≤ 4000 ∧
  ∀ p c, H p = none → (∃ ks : List Int, ks.Nodup ∧ (∀ k, k ∈ ks ↔ k ∈ ns) ∧ ks.length = c) → Q (.ref p) (upd H p (SetO w p (fun j => decide (j ∈ ns)) c))
theorem setR_card {w : World} {h : Heap} {a : Addr} {T : Int → Bool} {n : Nat} (R : SetR w h a T n) : ∃ ks : List Int, ks.Nodup ∧ (∀ k, k ∈ ks ↔ T k = true) ∧ ks.length = n := by
  obtain ⟨o, es, ep, t, ho, hex, hd, g, nd, hm, hb, hf, hn, hr, hl⟩ := R
  exact ⟨es.toList.map keyOf, nd, fun k => (hm k).symm, by rw [List.length_map, Array.length_toList, hn]⟩
theorem call_setList (hc : X.calm = true) : CallR X (.type "set") (rSetL X.K X.w) := by
  intro pins s σ H xs us Q I r h
  obtain ⟨l, ns, rfl, hq, hn, q⟩ := h
  obtain ⟨u1, rfl, r1⟩ := vals1 r
  cases r1
  obtain ⟨its, rv, pl, hz⟩ := I.list hq
  refine set_ofList ns (I.ok.hd hc) pl.isList (by simpa using rv.ints) (by unfold scanBound; omega) fun h' tk c R hcl hk => ?_
  have hnew := I.hok.fresh (Nat.le_refl s.heap.objs.size)
  obtain ⟨ks, k1, k2, k3⟩ := setR_card R
  refine ⟨.ref s.heap.objs.size, _, I.laid (t' := tk) (fun b u e => hk b u e) (Nat.le_refl _) (setO_new R), rfl, q _ c hnew ⟨ks, k1, fun k => ?_, k3⟩⟩
  rw [k2 k, decide_eq_true_eq]
/-- len(a set of ints) -/
def rLenSO (w : World) : List V → Hp → VK → Prop := fun xs H Q => ∃ a T n, xs = [.ref a] ∧ H a = some (SetO w a T n) ∧ Q (.int (n : Int)) H
theorem call_lenSO : CallR X (.builtin "len") (rLenSO X.w) := by
  intro pins s σ H xs us Q I r h
  obtain ⟨a, T, n, rfl, ha, q⟩ := h
  obtain ⟨u1, rfl, r1⟩ := vals1 r
  cases r1
  obtain ⟨o, es, ep, t, ho, hex, hd, g, nd, hm, hb, hf, hn, hr, hl⟩ := setO_get I ha
  have hb' : es.size < 4096 := hb
  refine call_len_set ho hex hd hf (by omega) ⟨.int (n : Int), H, I.tok _, ⟨_, by rw [hn]⟩, q⟩
end
section
variable {K : PySem.W.Frag} {w : World} {σ : L2.St} {H : Hp} {te ta : TE} {ns l0 : List Int}
def EvS (w : World) (te : TE) (σ : L2.St) (H : Hp) (ns : List Int) : Prop := ∀ H1, Ex H H1 → ∀ Q : VK, (∀ p c H2, H1 p = none → Ex H1 H2 → H2 p = some (SetO w p (fun j => decide (j ∈ ns)) c) → (∃ ks : List Int, ks.Nodup ∧ (∀ k, k ∈ ks ↔ k ∈ ns) ∧ ks.length = c) → Q (.ref p) H2) → te σ H1 Q
theorem evs_set (h : EvL ta σ H (ns.map V.int)) (hn : ns.length ≤ 4000) : EvS w (tCB (rSetL K w) (tCons ta tNil)) σ H ns := fun H1 e Q q =>
  h H1 e _ fun p H2 _ e2 h2 => ⟨p, ns, rfl, sq_of h2, hn, fun b c hb hk => q b c _ (fresh_back e2 hb) (e2.trans (ex_upd hb)) upd_same hk⟩
theorem card_eq {ks l0 : List Int} (h1 : ks.Nodup) (h2 : l0.Nodup) (h : ∀ k, k ∈ ks ↔ k ∈ ns) (h' : ∀ k, k ∈ l0 ↔ k ∈ ns) : ks.length = l0.length := ((List.perm_ext_iff_of_nodup h1 h2).mpr fun k => (h k).trans (h' k).symm).length_eq
theorem el_sortedS (h : EvS w te σ H ns) (hn : l0.Nodup) (hm : ∀ k, k ∈ l0 ↔ k ∈ ns) (hl : l0.length < 64) : EvL (tCB (rSortedSet w) (tCons te tNil)) σ H ((srt l0).map V.int) := fun H1 e Q q =>
  h H1 e _ fun p c H2 _ e2 h2 ⟨ks, k1, k2, k3⟩ => ⟨p, _, c, rfl, h2, by have := card_eq k1 hn k2 hm; omega, fun ms b hms hmem _ hb => by
    rw [srt_mem hms hn fun k => by rw [hmem k, hm k, decide_eq_true_eq]]
    exact q b _ (fresh_back e2 hb) (e2.trans (ex_upd hb)) upd_same⟩
theorem ev_lenSet (h : EvS w te σ H ns) (hn : l0.Nodup) (hm : ∀ k, k ∈ l0 ↔ k ∈ ns) : Ev (tCB (rLenSO w) (tCons te tNil)) σ H (.int (l0.length : Int)) := fun H1 e Q q =>
  h H1 e _ fun p c H2 _ e2 h2 ⟨ks, k1, k2, k3⟩ => ⟨p, _, c, rfl, h2, by rw [← k3, card_eq k1 hn k2 hm]; exact q H2 e2⟩
end
end Kn

/-! range with a step; slices of lists. -/
namespace Kn
open PySem PySem.Spec L2 Evl Mw
section
variable {K : PySem.W.Frag} {σ : L2.St} {G H : Hp} {ta : TA} {D : Ends} {u : TS} {j : Nat} {d l : Addr}
/-- range(lo, hi, step): n values -/
theorem ei_rng3 {lo hi c : Int} {n : Nat} (h : EvA ta σ H [.int lo, .int hi, .int c]) (hr : RgC lo hi c n) : EvI (iRng3 ta) σ H ((List.range n).map fun i : Nat => V.int (lo + (i : Int) * c)) := fun H1 e R q =>
  h H1 e _ fun H2 e2 => ⟨lo, hi, c, n, rfl, hr, q _ H2 e2 ⟨fun i H' _ hi => by rw [List.length_map, List.length_range] at hi; exact hi, fun i H' x H'' _ hi y => by
      rw [List.length_map, List.length_range] at hi
      obtain ⟨e1, e2⟩ := y
      exact ⟨e1, by rw [List.getElem?_map, List.getElem?_range hi, e2]; rfl⟩, fun H' _ => by rw [List.length_map, List.length_range]; exact Nat.le_refl n⟩⟩
variable {tb : TS} {te ta' tl : TE} {x y z v w : V} {xs ys vs : List V} {a p : Addr} {i : Nat}
/-- a loop that draws, over what stands -/
theorem rd_for {wi : TI} (w : Dw G d l) (h : EvI wi σ G xs) (P : Nat → L2.St → Prop) (h0 : P 0 σ)
    (hs : ∀ i x σ', i < xs.length → xs[i]? = some x → P i σ' → RD tb (LpD D u (fun σ2 H2 => P (i + 1) σ2 ∧ ∃ o, Dro l o ∧ H2 = upd G d o)) (σ'.set j (some x)) G d l) (hd : ∀ σ', P xs.length σ' → RD u D σ' G d l) :
    RD (tSeq (tFor wi (gName j) tb) u) D σ G d l := fun o ho H1 e => h H1 (ex_skip w.free e) _ fun J H2 e2 pu =>
  loop_core (D := D) (u := u) (g := gName j) (tb := tb) pu (fun i σ' H' => P i σ' ∧ ∃ o, Dro l o ∧ H' = upd G d o) ⟨upd G d o, e.trans e2, h0, o, ho, rfl⟩ (fun i σ' H' ⟨_, o', _, e'⟩ => by subst e'; exact ex_upd w.free)
    (fun i x σ' H' hi hx ⟨p, o', ho', e'⟩ H3 e3 => by subst e'; exact hs i x σ' hi hx p o' ho' H3 e3) (fun σ' H' ⟨p, o', ho', e'⟩ => by subst e'; exact hd σ' p o' ho')
theorem rd_unp2 {i j : Nat} (dw : Dw G d l) (h : EvU te σ G [v, w]) (k : RD u D ((σ.set i (some v)).set j (some w)) G d l) : RD (tSeq (tAsg te (gTup K 2 (gCons (gName i) (gCons (gName j) gNil)))) u) D σ G d l := fun o ho =>
  run_unp2 (fun H1 e Q q => h H1 (ex_skip dw.free e) Q q) (k o ho)
theorem rd_unl3X {i j k : Nat} {R : V → Hp → Prop} (h : ED te σ G d l R) (q : ∀ v' G', R v' G' → Ex G G' → Dw G' d l → ∃ a v w z, v' = .ref a ∧ G' a = some (.lst [v, w, z]) ∧ RD u D (((σ.set i (some v)).set j (some w)).set k (some z)) G' d l) : RD (tSeq (tAsg te (gLst K 3 (gCons (gName i) (gCons (gName j) (gCons (gName k) gNil))))) u) D σ G d l := fun o ho H1 e =>
  h o ho H1 e _ fun v' H2 H3 ⟨G', o', r, eG, w', ho', eq⟩ e3 => by
    subst eq
    obtain ⟨a, v, w, z, ev, ha, q2⟩ := q v' G' r eG w'
    subst ev
    have hd : a ≠ d := fun e => by subst e; rw [w'.free] at ha; cases ha
    exact ⟨a, [v, w, z], rfl, sq_of (e3 _ _ (by rw [upd_ne hd]; exact ha)), rfl, v, [w, z], rfl, w, [z], rfl, z, [], rfl, rfl, q2 o' ho' H3 e3⟩
/-- xs.append([..]) -/
theorem run_appL {G : Hp} (hl : Ev ta' σ (upd G p (.lst xs)) (.ref p)) (h : EvL te σ (upd G p (.lst xs)) ys) (hz : xs.length < sizeLine) (q : ∀ r, (upd G p (.lst xs)) r = none → Run u D σ (upd (upd G r (.lst ys)) p (.lst (xs ++ [.ref r])))) :
    Run (tSeq (tDrop (tBM K "list" rAppend ta' (tCons te tNil))) u) D σ (upd G p (.lst xs)) := fun H1 e => hl H1 e _ fun H2 e2 =>
  ⟨Or.inl ⟨rfl, xs, sq_of ((e.trans e2) p _ upd_same)⟩, h H2 (e.trans e2) _ fun r H3 hr e3 h3 => ⟨p, xs, .ref r, rfl, rfl, ((e.trans e2).trans e3) p _ upd_same, hz, by
    have hr0 := fresh_back (e.trans e2) hr
    refine q r hr0 _ fun c oc hc => ?_
    by_cases c1 : c = p
    · subst c1; rw [upd_same] at hc ⊢; exact hc
    · rw [upd_ne c1] at hc ⊢
      by_cases c2 : c = r
      · subst c2; rw [upd_same] at hc; cases hc; exact h3
      · rw [upd_ne c2] at hc
        exact ((e.trans e2).trans e3) c oc (by rw [upd_ne c1]; exact hc)⟩⟩
theorem rd_appL {G : Hp} (w0 : Dw G d l) (hp : G p = none) (hpd : p ≠ d) (hl : Ev ta' σ (upd G p (.lst xs)) (.ref p)) (h : EvL te σ (upd G p (.lst xs)) ys) (hz : xs.length < sizeLine)
    (q : ∀ r, G r = none → r ≠ d → r ≠ p → Dw (upd (upd G r (.lst ys)) p (.lst (xs ++ [.ref r]))) d l → RD u D σ (upd (upd G r (.lst ys)) p (.lst (xs ++ [.ref r]))) d l) :
    RD (tSeq (tDrop (tBM K "list" rAppend ta' (tCons te tNil))) u) D σ (upd G p (.lst xs)) d l := fun o ho => by
  have w1 : (upd G p (.lst xs)) d = none := by rw [upd_ne (Ne.symm hpd)]; exact w0.free
  have hx := ex_upd (o := o) w1
  have e1 : upd (upd G p (.lst xs)) d o = upd (upd G d o) p (.lst xs) := (upd_swap hpd).symm
  rw [e1] at hx ⊢
  refine run_appL (hl.mono hx) (h.mono hx) hz fun r hr => ?_
  have hrd : r ≠ d := fun e => by
    subst e
    rw [upd_ne (Ne.symm hpd), upd_same] at hr; cases hr
  have hrp : r ≠ p := fun e => by subst e; rw [upd_same] at hr; cases hr
  have hr0 : G r = none := by rw [upd_ne hrp, upd_ne hrd] at hr; exact hr
  have e2 : upd (upd (upd G d o) r (.lst ys)) p (.lst (xs ++ [.ref r])) = upd (upd (upd G r (.lst ys)) p (.lst (xs ++ [.ref r]))) d o := by
    rw [upd_swap hrd, upd_swap hpd]
  rw [e2]
  have eG : Ex G (upd (upd G r (.lst ys)) p (.lst (xs ++ [.ref r]))) := (ex_upd hr0).trans (ex_upd (by rw [upd_ne (Ne.symm hrp)]; exact hp))
  exact q r hr0 hrd hrp (w0.ext eG (by rw [upd_ne (Ne.symm hpd), upd_ne (Ne.symm hrd)]; exact w0.free)) o ho
/-- a value made within a try -/
theorem run_asgS {sp : Sp} {E : L2.St → XK} {ta : TA} (h : EvA ta σ H vs) (k : ∀ H1, Ex H H1 → sp vs H1 (fun v H2 => u D (σ.set i (some v)) H2) (E σ)) : Run (tSeq (tAsg (tCallS sp E ta) (gName i)) u) D σ H := fun H1 e => h H1 e _ fun H2 e2 => k H2 (e.trans e2)
theorem cutV_drop (xs : List V) {k : Nat} (hk : k ≤ xs.length) : cutV xs (some (k : Int)) none = xs.drop k := by
  unfold cutV
  simp only [HT.sIx]
  rw [if_neg (by omega), Int.toNat_natCast, Nat.min_eq_left hk, List.take_of_length_le (by rw [List.length_drop]; omega)]
/-- two ways to one end: the end is walked once -/
theorem rd_join {tA tB u : TS} (M : L2.St → Prop) (hu : ∀ σ' G', M σ' → Ex G G' → Dw G' d l → RD u D σ' G' d l) (h : ∀ v : TS, (∀ σ' G', M σ' → Ex G G' → Dw G' d l → RD v D σ' G' d l) → RD (tSeq tA (Evl.tCut tB v)) D σ G d l) : RD (tSeq tA (Evl.tCut tB u)) D σ G d l := h u hu
/-- x op= e -/
theorem run_aug {f : Int → Int → Int} {m n : Int} (hx : σ[i]? = some (some (.int m))) (h : Ev te σ H (.int n)) (k : Run u D (σ.set i (some (.int (f m n)))) H) : Run (tSeq (tAug i te (ipI f)) u) D σ H := fun H1 e => q_aug hx (h.mono e) fun H2 e2 => k H2 (e.trans e2)
end
end Kn

/-! sorted() of the module's table of steps. -/
namespace Kn
open PySem PySem.Spec L2 Evl Mw
open PyProof.Rows (seqObj)
theorem steps_order {ys : List Str} (h : ys.Perm [("f" : Str), "b", "s"]) (hs : PyProof.Rows.sortedS ys = true) : ys = [("b" : Str), "f", "s"] := by
  have hl := h.length_eq
  match ys, hl with
  | [x, y, z], _ =>
    have hx := h.mem_iff (a := x)
    have hy := h.mem_iff (a := y)
    have hz := h.mem_iff (a := z)
    have hnd := h.nodup_iff.mpr (by decide +kernel : [("f" : Str), "b", "s"].Nodup)
    simp only [List.mem_cons, true_or, or_true, true_iff, List.not_mem_nil, or_false] at hx hy hz
    rcases hx with rfl | rfl | rfl <;> rcases hy with rfl | rfl | rfl <;> rcases hz with rfl | rfl | rfl <;>
      first
      | rfl
      | exact absurd hnd (by decide +kernel)
      | exact absurd hs (by decide +kernel)
theorem steps_dict {P : Program} {w : World} {K : PySem.W.Frag} {d : Addr} {h : Heap} (T : StepsAt K w d) (X : K.In h) : ∃ vs : List (Str × Value), h.DictOf (PySem.strKind P w) d vs ∧ vs.map (·.1) = [("f" : Str), "b", "s"] := by
  obtain ⟨t1, t2, t3, u1, u2, u3, n, hk⟩ := T.ex
  obtain ⟨es', n', D⟩ := T.kd
  have e0 := D.at_
  rw [hk] at e0
  have e1 := Option.some.inj e0
  injection e1 with _ _ e2 _
  injection e2 with e3 e4
  subst e3 e4
  refine ⟨[("f", .int 1 u1), ("b", .int (-1) u2), ("s", .int 0 u3)], ⟨_, _, n, X _ _ hk, ⟨rfl, rfl, rfl⟩, rfl, fun e he => ?_, ?_, (by show [("f" : Str), "b", "s"].Nodup; decide +kernel)⟩, rfl⟩
  · obtain ⟨x, t, g1, g2⟩ := D.lit.all e (Array.mem_toList_iff.mpr he)
    exact ⟨x, by rw [g1]; exact strKind_is P w x t, g2⟩
  · exact .cons (strKind_is P w _ _) rfl (.cons (strKind_is P w _ _) rfl (.cons (strKind_is P w _ _) rfl .nil))
section
variable {X : Cx} {d : Addr}
theorem call_sortedKD (hc : X.calm = true) (T : StepsAt X.K X.w d) : CallR X (.builtin "sorted") (fun xs H Q => xs = [.ref d] ∧ ∀ p, H p = none → Q (.ref p) (upd H p (.lst [V.str "b", .str "f", .str "s"]))) := by
  intro pins s σ H xs us Q I r q
  obtain ⟨rfl, q⟩ := q
  obtain ⟨u0, rfl, r0⟩ := vals1 r
  cases r0
  obtain ⟨vs, dd, hks⟩ := steps_dict (P := X.prog) T I.kIn
  obtain ⟨ep, hat⟩ := dd.dictAt
  have hn : vs.length = 3 := by have := congrArg List.length hks; simpa using this
  refine Calls.call_function_entry PyProof.Rows.kind_sorted PyProof.Rows.plain_sorted
    PyProof.Rows.entry_sorted (PyProof.Rows.args_sorted1 _) ?_
  unfold Builtin.«sorted»
  refine wpAny_bind (m := checkCount "sorted" 1 1 _) (wpAny_pure ?_)
  have src := PySem.W.kdl_dict (knd := strKind X.prog X.w) (kvs := vs) (ep := ep) T.low
  refine wpAny_bind (PySem.W.kdu_collect (A := X.A.in1) src (I.ok.hd hc) hat (by rw [hn]; decide) fun h1 tk acc keep items => ?_)
  have hal : acc.toList.length = 3 := by rw [Array.length_toList, items.1, hn]
  have hS : PyProof.Rows.StrsAre acc.toList [("f" : Str), "b", "s"] := by
    have at3 : ∀ j, j < 3 → ∃ x t, [("f" : Str), "b", "s"][j]? = some x ∧ acc.toList[j]? = some (Value.str x t) := fun j hj => by
      have hlt : j < acc.toList.length := by omega
      have hg := List.getElem?_eq_getElem hlt
      obtain ⟨k, x, g1, g2⟩ := items.2 j acc.toList[j] (by rw [← Array.getElem?_toList]; exact hg)
      have g3 : (vs.map (·.1))[j]? = some k := by rw [List.getElem?_map, g1]; rfl
      rw [hks] at g3
      obtain ⟨t, ev⟩ := Value.isStrOf_shape (x := k) (v := acc.toList[j]) g2
      exact ⟨k, t, g3, by rw [hg, ev]⟩
    match hacc : acc.toList, hal with
    | [v1, v2, v3], _ =>
      rw [hacc] at at3
      obtain ⟨x1, t1, a1, b1⟩ := at3 0 (by decide)
      obtain ⟨x2, t2, a2, b2⟩ := at3 1 (by decide)
      obtain ⟨x3, t3, a3, b3⟩ := at3 2 (by decide)
      have c1 := Option.some.inj a1
      have c2 := Option.some.inj a2
      have c3 := Option.some.inj a3
      have d1 := Option.some.inj b1
      have d2 := Option.some.inj b2
      have d3 := Option.some.inj b3
      subst c1 c2 c3 d1 d2 d3
      exact .cons _ _ (.cons _ _ (.cons _ _ .nil))
  have I1 : Inv X pins σ H { s with heap := h1, toks := tk } := I.kept keep
  refine wpAny_bind (wpAny_newList ?_ (by rw [hal]; decide))
  have hoL : (h1.push (seqObj "list" acc.toList.toArray 0)).get? h1.objs.size = some (seqObj "list" acc.toList.toArray 0) := Heap.get?_push_size _ rfl
  show wpAny _ _ _ _ _ { s with heap := h1.push (seqObj "list" acc.toList.toArray 0), toks := tk }
  refine wpAny_bind (wpAny_holding (wpAny_call_entry PyProof.Rows.slot_list_sort ⟨_, hoL, rfl⟩ PyProof.Rows.entry_list_sort
    (PyProof.Rows.list_sort_treeK PyProof.Rows.strKind_oneLt (s := { s with heap := h1.push (seqObj "list" acc.toList.toArray 0), toks := tk }) hoL hS.keysOf (fun v₁ v₂ rest e => PyProof.Rows.keyKind_strs (by rw [← e]; exact hS)) (by rw [hal]; decide) fun st' hp hs => ⟨_, rfl, ?_⟩)
    (PyProof.Rows.args_list_sort _)))
  obtain ⟨ys, g1, g2, g3⟩ := PyProof.Rows.sorted_out_str hS hp hs
  have ey := steps_order g2 g3
  subst ey
  obtain ⟨e', he'⟩ := PyProof.Rows.sortedHeap_at (vs := acc.toList) (out := (PyProof.Rows.arrOf st').map (·.2)) hoL
  refine wpAny_pure ⟨_, rfl, .ref h1.objs.size, upd H h1.objs.size (.lst [V.str "b", .str "f", .str "s"]), I1.laid (t' := tk) (fun b u e => ?_) (Nat.le_refl _) ?_, rfl, q _ (I1.hok.fresh (Nat.le_refl _))⟩
  · have hb : b < h1.objs.size := Heap.lt_size e
    rw [PyProof.Rows.sortedHeap_old (Nat.ne_of_lt hb) (by rw [Heap.size_push]; exact Nat.lt_succ_of_lt hb)]
    exact Heap.get?_push_of_some _ e
  · show ObjOk X.prog X.w _ _ _ (.lst ([("b" : Str), "f", "s"].map V.str))
    exact ⟨by decide, ((PyProof.Rows.arrOf st').map (·.2)).toList, e', vals_of_strs g1, by rw [Array.toArray_toList]; exact he'⟩
theorem call_sortedKDE {K : PySem.W.Frag} {w : World} (hK : X.K = K) (hw : X.w = w) (hc : X.calm = true) (T : StepsAt K w d) : CallR X (.builtin "sorted") (fun xs H Q => xs = [.ref d] ∧ ∀ p, H p = none → Q (.ref p) (upd H p (.lst [V.str "b", .str "f", .str "s"]))) := by
  subst hK hw; exact call_sortedKD hc T
theorem pi_listE {K : PySem.W.Frag} {tg e : Expr} {te : TE} (hK : X.K = K) (he : PE X e te) (hc : X.calm = true := by rfl) : PI X tg e (iList K te) := by
  subst hK; exact pi_list he
end
end Kn

/-! Comprehensions with two fors, the inner one over a list made anew. -/
namespace Kn
open PySem PySem.Spec L2 Evl Mw
section
variable {K : PySem.W.Frag} {σ : L2.St} {H : Hp} {te : TE} {xs : List V} {j j1 : Nat}
def EvIM (wi : TI) (σ : L2.St) (H : Hp) (xs : List V) : Prop := ∀ H1, Ex H H1 → ∀ R : It → Hp → Prop, (∀ J p H2, H1 p = none → Ex H1 H2 → H2 p = some (.lst xs) → Pur J (upd H p (.lst xs)) xs → R J H2) → wi σ H1 R
theorem eim_new (h : EvL te σ H xs) : EvIM (iList K te) σ H xs := fun H1 e R q =>
  h H1 e _ fun p H2 hp e2 h2 => ⟨p, rfl, ⟨xs, sq_of h2⟩, q _ p H2 hp e2 h2 (pur_list (sq_of upd_same))⟩
theorem el_lc2 {α β : Type} {wi wi1 : TI} {vs vs1 : List Nat} {l : List α} {g : α → V} {m : List β} {g1 : β → V} (val : α → β → V) (h : EvJ wi σ H (l.map g)) (hz : l.length * m.length ≤ 100000) (hw : ∀ x, wipe ((wipe σ vs).set j (some x)) vs = wipe σ vs)
    (hw1 : ∀ c, c ∈ l → ∀ x, wipe ((wipe ((wipe σ vs).set j (some (g c))) vs1).set j1 (some x)) vs1 = wipe ((wipe σ vs).set j (some (g c))) vs1)
    (h1 : ∀ c, c ∈ l → EvIM wi1 ((wipe σ vs).set j (some (g c))) H (m.map g1))
    (he : ∀ c, c ∈ l → ∀ b, b ∈ m → Ev te ((wipe ((wipe σ vs).set j (some (g c))) vs1).set j1 (some (g1 b))) H (val c b)) :
    EvL (tLc2 wi (gName j) tYes wi1 (gName j1) tYes te vs vs1) σ H (l.flatMap fun c => m.map (val c)) := fun H0 e Q q => h H0 e _ fun J H1 e1 pu Dl hD => by
  have hlen : (l.map g).length = l.length := List.length_map _
  have hml : (m.map g1).length = m.length := List.length_map _
  have flen : ∀ (l : List α), (l.flatMap fun c => m.map (val c)).length = l.length * m.length := by
    intro l
    induction l with
    | nil => simp
    | cons c l ih => rw [List.flatMap_cons, List.length_append, List.length_map, ih, List.length_cons, Nat.succ_mul, Nat.add_comm]
  refine ⟨fun i k H' => k = l.length - i ∧ i ≤ l.length ∧ Ex H1 H' ∧ H' Dl = some (.lst ((l.take i).flatMap fun c => m.map (val c))), ⟨l.length, by simp, Nat.zero_le _, Ex.new hD, by simp [upd_same]⟩, ?_⟩
  rintro i k H' ⟨rfl, hi, e2, hl⟩
  by_cases hlt : i < l.length
  · refine .inr ⟨pu.go i H' e2 (by omega), fun H5 => i + 1 ≤ l.length ∧ Ex H1 H5 ∧ H5 Dl = some (.lst ((l.take (i + 1)).flatMap fun c => m.map (val c))), fun H5 p' => ⟨l.length - (i + 1), by omega, rfl, p'⟩, fun x H'' y => ?_⟩
    obtain ⟨e5, hx'⟩ := pu.yld i H' x H'' e2 (by omega) y
    subst e5
    obtain ⟨c, hc, rfl⟩ : ∃ c, l[i]? = some c ∧ x = g c := by
      rw [List.getElem?_map, List.getElem?_eq_getElem hlt] at hx'
      exact ⟨l[i], List.getElem?_eq_getElem hlt, (Option.some.inj hx').symm⟩
    have hm : c ∈ l := List.mem_of_getElem? hc
    refine ⟨hw _, ?_⟩
    have tk : l.take (i + 1) = l.take i ++ [c] := by rw [List.take_add_one, hc]; rfl
    show wi1 ((wipe σ vs).set j (some (g c))) H'' _
    have eH := (e.trans e1).trans e2
    refine h1 c hm H'' eH _ fun J1 p H4 hp e4 hp4 pu1 => ?_
    have hpD : p ≠ Dl := fun z => by subst z; rw [hl] at hp; cases hp
    have hpH : H p = none := fresh_back eH hp
    have up : ∀ {H6 : Hp}, Ex H1 H6 → H6 p = some (.lst (m.map g1)) → Ex (upd H p (.lst (m.map g1))) H6 := fun {H6} e6 h6 => ex_new ((e.trans e1).trans e6) h6
    refine ⟨fun t k H6 => k = m.length - t ∧ t ≤ m.length ∧ Ex H1 H6 ∧ H6 p = some (.lst (m.map g1)) ∧ H6 Dl = some (.lst (((l.take i).flatMap fun c => m.map (val c)) ++ (m.take t).map (val c))), ⟨m.length, by simp, Nat.zero_le _, e2.trans e4, hp4, by rw [e4 _ _ hl]; simp⟩, ?_⟩
    rintro t k H6 ⟨rfl, ht, e6, hp6, hl6⟩
    by_cases htl : t < m.length
    · refine .inr ⟨pu1.go t H6 (up e6 hp6) (by omega), fun H7 => t + 1 ≤ m.length ∧ Ex H1 H7 ∧ H7 p = some (.lst (m.map g1)) ∧ H7 Dl = some (.lst (((l.take i).flatMap fun c => m.map (val c)) ++ (m.take (t + 1)).map (val c))), fun H7 p' => ⟨m.length - (t + 1), by omega, rfl, p'⟩, fun x H7 y => ?_⟩
      obtain ⟨e7, hx7⟩ := pu1.yld t H6 x H7 (up e6 hp6) (by omega) y
      subst e7
      obtain ⟨b, hb, rfl⟩ : ∃ b, m[t]? = some b ∧ x = g1 b := by
        rw [List.getElem?_map, List.getElem?_eq_getElem htl] at hx7
        exact ⟨m[t], List.getElem?_eq_getElem htl, (Option.some.inj hx7).symm⟩
      have hbm : b ∈ m := List.mem_of_getElem? hb
      refine ⟨hw1 c hm _, ?_⟩
      have tk1 : m.take (t + 1) = m.take t ++ [b] := by rw [List.take_add_one, hb]; rfl
      show te ((wipe ((wipe σ vs).set j (some (g c))) vs1).set j1 (some (g1 b))) H7 _
      refine he c hm b hbm H7 ((e.trans e1).trans e6) _ fun H8 e8 => ⟨_, e8 _ _ hl6, ?_, htl, ?_, ?_, ?_⟩
      · rw [List.length_append, flen, List.length_map, List.length_take, List.length_take]
        have q1 : (i + 1) * m.length ≤ l.length * m.length := Nat.mul_le_mul_right _ (by omega)
        rw [Nat.succ_mul] at q1
        rw [Nat.min_eq_left (by omega), Nat.min_eq_left (by omega)]
        exact Nat.lt_of_lt_of_le (show i * m.length + t < 100001 by omega) (by decide)
      · intro a' o' q'
        rw [upd_ne (ne_of_none q' hD)]
        exact (e6.trans e8) a' o' q'
      · rw [upd_ne hpD]; exact e8 _ _ hp6
      · rw [upd_same, tk1, List.map_append, ← List.append_assoc]; rfl
    · have e7 : t = m.length := by omega
      subst e7
      refine .inl ⟨hml ▸ pu1.stop H6 (up e6 hp6), hlt, e6, ?_⟩
      rw [hl6, List.take_length, tk, List.flatMap_append]
      simp
  · have e5 : i = l.length := by omega
    subst e5
    refine .inl ⟨hlen ▸ pu.stop H' e2, q Dl H' (fresh_back e1 hD) (e1.trans e2) ?_⟩
    rw [List.take_length] at hl; exact hl
/-- a list that stands + a new list -/
theorem el_catV {ta tb : TE} {ys : List V} {a : Addr} (h : Ev ta σ H (.ref a)) (hx : H a = some (.lst ys)) (g : EvL tb σ H xs) (hz : ys.length + xs.length ≤ 100000) : EvL (tOp rCat ta tb) σ H (ys ++ xs) := fun H1 e Q q =>
  h H1 e _ fun H2 e2 => g H2 (e.trans e2) _ fun p H3 hp e3 h3 => ⟨a, p, ys, xs, rfl, rfl, ((e.trans e2).trans e3) _ _ hx, h3, Nat.le_trans hz (by decide), fun b hb =>
    q b _ (fresh_back (e2.trans e3) hb) ((e2.trans e3).trans (ex_upd hb)) upd_same⟩
theorem el_sortedKD {d : Addr} : EvL (tCB (fun xs H Q => xs = [.ref d] ∧ ∀ p, H p = none → Q (.ref p) (upd H p (.lst [V.str "b", .str "f", .str "s"]))) (tCons (tC (.ref d)) tNil)) σ H [V.str "b", .str "f", .str "s"] := fun H1 e Q q =>
  ⟨rfl, fun p hp => q p _ hp (ex_upd hp) upd_same⟩
end
end Kn

/-! A dict walked by its keys: locked for a while. -/
namespace Kn
open PySem PySem.Spec L2 Evl Mw
section
variable {K : PySem.W.Frag} {σ : L2.St} {H : Hp} {td te : TE} {xs : List V} {j : Nat} {a : Addr} {u : HO} {od : Obj} {kvs : List (Key × V)} {D : Ends} {w : TS}
theorem pur_keys (hx : H a = some (.frz od (.dK kvs))) : Pur (Itk a od kvs) H (kvs.map fun c => kV c.1) :=
  ⟨fun i H' e hi => ⟨e _ _ hx, by rw [List.length_map] at hi; exact hi⟩, fun i H' x H'' e _ y => by
    obtain ⟨e1, k, v, h1, h2⟩ := y
    exact ⟨e1, by rw [List.getElem?_map, h1, h2]; rfl⟩, fun H' e => ⟨e _ _ hx, by rw [List.length_map]; exact Nat.le_refl _⟩⟩
theorem ei_keys (h : Ev td σ H (.ref a)) (hx : H a = some (.frz od (.dK kvs))) : EvI (iKeys td) σ H (kvs.map fun c => kV c.1) := fun H1 e R q =>
  h H1 e _ fun H2 e2 => ⟨a, od, rfl, .inl ⟨kvs, (e.trans e2) _ _ hx, q _ H2 e2 (pur_keys hx)⟩⟩
/-- made while the thing at a is locked -/
theorem el_lock (hx : H a = some u) (mu : Mut (some u)) (h : ∀ od, EvL te σ (upd H a (.frz od u)) xs) : EvL (tLockE te) σ H xs := fun H1 e Q q =>
  ⟨a, u, e _ _ hx, mu, fun od => h od _ (exc e) _ fun p H2 hp e2 h2 => by
    have hpa : p ≠ a := fun z => by subst z; rw [upd_same] at hp; cases hp
    refine ⟨e2 _ _ upd_same, q p (upd H2 a u) (by rw [upd_ne hpa] at hp; exact hp) (fun c o hc => ?_) (by rw [upd_ne hpa]; exact h2)⟩
    by_cases c1 : c = a
    · subst c1
      rw [upd_same, ← hc]
      exact (e _ _ hx).symm
    · rw [upd_ne c1]
      exact e2 c o (by rw [upd_ne c1]; exact hc)⟩
/-- the ends while a is locked -/
def lockD (D : Ends) (w : TS) (a : Addr) (u : HO) (od : Obj) : Ends := ⟨fun σ' H' => H' a = some (.frz od u) ∧ w D σ' (upd H' a u), fun v H' => H' a = some (.frz od u) ∧ D.rt v (upd H' a u), fun σ' H' => H' a = some (.frz od u) ∧ D.bk σ' (upd H' a u), fun σ' H' => H' a = some (.frz od u) ∧ D.ct σ' (upd H' a u)⟩
theorem run_lock {t : TS} (hx : H a = some u) (mu : Mut (some u)) (h : ∀ od, Run t (lockD D w a u od) σ (upd H a (.frz od u))) : Run (tSeq (tLock t) w) D σ H := fun H1 e => ⟨a, u, e _ _ hx, mu, fun od => h od _ (exc e)⟩
/-- unlocked again: what is behind -/
theorem lock_end {G : Hp} (hx : G a = some (.frz od u)) (k : Run w D σ (upd G a u)) : Run tNext (lockD D w a u od) σ G := fun H1 e => ⟨e _ _ hx, k _ (exc e)⟩
theorem run_keys {tb : TS} {D' : Ends} (h : Ev td σ H (.ref a)) (hx : H a = some (.frz od (.dK kvs))) (P : Nat → L2.St → Hp → Prop) (h0 : P 0 σ H) (hP : ∀ i σ' H', P i σ' H' → H' a = some (.frz od (.dK kvs)))
    (hs : ∀ i c σ' H', i < kvs.length → kvs[i]? = some c → P i σ' H' → Run tb (LpD D' tNext (P (i + 1))) (σ'.set j (some (kV c.1))) H') (hd : ∀ σ' H', P kvs.length σ' H' → Run tNext D' σ' H') :
    Run (tFor (iKeys td) (gName j) tb) D' σ H := fun H1 e => h H1 e _ fun H2 e2 => ⟨a, od, rfl, .inl ⟨kvs, (e.trans e2) _ _ hx, by
  have hl : (kvs.map fun c => kV c.1).length = kvs.length := List.length_map _
  exact loop_core (J := Itk a od kvs) (H0 := upd (fun _ => none) a (.frz od (.dK kvs))) (D := D') (u := tNext) (xs := kvs.map fun c => kV c.1) (pur_keys upd_same) P ⟨H, e.trans e2, h0⟩
    (fun i σ' H' q c oc hc => by
      by_cases c1 : c = a
      · subst c1; rw [upd_same] at hc; rw [← hc]; exact hP _ _ _ q
      · rw [upd_ne c1] at hc; cases hc)
    (fun i x σ' H' hi hx' q H1 e => by
      rw [hl] at hi
      rw [List.getElem?_map, List.getElem?_eq_getElem hi] at hx'
      have := (Option.some.inj hx').symm
      subst this
      exact hs i _ σ' H' hi (List.getElem?_eq_getElem hi) q H1 e) (fun σ' H' q => hd σ' H' (by rw [hl] at q; exact q))⟩⟩
theorem DGet.kf {k : Key} (e : H a = some (.frz od (.dK kvs))) : DGet H a (kV k) (valV kvs k) := .inl ⟨kvs, k, .inr ⟨od, e⟩, rfl, rfl⟩
end
/-- a table's entry found by its key -/
theorem tab_get {l : List (Int × Int)} (hn : (l.map (·.1)).Nodup) {c : Int × Int} (h : c ∈ l) : valV (tabK l) (.inl c.1) = some (.int c.2) := by
  rw [tab_val]
  have : l.find? (fun p => decide (p.1 = c.1)) = some c := by
    induction l with
    | nil => cases h
    | cons p l ih =>
      rw [List.map_cons, List.nodup_cons] at hn
      rcases List.mem_cons.mp h with rfl | h
      · rw [List.find?_cons, decide_eq_true rfl]
      · have hne : ¬ p.1 = c.1 := fun e => hn.1 (e ▸ List.mem_map.mpr ⟨c, h, rfl⟩)
        rw [List.find?_cons, decide_eq_false hne]
        exact ih hn.2 h
  rw [this]; rfl
section
variable {K : PySem.W.Frag} {σ : L2.St} {H : Hp} {td te : TE} {j : Nat} {a : Addr} {vs : List Nat} {l : List (Int × Int)}
/-- [d[k] for k in d] -/
theorem el_vals (hx : H a = some (.dK (tabK l))) (hn : (l.map (·.1)).Nodup) (hz : l.length ≤ sizeLine) (hw : ∀ x, wipe ((wipe σ vs).set j (some x)) vs = wipe σ vs) (h : ∀ H', Ev td σ H' (.ref a))
    (h1 : ∀ c, c ∈ l → ∀ H', Ev te ((wipe σ vs).set j (some (.int c.1))) H' (.ref a)) (h2 : ∀ c, c ∈ l → ∀ H', Ev td' ((wipe σ vs).set j (some (.int c.1))) H' (.int c.1)) :
    EvL (tLockE (tLc (iKeys td) (gName j) tYes (tDGet te td') vs)) σ H ((l.map (·.2)).map V.int) := by
  refine el_lock hx trivial fun od => ?_
  rw [List.map_map]
  refine el_lcA (α := Int × Int) (l := l) (g := fun c => V.int c.1) (V.int ∘ fun c : Int × Int => c.2) ?_ hz hw fun c hc => ?_
  · have := (ei_keys (od := od) (kvs := tabK l) (h (upd H a (.frz od (.dK (tabK l))))) upd_same).toJ
    unfold tabK at this
    rw [List.map_map] at this
    exact this
  · exact ev_dget (h1 c hc _) (h2 c hc _) (by
      have := DGet.kf (k := .inl c.1) (H := upd H a (.frz od (.dK (tabK l)))) (a := a) (od := od) (kvs := tabK l) upd_same
      rw [tab_get hn hc] at this
      exact this)
end
end Kn

/-! A list's item set while one draws; blocks cut where a known list has changed. -/
namespace Kn
open PySem PySem.Spec L2 Evl Mw
section
variable {K : PySem.W.Frag} {σ : L2.St} {G G' H : Hp} {ta tb te : TE} {t u : TS} {x y z v w : V} {p a d l : Addr} {xs ys vs : List V} {D : Ends} {i j k : Nat} {R : V → Hp → Prop}
/-- xs[k] = a drawn value -/
theorem rd_setP (h : ED te σ G d l R) (hp : G p = some (.lst xs)) (hpl : l ≠ p) (hv : σ[i]? = some (some (.ref p))) (hk : k < xs.length)
    (q : ∀ v G', R v G' → Ex G G' → Dw (upd G' p (.lst (xs.set k v))) d l → RD u D σ (upd G' p (.lst (xs.set k v))) d l) : RD (tSeq (tAsg te (gSub (tVar i) (tC (.int (k : Int))) L2.rSetL)) u) D σ G d l := fun o ho H1 e =>
  h o ho H1 e _ fun v H2 H3 ⟨G1, o1, r1, e1, w1, ho1, eq1⟩ e3 => by
    subst eq1
    have hp1 : G1 p = some (.lst xs) := e1 _ _ hp
    have hpd : p ≠ d := fun z => by subst z; rw [w1.free] at hp1; cases hp1
    refine (ev_var hv : Ev (tVar i) σ H3 (.ref p)) H3 (Ex.refl H3) _ fun H4 e4 => (ev_c : Ev (tC (.int (k : Int))) σ H3 (.int (k : Int))) H4 e4 _ fun H5 e5 => ⟨p, xs, (k : Int), k, rfl, rfl, ?_, ixN_nat hk, ?_⟩
    · exact ((e3.trans e4).trans e5) _ _ (by rw [upd_ne hpd]; exact hp1)
    · have dw' : Dw (upd G1 p (.lst (xs.set k v))) d l := ⟨by rw [upd_ne (Ne.symm hpd)]; exact w1.free, let ⟨ns, n1, n2⟩ := w1.lst; ⟨ns, by rw [upd_ne hpl]; exact n1, n2⟩⟩
      have := q v G1 r1 e1 dw' o1 ho1 (upd H5 p (.lst (xs.set k v)))
      rw [← upd_swap hpd] at this
      exact this (exc ((e3.trans e4).trans e5))
/-- cut: what is known behind is told by M alone -/
theorem rd_cutX (M : L2.St → Hp → Prop) (h : RD t { D with nx := Up (fun σ' H' => ∃ G' o, M σ' G' ∧ Dw G' d l ∧ Dro l o ∧ H' = upd G' d o) } σ G d l) (q : ∀ σ' G', M σ' G' → Dw G' d l → RD u D σ' G' d l) : RD (Evl.tCut t u) D σ G d l := fun o ho =>
  run_cut (fun σ' H' => ∃ G' o, M σ' G' ∧ Dw G' d l ∧ Dro l o ∧ H' = upd G' d o) (h o ho) fun σ' H' ⟨G', o', m, w1, ho', e⟩ => by subst e; exact q σ' G' m w1 o' ho'
/-- a new list against a value -/
theorem ev_opLV {r : R2} (h : EvL ta σ H xs) (g : ∀ H', Ex H H' → Ev tb σ H' y) (hr : ∀ a H', Ex H H' → H' a = some (.lst xs) → RV r (.ref a) y H' z) : Ev (tOp r ta tb) σ H z := fun H1 e Q q =>
  h H1 e _ fun a H2 _ e2 ha => g H2 (e.trans e2) H2 (Ex.refl H2) _ fun H3 e3 => hr a H3 ((e.trans e2).trans e3) (e3 _ _ ha) H3 (Ex.refl H3) Q fun H4 e4 => q H4 ((e2.trans e3).trans e4)
/-- two new tuples -/
theorem ev_opUU {r : R2} (h : EvU ta σ H xs) (g : EvU tb σ H ys) (hr : ∀ a b H', H' a = some (.tup xs) → H' b = some (.tup ys) → RV r (.ref a) (.ref b) H' z) : Ev (tOp r ta tb) σ H z := fun H1 e Q q =>
  h H1 e _ fun a H2 _ e2 ha => g H2 (e.trans e2) _ fun b H3 _ e3 hb => hr a b H3 (e3 _ _ ha) hb H3 (Ex.refl H3) Q fun H4 e4 => q H4 ((e2.trans e3).trans e4)
theorem ev_opLL {r : R2} (h1 : EvL ta σ H xs) (h2 : EvL tb σ H ys) (hr : ∀ a b H', H' a = some (.lst xs) → H' b = some (.lst ys) → RV r (.ref a) (.ref b) H' z) : Ev (tOp r ta tb) σ H z := fun H1 e Q q =>
  h1 H1 e _ fun a H2 _ e2 ha => h2 H2 (e.trans e2) _ fun b H3 _ e3 hb => hr a b H3 (e3 _ _ ha) hb H3 (Ex.refl H3) Q fun H4 e4 => q H4 ((e2.trans e3).trans e4)
theorem ega_VN {R : V → Hp → Prop} (h1 : Ev ta σ H x) (h2 : ∀ H1, Ex H H1 → Eg tb σ H1 (fun y H' => Ex H1 H' ∧ R y H')) : EgA (tCons ta (tCons tb tNil)) σ H (fun vs H' => Ex H H' ∧ ∃ y, vs = [x, y] ∧ R y H') := fun H1 e Q q =>
  h1 H1 e _ fun H2 e2 => h2 H2 (e.trans e2) H2 (Ex.refl H2) _ fun y H' H3 ⟨e3, r⟩ e4 => q _ H' H3 ⟨(e.trans e2).trans e3, y, rfl, r⟩ e4
/-- a new tuple against one -/
theorem ev_opU2 {r : R2} {ta' : TA} (h : EvU ta σ H xs) (g : EvA ta' σ H ys) (hz : ys.length ≤ 1000) (hr : ∀ a b H', H' a = some (.tup xs) → H' b = some (.tup ys) → RV r (.ref a) (.ref b) H' z) : Ev (tOp r ta (tTup ta')) σ H z := ev_opUU h (eu_tup g (Nat.le_trans hz (by decide))) hr
theorem rv_neSame (h : scal x x = true) : RV rNe x x H (.bl false) := by
  have := rv_ne (H := H) h
  rw [decide_eq_true rfl] at this
  exact this
theorem rv_neNon : RV (rNeD K) .non .non H (.bl false) := fun H1 e Q q => ⟨.none, .none, .non, .non, by decide, by decide, by
  have : (!PyData.eqv .none .none) = false := by decide
  rw [this]; exact q H1 (Ex.refl H1)⟩
/-- the draws are over -/
theorem rd_run (w : Dw G d l) (h : Run u D σ G) : RD u D σ G d l := .of w h
end
end Kn

namespace Lw
open PySem PySem.Spec L2 Evl Kn Mw
def topS (i : Nat) : Stmt := PySem.Challenge.pw_meetwalks_k04_whole_longest_times.main.body.getD i (.Pass ⟨0, 0, 0, 0⟩)
abbrev s_is_whole : Stmt := topS 8
abbrev s_check_size : Stmt := topS 9
abbrev s_check_delay : Stmt := topS 10
abbrev s_offset_at : Stmt := topS 11
abbrev s_common : Stmt := topS 12
abbrev s_pace : Stmt := topS 13
abbrev s_steady : Stmt := topS 14
abbrev s_all_rests : Stmt := topS 15
abbrev s_last_time : Stmt := topS 16
abbrev s_least_times : Stmt := topS 17
abbrev s_is_full : Stmt := topS 19
abbrev s_greatest_time : Stmt := topS 21
abbrev s_latest : Stmt := topS 22
abbrev s_check_pattern : Stmt := topS 23
abbrev s_far_size : Stmt := topS 24
abbrev s_first_times : Stmt := topS 25
abbrev s_greatest_by : Stmt := topS 26
abbrev s_least_start : Stmt := topS 27
abbrev s_pattern : Stmt := topS 28
abbrev s_latest_by : Stmt := topS 29
abbrev s_are_steps : Stmt := topS 33
abbrev s_total : Stmt := topS 34
abbrev s_least_round : Stmt := topS 35
abbrev s_Plan_init : Stmt := inClass (topS 36) 0
abbrev s_Plan_way : Stmt := inClass (topS 36) 1
abbrev s_Plan_drift : Stmt := inClass (topS 36) 2
abbrev s_Plan_eq : Stmt := inClass (topS 36) 4
abbrev s_plain_parts : Stmt := topS 37
abbrev s_l_begin : Stmt := topS 39
abbrev s_l_draw : Stmt := topS 40
abbrev s_l_steps : Stmt := topS 41
abbrev s_l_parts : Stmt := topS 42
abbrev s_l_make : Stmt := topS 43
abbrev s_l_way : Stmt := topS 44
abbrev s_l_offset : Stmt := topS 45
abbrev s_l_ways : Stmt := topS 46
abbrev s_l_offsets : Stmt := topS 47
abbrev s_l_common : Stmt := topS 48
abbrev s_l_pace : Stmt := topS 49
abbrev s_l_times : Stmt := topS 50
abbrev s_l_like : Stmt := topS 51
abbrev s_l_told : Stmt := topS 52
abbrev s_l_latest : Stmt := topS 53
abbrev s_l_full : Stmt := topS 54
abbrev s_law : Stmt := topS 55
structure Tx (K : PySem.W.Frag) (mg : Str → Option Value) (w : World) where
  n_isinstance : mg "isinstance" = none
  n_len : mg "len" = none
  n_abs : mg "abs" = none
  n_max : mg "max" = none
  n_min : mg "min" = none
  n_sum : mg "sum" = none
  n_all : mg "all" = none
  n_sorted : mg "sorted" = none
  n_int : mg "int" = none
  n_bool : mg "bool" = none
  n_str : mg "str" = none
  n_list : mg "list" = none
  n_dict : mg "dict" = none
  n_tuple : mg "tuple" = none
  n_set : mg "set" = none
  n_range : mg "range" = none
  aSteps : Addr
  gSTEPS : mg "STEPS" = some (.ref aSteps)
  st : StepsAt K w aSteps
  gMOST : ∃ u, mg "MOST" = some u ∧ RelV (.int 6) u
  cPlan : Addr
  gPlan : mg "Plan" = some (.ref cPlan)
  clPlan : Cls K cPlan
  nPlan_head : NoAttr K cPlan "head"
  nPlan_ring : NoAttr K cPlan "ring"
  isiPlan : PySem.W.findIn K (.ref cPlan) "__class__" = some (some (.builtin "object.__class__"))
  mroPlan : PySem.W.mroIn K cPlan (.type "object") = some true
  spec : PySem.W.specialIn K (.builtin "object.__class__") "__get__" = some (some (.builtin "getset_descriptor.__get__"))
  takes : PySem.W.takesIn K (.builtin "object.__class__") = some true
  cMeetError : Addr
  gMeetError : mg "MeetError" = some (.ref cMeetError)
  xMeetError : PySem.W.excIn K cMeetError [.type "ValueError", .type "Exception", .type "BaseException", .type "object"] "ValueError.__new__" = true
  kMeetError : PySem.W.keepIn K (.ref cMeetError) = true
  bMeetError : PySem.W.subIn K (.ref cMeetError) (.type "BaseException") = some true
  tMeetError : PySem.W.typeIn K (.ref cMeetError) = some (.type "type")
  cBadPlan : Addr
  gBadPlan : mg "BadPlan" = some (.ref cBadPlan)
  xBadPlan : PySem.W.excIn K cBadPlan [.type "ValueError", .type "Exception", .type "BaseException", .type "object"] "ValueError.__new__" = true
  kBadPlan : PySem.W.keepIn K (.ref cBadPlan) = true
  bBadPlan : PySem.W.subIn K (.ref cBadPlan) (.type "BaseException") = some true
  tBadPlan : PySem.W.typeIn K (.ref cBadPlan) = some (.type "type")
  cBadCase : Addr
  gBadCase : mg "BadCase" = some (.ref cBadCase)
  xBadCase : PySem.W.excIn K cBadCase [.type "ValueError", .type "Exception", .type "BaseException", .type "object"] "ValueError.__new__" = true
  kBadCase : PySem.W.keepIn K (.ref cBadCase) = true
  bBadCase : PySem.W.subIn K (.ref cBadCase) (.type "BaseException") = some true
  tBadCase : PySem.W.typeIn K (.ref cBadCase) = some (.type "type")
  cNoGain : Addr
  gNoGain : mg "NoGain" = some (.ref cNoGain)
  xNoGain : PySem.W.excIn K cNoGain [.type "ValueError", .type "Exception", .type "BaseException", .type "object"] "ValueError.__new__" = true
  kNoGain : PySem.W.keepIn K (.ref cNoGain) = true
  bNoGain : PySem.W.subIn K (.ref cNoGain) (.type "BaseException") = some true
  tNoGain : PySem.W.typeIn K (.ref cNoGain) = some (.type "type")
  cNeverMeet : Addr
  gNeverMeet : mg "NeverMeet" = some (.ref cNeverMeet)
  xNeverMeet : PySem.W.excIn K cNeverMeet [.type "ValueError", .type "Exception", .type "BaseException", .type "object"] "ValueError.__new__" = true
  kNeverMeet : PySem.W.keepIn K (.ref cNeverMeet) = true
  bNeverMeet : PySem.W.subIn K (.ref cNeverMeet) (.type "BaseException") = some true
  tNeverMeet : PySem.W.typeIn K (.ref cNeverMeet) = some (.type "type")
  mGG : PySem.W.exmOne K (.ref cNoGain) (.ref cNoGain) = some true
  mVG : PySem.W.exmOne K (.ref cNeverMeet) (.ref cNoGain) = some false
  mVV : PySem.W.exmOne K (.ref cNeverMeet) (.ref cNeverMeet) = some true
section
variable {P : Program} {w : World} {K : PySem.W.Frag} {mg : Str → Option Value} {base : Heap}
/-- a plan that stands at a -/
def pF (p : Pl) : List (Str × V) := [(("head" : Str), V.str (S p.h)), (("ring" : Str), V.str (S p.r))]
def PlanAt (C : Addr) (H : Hp) (a : Addr) (p : Pl) : Prop := ∃ dx, H a = some (.ins C dx (pF p))
structure POk (p : Pl) : Prop where
  ok : Mw.Ok p
  sh : Stp p.h
  sr : Stp p.r
theorem PlanAt.mono {C : Addr} {H H' : Hp} {a : Addr} {p : Pl} (e : Ex H H') (h : PlanAt C H a p) : PlanAt C H' a p := let ⟨dx, h⟩ := h; ⟨dx, e _ _ h⟩
theorem hd_look (p : Pl) : (pF p).lookup ("head" : Str) = some (.str (S p.h)) := rfl
theorem rg_look (p : Pl) : (pF p).lookup ("ring" : Str) = some (.str (S p.r)) := by
  have : (("ring" : Str) == ("head" : Str)) = false := by decide +kernel
  unfold pF
  rw [List.lookup_cons, this]
  rfl
theorem no_look {m : Str} (p : Pl) (h1 : (m == ("head" : Str)) = false) (h2 : (m == ("ring" : Str)) = false) : (pF p).lookup m = none := by
  unfold pF
  rw [List.lookup_cons, h1]
  show List.lookup m [(("ring" : Str), V.str (S p.r))] = none
  rw [List.lookup_cons, h2]
  rfl
theorem ev_head {ta : TE} {σ : L2.St} {H : Hp} {a : Addr} {p : Pl} (T : Tx K mg w) (h : Ev ta σ H (.ref a)) (hp : PlanAt T.cPlan H a p) : Ev (tFld K ta "head") σ H (.str (S p.h)) := let ⟨_, hp⟩ := hp; ev_fld h hp T.clPlan T.nPlan_head (hd_look p)
theorem ev_ring {ta : TE} {σ : L2.St} {H : Hp} {a : Addr} {p : Pl} (T : Tx K mg w) (h : Ev ta σ H (.ref a)) (hp : PlanAt T.cPlan H a p) : Ev (tFld K ta "ring") σ H (.str (S p.r)) := let ⟨_, hp⟩ := hp; ev_fld h hp T.clPlan T.nPlan_ring (rg_look p)
theorem ev_pmeth {ta : TE} {t : TA} {σ : L2.St} {H : Hp} {a : Addr} {p : Pl} {m : Str} {sp : Sp} {E : XK} {vs : List V} {z : V} (T : Tx K mg w) (h : Ev ta σ H (.ref a)) (hp : PlanAt T.cPlan H a p) (h1 : (m == ("head" : Str)) = false) (h2 : (m == ("ring" : Str)) = false) (hA : EvA t σ H vs) (hs : SpV sp (.ref a :: vs) H z) :
    Ev (tMeth T.cPlan m sp [] E ta t) σ H z := let ⟨_, hp⟩ := hp; ev_meth h hp (no_look p h1 h2) hA hs
theorem stp_ok {p : Pl} (h : POk p) (k : Nat) : ∀ c, c = stp p.h p.r k → isStep c = true := by
  intro c hc
  have r0 := h.ok.r0
  by_cases c1 : k < p.h.length
  · have := stp_head (r := p.r) c1
    rw [← hc] at this
    exact (List.all_eq_true.mp h.sh) c (List.mem_of_getElem? this)
  · have e : stp p.h p.r k = stp p.h p.r (p.h.length + (k - p.h.length) % p.r.length) := by
      unfold stp
      rw [if_neg c1, if_neg (by omega), Nat.add_sub_cancel_left, Nat.mod_mod]
    have := stp_ring (h := p.h) (r := p.r) (k := (k - p.h.length) % p.r.length) (Nat.mod_lt _ r0)
    rw [← e, ← hc] at this
    exact (List.all_eq_true.mp h.sr) c (List.mem_of_getElem? this)
theorem plain_ok {p : Pl} (h : POk p) : POk (plainP p) := by
  have n := plain_norm h.ok.r0
  have hl := h.ok.hl
  have rl := h.ok.rl
  refine ⟨⟨by omega, n.1.r0, by omega⟩, ?_, ?_⟩
  · unfold Stp
    rw [List.all_eq_true]
    intro c hc
    obtain ⟨i, hi⟩ := List.mem_iff_getElem?.mp hc
    have hlt := (List.getElem?_eq_some_iff.mp hi).1
    have := stp_head (h := (plainP p).h) (r := (plainP p).r) hlt
    rw [this, n.1.seq] at hi
    exact stp_ok h i c (Option.some.inj hi).symm
  · unfold Stp
    rw [List.all_eq_true]
    intro c hc
    obtain ⟨i, hi⟩ := List.mem_iff_getElem?.mp hc
    have hlt := (List.getElem?_eq_some_iff.mp hi).1
    have := stp_ring (h := (plainP p).h) (r := (plainP p).r) hlt
    rw [this, n.1.seq] at hi
    exact stp_ok h _ c (Option.some.inj hi).symm
def RetU (xs : List V) (H : Hp) (Q : VK) : Prop := ∀ p, H p = none → ∀ H2, Ex (upd H p (.tup xs)) H2 → Q (.ref p) H2
theorem RetU.u {sp : Sp} {vs xs : List V} {H : Hp} (h : ∀ H1, Ex H H1 → ∀ Q : VK, RetU xs H1 Q → ∀ E : XK, sp vs H1 Q E) : SpU sp vs H xs := fun H1 e Q q E => h H1 e Q (fun b hb H2 e2 => q b H2 hb (ex_skip hb e2) (e2 _ _ upd_same)) E
def RetP (C : Addr) (p : Pl) (H : Hp) (Q : VK) : Prop := ∀ x dx, H x = none → ∀ H2, Ex (upd H x (.ins C dx (pF p))) H2 → Q (.ref x) H2
def NewP (C : Addr) (p : Pl) (H : Hp) : V → Hp → Prop := fun v H' => ∃ x dx, v = .ref x ∧ H x = none ∧ H' = upd H x (.ins C dx (pF p))
theorem RetP.g {sp : Sp} {vs : List V} {H : Hp} {C : Addr} {p : Pl} (h : ∀ H1, Ex H H1 → ∀ Q, RetP C p H1 Q → ∀ E, sp vs H1 Q E) : SpG sp vs H (NewP C p H) := fun H1 e Q q E => h H1 e Q (fun x dx hx H2 e2 => q _ _ H2 ⟨x, dx, rfl, fresh_back e hx, rfl⟩ ((exc e).trans e2)) E
def PartsAt (K : PySem.W.Frag) (H : Hp) (a : Addr) (p : Pl) : Prop := SqL K H a [.str (S p.h), .str (S p.r)]
theorem thenS : ("then " : Str) = S (thenL ++ [32]) := by decide +kernel
theorem blankT : (" " : Str) = S [32] := by decide +kernel
theorem noneT : ("" : Str) = S [] := by decide +kernel
theorem S_dec {l m : List Nat} : decide (V.str (S l) = V.str (S m)) = decide (l = m) := by
  by_cases c : l = m
  · subst c; simp
  · rw [decide_eq_false c, decide_eq_false (fun e => by injection e with e; exact c (S_inj e))]
/-- the offset as a sequence -/
def offF (p q : Pl) (d : Int) : Nat → Int := fun t => off p q d (t : Int)
theorem RetL.l {sp : Sp} {vs xs : List V} {H : Hp} (h : ∀ H1, Ex H H1 → ∀ Q, RetL xs H1 Q → ∀ E, sp vs H1 Q E) : SpL sp vs H xs := fun H1 e Q q E => h H1 e Q (fun p H2 hp e2 h2 => q p H2 hp e2 h2) E
def spNever : Sp := fun _ _ _ _ => False
theorem szl {n : Nat} (h : n ≤ 1000) : n ≤ sizeLine := Nat.le_trans h (by decide)
theorem S_szl {l : List Nat} (h : l.length ≤ 1000) : (S l).length ≤ sizeLine := by rw [S_len]; exact szl h
theorem ea1 {ta : TE} {σ : L2.St} {H : Hp} {x : V} (h : Ev ta σ H x) : EvA (tCons ta tNil) σ H [x] := ea_cons h ea_nil
theorem ea2 {ta tb : TE} {σ : L2.St} {H : Hp} {x y : V} (h : Ev ta σ H x) (h2 : Ev tb σ H y) : EvA (tCons ta (tCons tb tNil)) σ H [x, y] := ea_cons h (ea_cons h2 ea_nil)
theorem ea3 {ta tb tc : TE} {σ : L2.St} {H : Hp} {x y z : V} (h : Ev ta σ H x) (h2 : Ev tb σ H y) (h3 : Ev tc σ H z) : EvA (tCons ta (tCons tb (tCons tc tNil))) σ H [x, y, z] := ea_cons h (ea_cons h2 (ea_cons h3 ea_nil))
theorem ea4 {ta tb tc td : TE} {σ : L2.St} {H : Hp} {x y z v : V} (h : Ev ta σ H x) (h2 : Ev tb σ H y) (h3 : Ev tc σ H z) (h4 : Ev td σ H v) : EvA (tCons ta (tCons tb (tCons tc (tCons td tNil)))) σ H [x, y, z, v] := ea_cons h (ea_cons h2 (ea_cons h3 (ea_cons h4 ea_nil)))
/-! is_whole -/
theorem sc_is_whole : FnScope ["thing"] ["thing"] (defScope s_is_whole) := ⟨rfl, rfl, rfl, by decide +kernel, rfl, by decide +kernel, by decide +kernel⟩
/-- a thing as a whole number -/
def WholeV (K : PySem.W.Frag) (H : Hp) (x : V) (o : Option Int) : Prop := (∃ i, x = .int i ∧ o = some i) ∨ (o = none ∧ ((∃ b, x = .bl b) ∨ ∃ t, (∀ H', Ex H H' → TyX K H' x t) ∧ PySem.W.kitOne K t (.type "int") = some false))
theorem WholeV.mono {H H' : Hp} {x : V} {o : Option Int} (e : Ex H H') (h : WholeV K H x o) : WholeV K H' x o := h.elim .inl fun ⟨ho, h⟩ => .inr ⟨ho, h.elim .inl fun ⟨t, h1, h2⟩ => .inr ⟨t, fun H2 e2 => h1 H2 (e.trans e2), h2⟩⟩
theorem wh_int {H : Hp} {i : Int} : WholeV K H (.int i) (some i) := .inl ⟨i, rfl, rfl⟩
theorem wh_bl {H : Hp} {b : Bool} : WholeV K H (.bl b) none := .inr ⟨rfl, .inl ⟨b, rfl⟩⟩
theorem wh_non {H : Hp} : WholeV K H .non none := .inr ⟨rfl, .inr ⟨_, fun _ _ => .base .non, kit_ty (by decide +kernel)⟩⟩
theorem wh_str {H : Hp} {z : Str} : WholeV K H (.str z) none := .inr ⟨rfl, .inr ⟨_, fun _ _ => .base (.str z), kit_ty (by decide +kernel)⟩⟩
def sp_whole (K : PySem.W.Frag) : Sp := fun vs H Q _ => ∃ x o, vs = [x] ∧ WholeV K H x o ∧ RetV (.bl o.isSome) H Q
theorem use_whole {H : Hp} {x : V} {o : Option Int} (h : WholeV K H x o) : SpV (sp_whole K) [x] H (.bl o.isSome) := fun H1 e Q q E => ⟨x, o, rfl, h.mono e, fun H2 e2 => q H2 e2⟩
theorem ok_is_whole {f : Addr} {fd : FuncData} (F : Fun K "is_whole" "is_whole" s_is_whole f fd) (T : Tx K mg w) : FnOk P w K mg base CX0 1 f fd ["thing"] (sp_whole K) := by
  refine F.ok sc_is_whole (fun vs H Q E h => ?_) (fun cdv A outer s H vs Q E hr h => ?_)
  · obtain ⟨x, o, rfl, _⟩ := h; rfl
  · obtain ⟨x, o, rfl, hw, k⟩ := h
    refine ⟨_, (pss_cons (ps_ret (pe_and (pe_callB call_isi (by rfl) T.n_isinstance b_isinstance (pa_cons (pv 0) (pa_cons (pe_bltn (v := .ty "int") (by rfl) T.n_int b_int rfl) pa_nil))) (pe_one (pe_not (pe_callB call_isi (by rfl) T.n_isinstance b_isinstance (pa_cons (pv 0) (pa_cons (pe_bltn (v := .ty "bool") (by rfl) T.n_bool b_bool rfl) pa_nil)))))))
          pss_nil), Run.start (σ := [some x]) rfl ?_⟩
    rcases hw with ⟨i, rfl, rfl⟩ | ⟨rfl, ⟨b, rfl⟩ | ⟨t, h1, h2⟩⟩
    · exact run_ret (v := .bl true) (ev_is (ev_andV (a := true) (ev_isi (ev_var rfl) ev_c (.ty "int") (fun _ _ => .base (.int i)) (kit_ty (by decide +kernel))) fun _ => ev_notV (ev_isi (b := false) (ev_var rfl) ev_c (.ty "bool") (fun _ _ => .base (.int i)) (kit_ty (by decide +kernel)))) rfl) fun H2 e2 => k H2 e2
    · exact run_ret (v := .bl false) (ev_is (ev_andV (a := true) (ev_isi (ev_var rfl) ev_c (.ty "int") (fun _ _ => .base (.bl b)) (kit_ty (by decide +kernel))) fun _ => ev_notV (ev_isi (b := true) (ev_var rfl) ev_c (.ty "bool") (fun _ _ => .base (.bl b)) (kit_ty (by decide +kernel)))) rfl) fun H2 e2 => k H2 e2
    · exact run_ret (v := .bl false) (ev_is (ev_andV (a := false) (b := false) (ev_isi (ev_var rfl) ev_c (.ty "int") h1 h2) fun h => nomatch h) rfl) fun H2 e2 => k H2 e2
/-! check_size -/
theorem sc_check_size : FnScope ["n"] ["n"] (defScope s_check_size) := ⟨rfl, rfl, rfl, by decide +kernel, rfl, by decide +kernel, by decide +kernel⟩
/-- a check: passed or the error -/
def Chk (b : Bool) (C : Addr) (H : Hp) (Q : VK) (E : XK) : Prop := (b = true ∧ RetV .non H Q) ∨ (b = false ∧ ∀ H', Ex H H' → E (.ref C) none H')
def sizeOk (o : Option Int) : Bool := match o with | some i => decide (1 ≤ i) | none => false
def sp_csize (T : Tx K mg w) : Sp := fun vs H Q E => ∃ x o, vs = [x] ∧ WholeV K H x o ∧ Chk (sizeOk o) T.cBadCase H Q E
theorem ok_check_size {f : Addr} {fd : FuncData} (F : Fun K "check_size" "check_size" s_check_size f fd) (T : Tx K mg w) (c_is_whole : Cal P w K mg base CX0 1 "is_whole" (sp_whole K)) : FnOk P w K mg base (L2.CX P w) 2 f fd ["n"] (sp_csize T) := by
  refine F.okX sc_check_size (fun vs H Q E h => ?_) (fun cdv A outer s H vs Q E hr h => ?_)
  · obtain ⟨x, o, rfl, _⟩ := h; rfl
  · obtain ⟨x, o, rfl, hw, k⟩ := h
    refine ⟨_, (pss_cons (ps_if (PW.pt (pw_or (pt_not (pt_val (pe_cx c_is_whole hr (by decide) (by rfl) pass0 (pa_cons (pv 0) pa_nil)))) (pw_or1 (pt_cmpR op_lt (pv 0) pe_int (nomark _)))))
            (pss_cons (ps_raise rfl (takes_of rfl rfl rfl rfl) (pmk_own0 PySem.F.excBase_ValueError T.xBadCase T.gBadCase T.kBadCase (raises_own T.bBadCase T.tBadCase) (by rfl)))
            pss_nil)
            pss_nil)
          pss_nil), Run.start (σ := [some x]) rfl ?_⟩
    have hx : ∀ i, o = some i → x = .int i := fun i e => by
      rcases hw with ⟨j, rfl, rfl⟩ | ⟨rfl, _⟩
      · rw [Option.some.inj e]
      · cases e
    refine run_if (b := !sizeOk o) (et_is (et_or (a := !o.isSome) (b := !sizeOk o) (et_not (et_B (ev_call0 (ea1 (ev_var rfl)) (use_whole hw)))) fun h => ?_) ?_) (fun hb => ?_) (fun hb => run_end ?_)
    · cases o with
      | none => cases h
      | some i =>
        have := hx i rfl
        subst this
        refine et_is (et_test (ev_op (ev_var rfl) ev_c rv_I0)) ?_
        unfold sizeOk
        by_cases c : i < 1
        · rw [decide_eq_true c]; simp; omega
        · rw [decide_eq_false c]; simp; omega
    · cases o <;> simp [sizeOk]
    · rcases k with ⟨h1, _⟩ | ⟨_, k⟩
      · rw [h1] at hb; cases hb
      · exact fun H2 e2 => k H2 e2
    · rcases k with ⟨_, k⟩ | ⟨h1, _⟩
      · exact run_next fun H2 e2 => k H2 e2
      · rw [h1] at hb; cases hb
/-! check_delay -/
theorem sc_check_delay : FnScope ["d"] ["d"] (defScope s_check_delay) := ⟨rfl, rfl, rfl, by decide +kernel, rfl, by decide +kernel, by decide +kernel⟩
def sp_cdelay (T : Tx K mg w) : Sp := fun vs H Q E => ∃ x o, vs = [x] ∧ WholeV K H x o ∧ Chk o.isSome T.cBadCase H Q E
theorem ok_check_delay {f : Addr} {fd : FuncData} (F : Fun K "check_delay" "check_delay" s_check_delay f fd) (T : Tx K mg w) (c_is_whole : Cal P w K mg base CX0 1 "is_whole" (sp_whole K)) : FnOk P w K mg base (L2.CX P w) 2 f fd ["d"] (sp_cdelay T) := by
  refine F.okX sc_check_delay (fun vs H Q E h => ?_) (fun cdv A outer s H vs Q E hr h => ?_)
  · obtain ⟨x, o, rfl, _⟩ := h; rfl
  · obtain ⟨x, o, rfl, hw, k⟩ := h
    refine ⟨_, (pss_cons (ps_if (pt_not (pt_val (pe_cx c_is_whole hr (by decide) (by rfl) pass0 (pa_cons (pv 0) pa_nil))))
            (pss_cons (ps_raise rfl (takes_of rfl rfl rfl rfl) (pmk_own0 PySem.F.excBase_ValueError T.xBadCase T.gBadCase T.kBadCase (raises_own T.bBadCase T.tBadCase) (by rfl)))
            pss_nil)
            pss_nil)
          pss_nil), Run.start (σ := [some x]) rfl ?_⟩
    refine run_if (b := !o.isSome) (et_not (et_B (ev_call0 (ea1 (ev_var rfl)) (use_whole hw)))) (fun hb => ?_) (fun hb => run_end ?_)
    · rcases k with ⟨h1, _⟩ | ⟨_, k⟩
      · rw [h1] at hb; cases hb
      · exact fun H2 e2 => k H2 e2
    · rcases k with ⟨_, k⟩ | ⟨h1, _⟩
      · exact run_next fun H2 e2 => k H2 e2
      · rw [h1] at hb; cases hb
/-! total -/
theorem sc_total : FnScope ["steps", "step"] ["steps"] (defScope s_total) := ⟨rfl, rfl, rfl, by decide +kernel, rfl, by decide +kernel, by decide +kernel⟩
def sp_total : Sp := fun vs H Q _ => ∃ l, vs = [.str (S l)] ∧ Stp l ∧ l.length ≤ 1000 ∧ RetV (.int (tot l)) H Q
theorem use_total {l : List Nat} {H : Hp} (hs : Stp l) (hl : l.length ≤ 1000) : SpV sp_total [.str (S l)] H (.int (tot l)) := fun H1 e Q q E => ⟨l, rfl, hs, hl, fun H2 e2 => q H2 e2⟩
theorem ok_total {f : Addr} {fd : FuncData} (F : Fun K "total" "total" s_total f fd) (T : Tx K mg w) : FnOk P w K mg base CX0 1 f fd ["steps"] sp_total := by
  refine F.ok sc_total (fun vs H Q E h => ?_) (fun cdv A outer s H vs Q E hr h => ?_)
  · obtain ⟨l, rfl, _⟩ := h; rfl
  · obtain ⟨l, rfl, hs, hl, k⟩ := h
    refine ⟨_, (pss_cons (ps_ret (pe_callB (cr_sum rfl) (by rfl) T.n_sum b_sum (pa_cons (pe_lc (own := [("step", 1)]) (g := gName 1) rfl sc_total.nd (pi_str (pv 0)) (blkOk_by (own := [("step", 1)]) (N := ["steps", "step"]) (sc := defScope s_total) (by decide +kernel)) (fun _ _ _ _ _ => pg_name (i := 1) sc_total.nd rfl (Or.inl rfl)) (fun _ _ _ _ _ => pts_nil) (fun _ _ _ _ _ => (pe_ix (ix_kdE (K := K) (w := w) rfl rfl) (pe_glob (v := .ref T.aSteps) (by rfl) T.gSTEPS rfl) (pv 1) (fun _ _ => rfl)))) pa_nil)))
          pss_nil), Run.start (σ := [some (.str (S l)), none]) rfl ?_⟩
    refine run_ret (ev_sumNL (ns := l.map sv) ?_) k
    rw [List.map_map]
    refine el_lcA (α := Nat) (l := l) (g := fun c => V.str (S [c])) (V.int ∘ sv) ?_ (szl hl) (fun x => rfl) ?_
    · rw [← S_signs]; exact (ei_str (ev_var rfl)).toJ
    · intro c hc
      exact ev_op ev_c (ev_var rfl) (rv_kd (T.st.get (hs.mem hc)))
/-! Plan.way -/
theorem sc_Plan_way : FnScope ["self", "t", "rest", "rounds"] ["self", "t"] (defScope s_Plan_way) := ⟨rfl, rfl, rfl, by decide +kernel, rfl, by decide +kernel, by decide +kernel⟩
def sp_way (C : Addr) : Sp := fun vs H Q _ => ∃ a p t, vs = [.ref a, .int t] ∧ PlanAt C H a p ∧ POk p ∧ RetV (.int (p.W t)) H Q
theorem use_way {C : Addr} {a : Addr} {p : Pl} {t : Int} {H : Hp} (hp : PlanAt C H a p) (ho : POk p) : SpV (sp_way C) [.ref a, .int t] H (.int (p.W t)) := fun H1 e Q q E => ⟨a, p, t, rfl, hp.mono e, ho, fun H2 e2 => q H2 e2⟩
theorem ok_Plan_way {f : Addr} {fd : FuncData} (F : Fun K "way" "Plan.way" s_Plan_way f fd) (T : Tx K mg w) (c_total : Cal P w K mg base CX0 1 "total" sp_total) : FnOk P w K mg base CX0 2 f fd ["self", "t"] (sp_way T.cPlan) := by
  refine F.ok sc_Plan_way (fun vs H Q E h => ?_) (fun cdv A outer s H vs Q E hr h => ?_)
  · obtain ⟨a, p, t, rfl, _⟩ := h; rfl
  · obtain ⟨a, p, t, rfl, hp, ho, k⟩ := h
    have hl := ho.ok.hl
    have rl := ho.ok.rl
    have r0 := ho.ok.r0
    refine ⟨_, (pss_cons (ps_if (pt_cmpR op_le (pv 1) (pe_callB call_len_str (by rfl) T.n_len b_len (pa_cons (pe_fld (pv 0) rfl) pa_nil)) (nomark _))
            (pss_cons (ps_ret (pe_cx c_total hr (by decide) (by rfl) pass0 (pa_cons (pe_slice sl_str (pe_fld (pv 0) rfl) po_none (po_some (pe_callB (call_max2 rfl) (by rfl) T.n_max b_max (pa_cons (pv 1) (pa_cons pe_int pa_nil))))) pa_nil)))
            pss_nil)
            pss_nil)
          (pss_cons (ps_set (i := 2) sc_Plan_way.nd rfl (Or.inl rfl) (pe_op op_sub (pv 1) (pe_callB call_len_str (by rfl) T.n_len b_len (pa_cons (pe_fld (pv 0) rfl) pa_nil))))
          (pss_cons (ps_set (i := 3) sc_Plan_way.nd rfl (Or.inl rfl) (pe_op op_fdiv (pv 2) (pe_callB call_len_str (by rfl) T.n_len b_len (pa_cons (pe_fld (pv 0) rfl) pa_nil))))
          (pss_cons (ps_ret (pe_op op_add (pe_op op_add (pe_cx c_total hr (by decide) (by rfl) pass0 (pa_cons (pe_fld (pv 0) rfl) pa_nil)) (pe_op op_mul (pv 3) (pe_cx c_total hr (by decide) (by rfl) pass0 (pa_cons (pe_fld (pv 0) rfl) pa_nil)))) (pe_cx c_total hr (by decide) (by rfl) pass0 (pa_cons (pe_slice sl_str (pe_fld (pv 0) rfl) po_none (po_some (pe_op op_mod (pv 2) (pe_callB call_len_str (by rfl) T.n_len b_len (pa_cons (pe_fld (pv 0) rfl) pa_nil))))) pa_nil))))
          pss_nil)))), Run.start (σ := [some (.ref a), some (.int t), none, none]) rfl ?_⟩
    have eh : ∀ {σ : L2.St}, σ[0]? = some (some (.ref a)) → Ev (tFld K (tVar 0) "head") σ H (.str (S p.h)) := fun h => ev_head T (ev_var h) hp
    have er : ∀ {σ : L2.St}, σ[0]? = some (some (.ref a)) → Ev (tFld K (tVar 0) "ring") σ H (.str (S p.r)) := fun h => ev_ring T (ev_var h) hp
    have key : p.W t = wayP p.h p.r t := (wayP_eq p.h p.r r0 t).symm
    refine run_if (et_test (ev_op (ev_var rfl) (ev_lenS (eh rfl) (S_szl (by omega))) rv_I0)) (fun hb => ?_) (fun hb => ?_)
    · have hb := of_decide_eq_true hb
      rw [S_len] at hb
      refine run_ret (ev_call0 (ea1 (ev_slS (eh rfl) eo_none (eo_some (ev_max (ev_var rfl) ev_c)) (S_szl (by omega)))) ?_) k
      rw [cut_take _ (by omega), key]
      unfold wayP
      rw [if_pos hb]
      exact use_total (ho.sh.take _) (by rw [List.length_take]; omega)
    · have hb := of_decide_eq_false hb
      rw [S_len] at hb
      refine run_end ?_
      refine run_asg (ev_op (ev_var rfl) (ev_lenS (eh rfl) (S_szl (by omega))) rv_I0) ?_
      rw [S_len]
      refine run_asg (ev_op (ev_var rfl) (ev_lenS (er rfl) (S_szl (by omega))) (rv_I (by rw [S_len]; exact ⟨by omega, by omega⟩))) ?_
      rw [S_len]
      refine run_ret ?_ k
      rw [key]
      unfold wayP
      rw [if_neg hb]
      refine ev_op (ev_op (ev_call0 (ea1 (eh rfl)) (use_total ho.sh (by omega))) (ev_op (ev_var rfl) (ev_call0 (ea1 (er rfl)) (use_total ho.sr (by omega))) (rv_I (.inr ?_))) rv_I0) ?_ rv_I0
      · have := tot_abs p.r
        exact ⟨by omega, by omega⟩
      · refine ev_call0 (ea1 (ev_slS (er rfl) eo_none (eo_some (ev_op (ev_var rfl) (ev_lenS (er rfl) (S_szl (by omega))) (rv_I (by rw [S_len]; omega)))) (S_szl (by omega)))) ?_
        rw [S_len, cut_take _ (Int.emod_nonneg _ (by omega))]
        exact use_total (ho.sr.take _) (by rw [List.length_take]; omega)
/-! offset_at -/
theorem sc_offset_at : FnScope ["one", "two", "d", "t"] ["one", "two", "d", "t"] (defScope s_offset_at) := ⟨rfl, rfl, rfl, by decide +kernel, rfl, by decide +kernel, by decide +kernel⟩
def sp_offat (C : Addr) : Sp := fun vs H Q _ => ∃ a b p q d t, vs = [.ref a, .ref b, .int d, .int t] ∧ PlanAt C H a p ∧ POk p ∧ PlanAt C H b q ∧ POk q ∧ RetV (.int (off p q d t)) H Q
theorem use_offat {C a b : Addr} {p q : Pl} {d t : Int} {H : Hp} (h1 : PlanAt C H a p) (o1 : POk p) (h2 : PlanAt C H b q) (o2 : POk q) : SpV (sp_offat C) [.ref a, .ref b, .int d, .int t] H (.int (off p q d t)) := fun H1 e Q k E => ⟨a, b, p, q, d, t, rfl, h1.mono e, o1, h2.mono e, o2, fun H2 e2 => k H2 e2⟩
theorem ok_offset_at {f : Addr} {fd : FuncData} (F : Fun K "offset_at" "offset_at" s_offset_at f fd) (T : Tx K mg w) (m_Plan_way : Mth P w K mg base CX0 2 T.cPlan "way" (sp_way T.cPlan)) : FnOk P w K mg base CX0 3 f fd ["one", "two", "d", "t"] (sp_offat T.cPlan) := by
  refine F.ok sc_offset_at (fun vs H Q E h => ?_) (fun cdv A outer s H vs Q E hr h => ?_)
  · obtain ⟨a, b, p, q, d, t, rfl, _⟩ := h; rfl
  · obtain ⟨a, b, p, q, d, t, rfl, h1, o1, h2, o2, k⟩ := h
    refine ⟨_, (pss_cons (ps_ret (pe_op op_sub (pe_mx m_Plan_way hr (by decide) (pv 0) pass0 (pa_cons (pe_op op_sub (pv 3) (pe_callB (call_max2 rfl) (by rfl) T.n_max b_max (pa_cons pe_int (pa_cons (pe_un un_neg (pv 2)) pa_nil)))) pa_nil)) (pe_mx m_Plan_way hr (by decide) (pv 1) pass0 (pa_cons (pe_op op_sub (pv 3) (pe_callB (call_max2 rfl) (by rfl) T.n_max b_max (pa_cons pe_int (pa_cons (pv 2) pa_nil)))) pa_nil))))
          pss_nil), Run.start (σ := [some (.ref a), some (.ref b), some (.int d), some (.int t)]) rfl ?_⟩
    exact run_ret (ev_op (ev_pmeth T (ev_var rfl) h1 (by decide +kernel) (by decide +kernel) (ea1 (ev_op (ev_var rfl) (ev_max ev_c (ev_un_neg (ev_var rfl))) rv_I0)) (use_way h1 o1)) (ev_pmeth T (ev_var rfl) h2 (by decide +kernel) (by decide +kernel) (ea1 (ev_op (ev_var rfl) (ev_max ev_c (ev_var rfl)) rv_I0)) (use_way h2 o2)) rv_I0) k
/-! common -/
theorem sc_common : FnScope ["one", "other"] ["one", "other"] (defScope s_common) := ⟨rfl, rfl, rfl, by decide +kernel, rfl, by decide +kernel, by decide +kernel⟩
def sp_common : Sp := fun vs H Q _ => ∃ m n : Nat, vs = [.int (m : Int), .int (n : Int)] ∧ RetV (.int ((Nat.gcd m n : Nat) : Int)) H Q
theorem use_common {m n : Nat} {H : Hp} : SpV sp_common [.int (m : Int), .int (n : Int)] H (.int ((Nat.gcd m n : Nat) : Int)) := fun H1 e Q q E => ⟨m, n, rfl, fun H2 e2 => q H2 e2⟩
theorem gcd_step (m n : Nat) : Nat.gcd n (m % n) = Nat.gcd m n := by rw [Nat.gcd_comm m n, Nat.gcd_rec n m, Nat.gcd_comm]
theorem ok_common {f : Addr} {fd : FuncData} (F : Fun K "common" "common" s_common f fd) (T : Tx K mg w) : FnOk P w K mg base CX0 1 f fd ["one", "other"] sp_common := by
  refine F.ok sc_common (fun vs H Q E h => ?_) (fun cdv A outer s H vs Q E hr h => ?_)
  · obtain ⟨m, n, rfl, _⟩ := h; rfl
  · obtain ⟨m, n, rfl, k⟩ := h
    refine ⟨_, (pss_cons (ps_while PassesOwn.never (pt_truth (pv 1) (by intro _; rfl))
            (pss_cons (ps_par (i := 0) (j := 1) rfl sc_common.nd rfl rfl (by decide) rfl rfl (pa_cons (pv 1) (pa_cons (pe_op op_mod (pv 0) (pv 1)) pa_nil)) rfl)
            pss_nil))
          (pss_cons (ps_ret (pe_callB call_abs (by rfl) T.n_abs b_abs (pa_cons (pv 0) pa_nil)))
          pss_nil)), Run.start (σ := [some (.int (m : Int)), some (.int (n : Int))]) rfl ?_⟩
    refine run_while (fun r σ' H' => ∃ m' : Nat, Nat.gcd m' r = Nat.gcd m n ∧ σ' = [some (.int (m' : Int)), some (.int (r : Int))] ∧ H = H') n ⟨m, rfl, rfl, rfl⟩ ?_
    rintro r σ' H' ⟨m', hg, rfl, rfl⟩
    refine ⟨decide (r ≠ 0), et_is (et_truI (ev_var rfl)) ?_, fun hb => ?_, fun hb => ?_⟩
    · by_cases c : r = 0
      · subst c; rfl
      · rw [decide_eq_true c]; simp; omega
    · have hr := of_decide_eq_true hb
      refine run_par (ea2 (ev_var rfl) (ev_is (w := .int ((m' % r : Nat) : Int)) (ev_op (ev_var rfl) (ev_var rfl) (rv_I (by omega))) (by rw [← Int.natCast_emod]))) ?_
      exact run_up rfl ⟨m' % r, Nat.mod_lt _ (by omega), r, by rw [gcd_step]; exact hg, rfl, rfl⟩
    · have hr : r = 0 := Classical.not_not.mp (of_decide_eq_false hb)
      subst hr
      rw [Nat.gcd_zero_right] at hg
      refine run_ret (v := .int ((Nat.gcd m n : Nat) : Int)) (ev_is (ev_abs (ev_var rfl)) ?_) fun H2 e2 => k H2 e2
      rw [Int.natAbs_natCast, hg]
/-! Plan.drift -/
theorem sc_Plan_drift : FnScope ["self"] ["self"] (defScope s_Plan_drift) := ⟨rfl, rfl, rfl, by decide +kernel, rfl, by decide +kernel, by decide +kernel⟩
def sp_drift (C : Addr) : Sp := fun vs H Q _ => ∃ a p, vs = [.ref a] ∧ PlanAt C H a p ∧ POk p ∧ RetV (.int (tot p.r)) H Q
theorem use_drift {C : Addr} {a : Addr} {p : Pl} {H : Hp} (hp : PlanAt C H a p) (ho : POk p) : SpV (sp_drift C) [.ref a] H (.int (tot p.r)) := fun H1 e Q q E => ⟨a, p, rfl, hp.mono e, ho, fun H2 e2 => q H2 e2⟩
theorem ok_Plan_drift {f : Addr} {fd : FuncData} (F : Fun K "drift" "Plan.drift" s_Plan_drift f fd) (T : Tx K mg w) (c_total : Cal P w K mg base CX0 1 "total" sp_total) : FnOk P w K mg base CX0 2 f fd ["self"] (sp_drift T.cPlan) := by
  refine F.ok sc_Plan_drift (fun vs H Q E h => ?_) (fun cdv A outer s H vs Q E hr h => ?_)
  · obtain ⟨a, p, rfl, _⟩ := h; rfl
  · obtain ⟨a, p, rfl, hp, ho, k⟩ := h
    have rl := ho.ok.rl
    refine ⟨_, (pss_cons (ps_ret (pe_cx c_total hr (by decide) (by rfl) pass0 (pa_cons (pe_fld (pv 0) rfl) pa_nil)))
          pss_nil), Run.start (σ := [some (.ref a)]) rfl ?_⟩
    exact run_ret (ev_call0 (ea1 (ev_ring T (ev_var rfl) hp)) (use_total ho.sr (by omega))) k
/-! pace -/
theorem sc_pace : FnScope ["one", "two", "first", "second", "steps"] ["one", "two"] (defScope s_pace) := ⟨rfl, rfl, rfl, by decide +kernel, rfl, by decide +kernel, by decide +kernel⟩
def sp_pace (C : Addr) : Sp := fun vs H Q _ => ∃ a b p q, vs = [.ref a, .ref b] ∧ PlanAt C H a p ∧ POk p ∧ PlanAt C H b q ∧ POk q ∧ RetU [.int ((lcmP p q : Nat) : Int), .int (gain p q)] H Q
theorem use_pace {C a b : Addr} {p q : Pl} {H : Hp} (h1 : PlanAt C H a p) (o1 : POk p) (h2 : PlanAt C H b q) (o2 : POk q) : SpU (sp_pace C) [.ref a, .ref b] H [.int ((lcmP p q : Nat) : Int), .int (gain p q)] := RetU.u fun H1 e Q k E => ⟨a, b, p, q, rfl, h1.mono e, o1, h2.mono e, o2, k⟩
theorem lcm_le36 {p q : Pl} (o1 : Mw.Ok p) (o2 : Mw.Ok q) : lcmP p q ≤ 36 := Nat.le_trans (lcm_le p q) (Nat.le_trans (Nat.mul_le_mul o1.rl o2.rl) (by decide))
theorem gcd_pos {p q : Pl} (o1 : Mw.Ok p) : 0 < Nat.gcd p.r.length q.r.length := Nat.gcd_pos_of_pos_left _ o1.r0
theorem lcm_ev {p q : Pl} : (p.r.length : Int) * (q.r.length : Int) / ((Nat.gcd p.r.length q.r.length : Nat) : Int) = ((lcmP p q : Nat) : Int) := by unfold lcmP; rw [← Int.natCast_mul, ← Int.natCast_ediv]
theorem ok_pace {f : Addr} {fd : FuncData} (F : Fun K "pace" "pace" s_pace f fd) (T : Tx K mg w) (c_common : Cal P w K mg base CX0 1 "common" sp_common) (m_Plan_drift : Mth P w K mg base CX0 2 T.cPlan "drift" (sp_drift T.cPlan)) : FnOk P w K mg base CX0 3 f fd ["one", "two"] (sp_pace T.cPlan) := by
  refine F.ok sc_pace (fun vs H Q E h => ?_) (fun cdv A outer s H vs Q E hr h => ?_)
  · obtain ⟨a, b, p, q, rfl, _⟩ := h; rfl
  · obtain ⟨a, b, p, q, rfl, h1, o1, h2, o2, k⟩ := h
    have l1 := o1.ok.rl
    have l2 := o2.ok.rl
    have g1 := gcd_pos (q := q) o1.ok
    have g2 : Nat.gcd p.r.length q.r.length ≤ 6 := Nat.le_trans (Nat.gcd_le_left _ o1.ok.r0) l1
    have t1 := tot_abs p.r
    have t2 := tot_abs q.r
    refine ⟨_, (pss_cons (ps_par (i := 2) (j := 3) rfl sc_pace.nd rfl rfl (by decide) rfl rfl (pa_cons (pe_callB call_len_str (by rfl) T.n_len b_len (pa_cons (pe_fld (pv 0) rfl) pa_nil)) (pa_cons (pe_callB call_len_str (by rfl) T.n_len b_len (pa_cons (pe_fld (pv 1) rfl) pa_nil)) pa_nil)) rfl)
          (pss_cons (ps_set (i := 4) sc_pace.nd rfl (Or.inl rfl) (pe_op op_fdiv (pe_op op_mul (pv 2) (pv 3)) (pe_cx c_common hr (by decide) (by rfl) pass0 (pa_cons (pv 2) (pa_cons (pv 3) pa_nil)))))
          (pss_cons (ps_ret (pe_tup (pa_cons (pv 4) (pa_cons (pe_op op_sub (pe_op op_mul (pe_mx0 m_Plan_drift hr (by decide) (pv 0) pass0) (pe_op op_fdiv (pv 4) (pv 2))) (pe_op op_mul (pe_mx0 m_Plan_drift hr (by decide) (pv 1) pass0) (pe_op op_fdiv (pv 4) (pv 3)))) pa_nil))))
          pss_nil))), Run.start (σ := [some (.ref a), some (.ref b), none, none, none]) rfl ?_⟩
    refine run_par (ea2 (ev_is (w := .int (p.r.length : Int)) (ev_lenS (ev_ring T (ev_var rfl) h1) (S_szl (by omega))) (by rw [S_len])) (ev_is (w := .int (q.r.length : Int)) (ev_lenS (ev_ring T (ev_var rfl) h2) (S_szl (by omega))) (by rw [S_len]))) ?_
    refine run_asg (v := .int ((lcmP p q : Nat) : Int)) (ev_is (ev_op (ev_op (ev_var rfl) (ev_var rfl) (rv_I (.inr ⟨by omega, by omega⟩))) (ev_call0 (ea2 (ev_var rfl) (ev_var rfl)) use_common) (rv_I ⟨by omega, by omega⟩)) (by rw [lcm_ev])) ?_
    refine run_retU (eu_tup (ea2 (ev_var rfl) (ev_is (w := .int (gain p q)) (ev_op (ev_op (ev_pmeth T (ev_var rfl) h1 (by decide +kernel) (by decide +kernel) ea_nil (use_drift h1 o1)) (ev_op (ev_var rfl) (ev_var rfl) (rv_I ⟨by have := o1.ok.r0; omega, by omega⟩)) (rv_I (.inl ⟨by omega, by omega⟩))) (ev_op (ev_pmeth T (ev_var rfl) h2 (by decide +kernel) (by decide +kernel) ea_nil (use_drift h2 o2)) (ev_op (ev_var rfl) (ev_var rfl) (rv_I ⟨by have := o2.ok.r0; omega, by omega⟩)) (rv_I (.inl ⟨by omega, by omega⟩))) rv_I0) ?_)) (by show 2 ≤ 100000; decide)) ?_
    · unfold gain; rw [Int.natCast_ediv, Int.natCast_ediv]
    · exact fun z hz H2 e2 => k z hz H2 e2
/-! steady -/
theorem sc_steady : FnScope ["one", "two", "d"] ["one", "two", "d"] (defScope s_steady) := ⟨rfl, rfl, rfl, by decide +kernel, rfl, by decide +kernel, by decide +kernel⟩
def sp_steady (C : Addr) : Sp := fun vs H Q _ => ∃ a b p q d, vs = [.ref a, .ref b, .int d] ∧ PlanAt C H a p ∧ POk p ∧ PlanAt C H b q ∧ POk q ∧ RetV (.int ((beg p q d : Nat) : Int)) H Q
theorem use_steady {C a b : Addr} {p q : Pl} {d : Int} {H : Hp} (h1 : PlanAt C H a p) (o1 : POk p) (h2 : PlanAt C H b q) (o2 : POk q) : SpV (sp_steady C) [.ref a, .ref b, .int d] H (.int ((beg p q d : Nat) : Int)) := fun H1 e Q k E => ⟨a, b, p, q, d, rfl, h1.mono e, o1, h2.mono e, o2, fun H2 e2 => k H2 e2⟩
theorem ok_steady {f : Addr} {fd : FuncData} (F : Fun K "steady" "steady" s_steady f fd) (T : Tx K mg w) : FnOk P w K mg base CX0 1 f fd ["one", "two", "d"] (sp_steady T.cPlan) := by
  refine F.ok sc_steady (fun vs H Q E h => ?_) (fun cdv A outer s H vs Q E hr h => ?_)
  · obtain ⟨a, b, p, q, d, rfl, _⟩ := h; rfl
  · obtain ⟨a, b, p, q, d, rfl, h1, o1, h2, o2, k⟩ := h
    have l1 := o1.ok.hl
    have l2 := o2.ok.hl
    refine ⟨_, (pss_cons (ps_ret (pe_callB (call_max2 rfl) (by rfl) T.n_max b_max (pa_cons (pe_op op_add (pe_callB call_len_str (by rfl) T.n_len b_len (pa_cons (pe_fld (pv 0) rfl) pa_nil)) (pe_callB (call_max2 rfl) (by rfl) T.n_max b_max (pa_cons pe_int (pa_cons (pe_un un_neg (pv 2)) pa_nil)))) (pa_cons (pe_op op_add (pe_callB call_len_str (by rfl) T.n_len b_len (pa_cons (pe_fld (pv 1) rfl) pa_nil)) (pe_callB (call_max2 rfl) (by rfl) T.n_max b_max (pa_cons pe_int (pa_cons (pv 2) pa_nil)))) pa_nil))))
          pss_nil), Run.start (σ := [some (.ref a), some (.ref b), some (.int d)]) rfl ?_⟩
    refine run_ret (v := .int ((beg p q d : Nat) : Int)) (ev_is (ev_max (ev_op (ev_lenS (ev_head T (ev_var rfl) h1) (S_szl (by omega))) (ev_max ev_c (ev_un_neg (ev_var rfl))) rv_I0) (ev_op (ev_lenS (ev_head T (ev_var rfl) h2) (S_szl (by omega))) (ev_max ev_c (ev_var rfl)) rv_I0)) ?_) fun H2 e2 => k H2 e2
    rw [S_len, S_len]
    unfold beg
    congr 1
    omega
/-! all_rests -/
theorem sc_all_rests : FnScope ["one", "two", "d", "steps", "gain", "begin", "t"] ["one", "two", "d"] (defScope s_all_rests) := ⟨rfl, rfl, rfl, by decide +kernel, rfl, by decide +kernel, by decide +kernel⟩
/-- the rests modulo the gain that come for ever, in order -/
def restsL (p q : Pl) (d : Int) : List Int := srt ((ft (fun t : Nat => offF p q d (beg p q d + t)) ((gain p q).natAbs : Int) (lcmP p q)).map (·.1))
theorem rests_len (p q : Pl) (d : Int) : (restsL p q d).length = (ft (fun t : Nat => offF p q d (beg p q d + t)) ((gain p q).natAbs : Int) (lcmP p q)).length := by
  unfold restsL
  rw [(srt_perm _).length_eq, List.length_map]
def sp_arests (C : Addr) : Sp := fun vs H Q _ => ∃ a b p q d, vs = [.ref a, .ref b, .int d] ∧ PlanAt C H a p ∧ POk p ∧ PlanAt C H b q ∧ POk q ∧ gain p q ≠ 0 ∧ RetL ((restsL p q d).map V.int) H Q
theorem use_arests {C a b : Addr} {p q : Pl} {d : Int} {H : Hp} (h1 : PlanAt C H a p) (o1 : POk p) (h2 : PlanAt C H b q) (o2 : POk q) (hg : gain p q ≠ 0) : SpL (sp_arests C) [.ref a, .ref b, .int d] H ((restsL p q d).map V.int) := RetL.l fun H1 e Q k E => ⟨a, b, p, q, d, rfl, h1.mono e, o1, h2.mono e, o2, hg, k⟩
theorem ok_all_rests {f : Addr} {fd : FuncData} (F : Fun K "all_rests" "all_rests" s_all_rests f fd) (T : Tx K mg w) (c_pace : Cal P w K mg base CX0 3 "pace" (sp_pace T.cPlan)) (c_steady : Cal P w K mg base CX0 1 "steady" (sp_steady T.cPlan)) (c_offset_at : Cal P w K mg base CX0 3 "offset_at" (sp_offat T.cPlan)) : FnOk P w K mg base CX0 4 f fd ["one", "two", "d"] (sp_arests T.cPlan) := by
  refine F.ok sc_all_rests (fun vs H Q E h => ?_) (fun cdv A outer s H vs Q E hr h => ?_)
  · obtain ⟨a, b, p, q, d, rfl, _⟩ := h; rfl
  · obtain ⟨a, b, p, q, d, rfl, h1, o1, h2, o2, hg, k⟩ := h
    have l36 := lcm_le36 o1.ok o2.ok
    refine ⟨_, (pss_cons (ps_asg (pe_cx c_pace hr (by decide) (by rfl) pass0 (pa_cons (pv 0) (pa_cons (pv 1) pa_nil))) (pg_tup rfl (pgs_cons (pg_name (i := 3) sc_all_rests.nd rfl (Or.inl rfl)) (pgs_cons (pg_name (i := 4) sc_all_rests.nd rfl (Or.inr rfl)) pgs_nil))))
          (pss_cons (ps_set (i := 5) sc_all_rests.nd rfl (Or.inr rfl) (pe_cx c_steady hr (by decide) (by rfl) pass0 (pa_cons (pv 0) (pa_cons (pv 1) (pa_cons (pv 2) pa_nil)))))
          (pss_cons (ps_ret (pe_callB (call_sortedDI rfl) (by rfl) T.n_sorted b_sorted (pa_cons (pe_dc (own := [("t", 6)]) (g := gName 6) rfl sc_all_rests.nd (pi_range1 rfl T.n_range (pa_cons (pv 3) pa_nil)) (blkOk_by (own := [("t", 6)]) (N := ["one", "two", "d", "steps", "gain", "begin", "t"]) (sc := defScope s_all_rests) (by decide +kernel)) (fun _ _ _ _ _ => pg_name (i := 6) sc_all_rests.nd rfl (Or.inl rfl)) (fun _ _ _ _ _ => pts_nil) (fun _ _ _ _ _ => (pe_op op_mod (pe_cx c_offset_at hr (by decide) (by rfl) pass0 (pa_cons (pv 0) (pa_cons (pv 1) (pa_cons (pv 2) (pa_cons (pe_op op_add (pv 5) (pv 6)) pa_nil))))) (pe_callB call_abs (by rfl) T.n_abs b_abs (pa_cons (pv 4) pa_nil)))) (fun _ _ _ _ _ => pe_bl)) pa_nil)))
          pss_nil))), Run.start (σ := [some (.ref a), some (.ref b), some (.int d), none, none, none, none]) rfl ?_⟩
    refine run_unp2 (eu_call (ea2 (ev_var rfl) (ev_var rfl)) (use_pace h1 o1 h2 o2)) ?_
    refine run_asg (ev_call0 (ea3 (ev_var rfl) (ev_var rfl) (ev_var rfl)) (use_steady h1 o1 h2 o2)) ?_
    refine run_retL (el_sortedD (evd_dc (α := Nat) (l := List.range (lcmP p q)) (g := fun i => V.int (i : Int)) (fun t => Sum.inl (offF p q d (beg p q d + t) % ((gain p q).natAbs : Int))) (fun _ => .bl true) ?_ (by rw [List.length_range]; omega) (fun x => rfl) (fun c hc => ?_) (fun c hc => ev_c)) (dc_keys (fun t : Nat => offF p q d (beg p q d + t)) ((gain p q).natAbs : Int) (fun _ => .bl true) (lcmP p q)) ?_) ?_
    · refine ej_of (ei_rng1 (n := ((lcmP p q : Nat) : Int)) (ea1 (ev_var rfl)) (by omega) (by omega)) ?_
      unfold rgs; simp
    · refine ev_is (ev_op (ev_call0 (ea4 (ev_var rfl) (ev_var rfl) (ev_var rfl) (ev_op (ev_var rfl) (ev_var rfl) rv_I0)) (use_offat h1 o1 h2 o2)) (ev_abs (ev_var rfl)) (rv_I (by omega))) ?_
      show V.int _ = V.int _
      unfold offF
      rw [Int.natCast_add]
    · rw [List.length_map]
      have := ft_len (f := fun t : Nat => offF p q d (beg p q d + t)) (n := ((gain p q).natAbs : Int)) (lcmP p q)
      omega
    · intro z hz H2 e2
      exact k z H2 hz ((ex_upd hz).trans e2) (e2 _ _ upd_same)
/-! last_time -/
theorem sc_last_time : FnScope ["one", "two", "n", "d"] ["one", "two", "n", "d"] (defScope s_last_time) := ⟨rfl, rfl, rfl, by decide +kernel, rfl, by decide +kernel, by decide +kernel⟩
/-- no rest is new behind this time -/
def lastT (p q : Pl) (n : Nat) (d : Int) : Nat := beg p q d + lcmP p q * n
def sp_last (C : Addr) : Sp := fun vs H Q _ => ∃ a b p q d, ∃ n : Nat, vs = [.ref a, .ref b, .int (n : Int), .int d] ∧ PlanAt C H a p ∧ POk p ∧ PlanAt C H b q ∧ POk q ∧ RetV (.int ((lastT p q n d : Nat) : Int)) H Q
theorem use_last {C a b : Addr} {p q : Pl} {d : Int} {n : Nat} {H : Hp} (h1 : PlanAt C H a p) (o1 : POk p) (h2 : PlanAt C H b q) (o2 : POk q) : SpV (sp_last C) [.ref a, .ref b, .int (n : Int), .int d] H (.int ((lastT p q n d : Nat) : Int)) := fun H1 e Q k E => ⟨a, b, p, q, d, n, rfl, h1.mono e, o1, h2.mono e, o2, fun H2 e2 => k H2 e2⟩
theorem ok_last_time {f : Addr} {fd : FuncData} (F : Fun K "last_time" "last_time" s_last_time f fd) (T : Tx K mg w) (c_steady : Cal P w K mg base CX0 1 "steady" (sp_steady T.cPlan)) (c_pace : Cal P w K mg base CX0 3 "pace" (sp_pace T.cPlan)) : FnOk P w K mg base CX0 4 f fd ["one", "two", "n", "d"] (sp_last T.cPlan) := by
  refine F.ok sc_last_time (fun vs H Q E h => ?_) (fun cdv A outer s H vs Q E hr h => ?_)
  · obtain ⟨a, b, p, q, d, n, rfl, _⟩ := h; rfl
  · obtain ⟨a, b, p, q, d, n, rfl, h1, o1, h2, o2, k⟩ := h
    have l36 := lcm_le36 o1.ok o2.ok
    refine ⟨_, (pss_cons (ps_ret (pe_op op_add (pe_cx c_steady hr (by decide) (by rfl) pass0 (pa_cons (pv 0) (pa_cons (pv 1) (pa_cons (pv 3) pa_nil)))) (pe_op op_mul (pe_ix ix_tup (pe_cx c_pace hr (by decide) (by rfl) pass0 (pa_cons (pv 0) (pa_cons (pv 1) pa_nil))) pe_int (fun _ _ => rfl)) (pv 2))))
          pss_nil), Run.start (σ := [some (.ref a), some (.ref b), some (.int (n : Int)), some (.int d)]) rfl ?_⟩
    refine run_ret (v := .int ((lastT p q n d : Nat) : Int)) (ev_is (ev_op (ev_call0 (ea3 (ev_var rfl) (ev_var rfl) (ev_var rfl)) (use_steady h1 o1 h2 o2)) (ev_op (ev_ixU (eu_call (ea2 (ev_var rfl) (ev_var rfl)) (use_pace h1 o1 h2 o2)) ev_c rfl) (ev_var rfl) (rv_I (.inl ⟨by omega, by omega⟩))) rv_I0) ?_) fun H2 e2 => k H2 e2
    unfold lastT
    rw [Int.natCast_add, Int.natCast_mul]
/-! least_times -/
theorem sc_least_times : FnScope ["one", "two", "n", "d", "found", "t", "gap"] ["one", "two", "n", "d"] (defScope s_least_times) := ⟨rfl, rfl, rfl, by decide +kernel, rfl, by decide +kernel, by decide +kernel⟩
def tabT (p q : Pl) (n : Nat) (d : Int) : List (Int × Int) := ft (offF p q d) (n : Int) (lastT p q n d + 1)
def sp_least (C : Addr) : Sp := fun vs H Q _ => ∃ a b p q d, ∃ n : Nat, vs = [.ref a, .ref b, .int (n : Int), .int d] ∧ PlanAt C H a p ∧ POk p ∧ PlanAt C H b q ∧ POk q ∧ 0 < n ∧ n ≤ 1000000 ∧ lastT p q n d ≤ 1000000000 ∧ RetK (tabK (tabT p q n d)) H Q
theorem use_least {C a b : Addr} {p q : Pl} {d : Int} {n : Nat} {H : Hp} (h1 : PlanAt C H a p) (o1 : POk p) (h2 : PlanAt C H b q) (o2 : POk q) (hn : 0 < n) (hn2 : n ≤ 1000000) (hl : lastT p q n d ≤ 1000000000) : SpK (sp_least C) [.ref a, .ref b, .int (n : Int), .int d] H (tabK (tabT p q n d)) := RetK.k fun H1 e Q k E => ⟨a, b, p, q, d, n, rfl, h1.mono e, o1, h2.mono e, o2, hn, hn2, hl, k⟩
theorem ok_least_times {f : Addr} {fd : FuncData} (F : Fun K "least_times" "least_times" s_least_times f fd) (T : Tx K mg w) (c_last_time : Cal P w K mg base CX0 4 "last_time" (sp_last T.cPlan)) (c_offset_at : Cal P w K mg base CX0 3 "offset_at" (sp_offat T.cPlan)) : FnOk P w K mg base CX0 5 f fd ["one", "two", "n", "d"] (sp_least T.cPlan) := by
  refine F.ok sc_least_times (fun vs H Q E h => ?_) (fun cdv A outer s H vs Q E hr h => ?_)
  · obtain ⟨a, b, p, q, d, n, rfl, _⟩ := h; rfl
  · obtain ⟨a, b, p, q, d, n, rfl, h1, o1, h2, o2, hn, hn2, hl, k⟩ := h
    refine ⟨_, (pss_cons (ps_set (i := 4) sc_least_times.nd rfl (Or.inl rfl) pe_dnewK)
          (pss_cons (ps_for PassesOwn.never rfl (pi_range1 rfl T.n_range (pa_cons (pe_op op_add (pe_cx c_last_time hr (by decide) (by rfl) pass0 (pa_cons (pv 0) (pa_cons (pv 1) (pa_cons (pv 2) (pa_cons (pv 3) pa_nil))))) pe_int) pa_nil)) (pg_name (i := 5) sc_least_times.nd rfl (Or.inl rfl))
            (pss_cons (ps_set (i := 6) sc_least_times.nd rfl (Or.inl rfl) (pe_op op_mod (pe_cx c_offset_at hr (by decide) (by rfl) pass0 (pa_cons (pv 0) (pa_cons (pv 1) (pa_cons (pv 3) (pa_cons (pv 5) pa_nil))))) (pv 2)))
            (pss_cons (ps_if (pt_cmp (pc_dnotin (hu_of hr) (pv 6) (pv 4)) rfl)
              (pss_cons (ps_dput (hu_of hr) (pv 4) (pv 6) (pv 5) rfl)
              (pss_cons (ps_if (pt_cmpR op_eq (pe_callB call_lenD (by rfl) T.n_len b_len (pa_cons (pv 4) pa_nil)) (pv 2) (nomark _))
                (pss_cons (ps_ret (pv 4))
                pss_nil)
                pss_nil)
              pss_nil))
              pss_nil)
            pss_nil)))
          (pss_cons (ps_ret (pv 4))
          pss_nil))), Run.start (σ := [some (.ref a), some (.ref b), some (.int (n : Int)), some (.int d), none, none, none]) rfl ?_⟩
    refine run_asgD fun z hz => ?_
    have e0 : ∀ xs, Ex H (upd H z (.dK xs)) := fun xs => ex_upd hz
    refine run_rng1 (n := (lastT p q n d : Int) + 1) (ea1 (ev_op (ev_call0 (ea4 (ev_var rfl) (ev_var rfl) (ev_var rfl) (ev_var rfl)) (use_last (h1.mono (e0 _)) o1 (h2.mono (e0 _)) o2)) ev_c rv_I0)) (by omega) (by omega) (fun i σ' H' => H' = upd H z (.dK (tabK (ft (offF p q d) (n : Int) i))) ∧ ∃ v5 v6, σ' = [some (.ref a), some (.ref b), some (.int (n : Int)), some (.int d), some (.ref z), v5, v6]) ⟨rfl, none, none, rfl⟩ ?_ ?_
    · rintro i σ' H' hi ⟨rfl, v5, v6, rfl⟩
      have hi : i < lastT p q n d + 1 := by omega
      refine run_asg (v := .int (offF p q d i % (n : Int))) (ev_op (ev_call0 (ea4 (ev_var rfl) (ev_var rfl) (ev_var rfl) (ev_var rfl)) (use_offat (h1.mono (e0 _)) o1 (h2.mono (e0 _)) o2)) (ev_var rfl) (rv_I (by omega))) ?_
      have hdin := ev_dnin (td := tVar 4) (ty := tVar 6) (σ := [some (.ref a), some (.ref b), some (.int (n : Int)), some (.int d), some (.ref z), some (.int (i : Int)), some (.int (offF p q d i % (n : Int)))]) (H := upd H z (.dK (tabK (ft (offF p q d) (n : Int) i)))) (ev_var rfl) (ev_var rfl) (DGet.k (k := .inl (offF p q d i % (n : Int))) upd_same)
      rw [tab_some] at hdin
      refine run_if (et_test hdin) (fun hb => ?_) (fun hb => run_end ?_)
      · have hb : offF p q d i % (n : Int) ∉ (ft (offF p q d) (n : Int) i).map (·.1) := by
          intro c; rw [decide_eq_true c] at hb; cases hb
        have hlen := ft_le (f := offF p q d) (n := (n : Int)) (T := i) (by omega)
        refine run_dput (k := .inl (offF p q d i % (n : Int))) (ev_var rfl) (ev_var rfl) (ev_var rfl) ?_ ?_
        · rw [tab_len]; exact Nat.lt_of_le_of_lt (show _ ≤ 1000000 by omega) (by decide)
        · rw [tab_snoc hb, ← ft_no hb]
          refine run_if (et_test (ev_op (ev_lenD (ev_var rfl) upd_same) (ev_var rfl) (rv_eq rfl))) (fun hb2 => ?_) (fun hb2 => run_end (run_end ?_))
          · have hb2 : (((ft (offF p q d) (n : Int) (i + 1)).length : Nat) : Int) = (n : Int) := by
              have := of_decide_eq_true hb2
              rw [tab_len] at this
              injection this
            refine run_ret (ev_var rfl) fun H2 e2 => k z hz H2 ?_
            rw [← ft_stop (by omega) hb2 (show i + 1 ≤ lastT p q n d + 1 by omega)] at e2
            exact e2
          · exact run_up rfl ⟨rfl, _, _, rfl⟩
      · have hb : offF p q d i % (n : Int) ∈ (ft (offF p q d) (n : Int) i).map (·.1) := by
          by_cases c : offF p q d i % (n : Int) ∈ (ft (offF p q d) (n : Int) i).map (·.1)
          · exact c
          · rw [decide_eq_false c] at hb; cases hb
        refine run_up rfl ⟨?_, _, _, rfl⟩
        rw [ft_yes hb]
    · rintro σ' H' ⟨rfl, v5, v6, rfl⟩
      refine run_ret (ev_var rfl) fun H2 e2 => k z hz H2 ?_
      rw [show ((lastT p q n d : Int) + 1).toNat = lastT p q n d + 1 from by omega] at e2
      exact e2
/-! is_full -/
theorem sc_is_full : FnScope ["one", "two", "d"] ["one", "two", "d"] (defScope s_is_full) := ⟨rfl, rfl, rfl, by decide +kernel, rfl, by decide +kernel, by decide +kernel⟩
/-- every rest modulo the gain comes for ever -/
def fullD (p q : Pl) (d : Int) : Bool := decide (((ft (fun t : Nat => offF p q d (beg p q d + t)) ((gain p q).natAbs : Int) (lcmP p q)).length : Int) = ((gain p q).natAbs : Int))
def sp_full (C : Addr) : Sp := fun vs H Q _ => ∃ a b p q d, vs = [.ref a, .ref b, .int d] ∧ PlanAt C H a p ∧ POk p ∧ PlanAt C H b q ∧ POk q ∧ gain p q ≠ 0 ∧ RetV (.bl (fullD p q d)) H Q
theorem use_full {C a b : Addr} {p q : Pl} {d : Int} {H : Hp} (h1 : PlanAt C H a p) (o1 : POk p) (h2 : PlanAt C H b q) (o2 : POk q) (hg : gain p q ≠ 0) : SpV (sp_full C) [.ref a, .ref b, .int d] H (.bl (fullD p q d)) := fun H1 e Q k E => ⟨a, b, p, q, d, rfl, h1.mono e, o1, h2.mono e, o2, hg, fun H2 e2 => k H2 e2⟩
theorem ok_is_full {f : Addr} {fd : FuncData} (F : Fun K "is_full" "is_full" s_is_full f fd) (T : Tx K mg w) (c_all_rests : Cal P w K mg base CX0 4 "all_rests" (sp_arests T.cPlan)) (c_pace : Cal P w K mg base CX0 3 "pace" (sp_pace T.cPlan)) : FnOk P w K mg base CX0 5 f fd ["one", "two", "d"] (sp_full T.cPlan) := by
  refine F.ok sc_is_full (fun vs H Q E h => ?_) (fun cdv A outer s H vs Q E hr h => ?_)
  · obtain ⟨a, b, p, q, d, rfl, _⟩ := h; rfl
  · obtain ⟨a, b, p, q, d, rfl, h1, o1, h2, o2, hg, k⟩ := h
    refine ⟨_, (pss_cons (ps_ret (pe_cmpR op_eq (pe_callB call_len_seq (by rfl) T.n_len b_len (pa_cons (pe_cx c_all_rests hr (by decide) (by rfl) pass0 (pa_cons (pv 0) (pa_cons (pv 1) (pa_cons (pv 2) pa_nil)))) pa_nil)) (pe_callB call_abs (by rfl) T.n_abs b_abs (pa_cons (pe_ix ix_tup (pe_cx c_pace hr (by decide) (by rfl) pass0 (pa_cons (pv 0) (pa_cons (pv 1) pa_nil))) pe_int (fun _ _ => rfl)) pa_nil)) (nomark _)))
          pss_nil), Run.start (σ := [some (.ref a), some (.ref b), some (.int d)]) rfl ?_⟩
    refine run_ret (v := .bl (fullD p q d)) (ev_is (ev_op (ev_lenNL (el_call0 (ea3 (ev_var rfl) (ev_var rfl) (ev_var rfl)) (use_arests h1 o1 h2 o2 hg))) (ev_abs (ev_ixU (eu_call (ea2 (ev_var rfl) (ev_var rfl)) (use_pace h1 o1 h2 o2)) ev_c rfl)) (rv_eq rfl)) ?_) fun H2 e2 => k H2 e2
    rw [List.length_map, rests_len]
    congr 1
    exact decide_eq_decide.mpr ⟨fun e => by injection e, fun e => by rw [e]⟩
/-! greatest_time -/
theorem sc_greatest_time : FnScope ["one", "two", "n", "d", "found", "gap"] ["one", "two", "n", "d"] (defScope s_greatest_time) := ⟨rfl, rfl, rfl, by decide +kernel, rfl, by decide +kernel, by decide +kernel⟩
/-- the greatest least time, or none -/
def grP (p q : Pl) (d : Int) (n : Nat) : Int := grT (fo p q d) (beg p q d) (lcmP p q) n
def grV (p q : Pl) (n : Nat) (d : Int) : V := if okT p q n d = true then .int (grP p q d n) else .non
def sp_gt (C : Addr) : Sp := fun vs H Q _ => ∃ a b p q d, ∃ n : Nat, vs = [.ref a, .ref b, .int (n : Int), .int d] ∧ PlanAt C H a p ∧ POk p ∧ PlanAt C H b q ∧ POk q ∧ 0 < n ∧ n ≤ 100000 ∧ d.natAbs ≤ 1000000 ∧ RetV (grV p q n d) H Q
theorem use_gt {C a b : Addr} {p q : Pl} {d : Int} {n : Nat} {H : Hp} (h1 : PlanAt C H a p) (o1 : POk p) (h2 : PlanAt C H b q) (o2 : POk q) (h0 : 0 < n) (hn : n ≤ 100000) (hd : d.natAbs ≤ 1000000) : SpV (sp_gt C) [.ref a, .ref b, .int (n : Int), .int d] H (grV p q n d) := fun H1 e Q k E => ⟨a, b, p, q, d, n, rfl, h1.mono e, o1, h2.mono e, o2, h0, hn, hd, fun H2 e2 => k H2 e2⟩
theorem last_smallG {p q : Pl} {n : Nat} {d : Int} (o1 : Mw.Ok p) (o2 : Mw.Ok q) (hn : n ≤ 100000) (hd : d.natAbs ≤ 1000000) : lastT p q n d ≤ 1000000000 := by
  have l36 := lcm_le36 o1 o2
  have h1 := o1.hl
  have h2 := o2.hl
  have : lcmP p q * n ≤ 36 * n := Nat.mul_le_mul_right _ l36
  unfold lastT beg
  omega
theorem ok_greatest_time {f : Addr} {fd : FuncData} (F : Fun K "greatest_time" "greatest_time" s_greatest_time f fd) (T : Tx K mg w) (c_least_times : Cal P w K mg base CX0 5 "least_times" (sp_least T.cPlan)) : FnOk P w K mg base CX0 6 f fd ["one", "two", "n", "d"] (sp_gt T.cPlan) := by
  refine F.ok sc_greatest_time (fun vs H Q E h => ?_) (fun cdv A outer s H vs Q E hr h => ?_)
  · obtain ⟨a, b, p, q, d, n, rfl, _⟩ := h; rfl
  · obtain ⟨a, b, p, q, d, n, rfl, h1, o1, h2, o2, h0, hn, hd, k⟩ := h
    refine ⟨_, (pss_cons (ps_set (i := 4) sc_greatest_time.nd rfl (Or.inr rfl) (pe_cx c_least_times hr (by decide) (by rfl) pass0 (pa_cons (pv 0) (pa_cons (pv 1) (pa_cons (pv 2) (pa_cons (pv 3) pa_nil))))))
          (pss_cons (ps_ret (pe_ifExp (pt_cmpR op_eq (pe_callB call_lenD (by rfl) T.n_len b_len (pa_cons (pv 4) pa_nil)) (pv 2) (nomark _)) (pe_callB (cr_max rfl) (by rfl) T.n_max b_max (pa_cons (pe_lock (pe_lc (own := [("gap", 5)]) (g := gName 5) rfl sc_greatest_time.nd (pi_keys (pv 4)) (blkOk_by (own := [("gap", 5)]) (N := ["one", "two", "n", "d", "found", "gap"]) (sc := defScope s_greatest_time) (by decide +kernel)) (fun _ _ _ _ _ => pg_name (i := 5) sc_greatest_time.nd rfl (Or.inl rfl)) (fun _ _ _ _ _ => pts_nil) (fun _ _ _ _ _ => (pe_dget (hu_of hr) (pv 4) (pv 5) (fun _ _ => rfl))))) pa_nil)) pe_non))
          pss_nil)), Run.start (σ := [some (.ref a), some (.ref b), some (.int (n : Int)), some (.int d), none, none]) rfl ?_⟩
    refine run_asgK (evd_call (ea4 (ev_var rfl) (ev_var rfl) (ev_var rfl) (ev_var rfl)) (use_least h1 o1 h2 o2 h0 (by omega) (last_smallG o1.ok o2.ok hn hd))) fun z hz => ?_
    have ftl : ((tabT p q n d).length : Int) ≤ (n : Int) := ft_le (by omega)
    have eok : okT p q n d = decide ((tabT p q n d).length = n) := rfl
    refine run_ret (v := grV p q n d) (ev_if (et_test (ev_op (ev_lenD (ev_var rfl) upd_same) (ev_var rfl) (rv_eq rfl))) (fun hb => ?_) (fun hb => ?_)) fun H2 e2 => k H2 ((ex_upd hz).trans e2)
    · have hb := of_decide_eq_true hb
      rw [tab_len] at hb
      have hb : (tabT p q n d).length = n := by injection hb; omega
      have : grV p q n d = .int (grP p q d n) := by
        unfold grV
        rw [if_pos (by rw [eok]; exact decide_eq_true hb)]
      rw [this]
      exact ev_maxNL (ns := (tabT p q n d).map (·.2)) (el_vals upd_same (ft_nodup _) (Nat.le_trans (show (tabT p q n d).length ≤ 100000 by omega) (by decide)) (fun x => rfl) (fun _ => ev_var rfl) (fun _ _ _ => ev_var rfl) fun _ _ _ => ev_var rfl) (gt_mem (Nat.succ_pos _)) fun y hy => gt_max hy
    · have hb := of_decide_eq_false hb
      rw [tab_len] at hb
      have hb : ¬ (tabT p q n d).length = n := fun e => hb (by rw [e])
      have : grV p q n d = .non := by
        unfold grV
        rw [if_neg (by rw [eok, decide_eq_false hb]; simp)]
      rw [this]
      exact ev_c
/-! latest -/
theorem sc_latest : FnScope ["one", "two", "n", "d"] ["one", "two", "n", "d"] (defScope s_latest) := ⟨rfl, rfl, rfl, by decide +kernel, rfl, by decide +kernel, by decide +kernel⟩
def sp_latest (C : Addr) : Sp := fun vs H Q _ => ∃ a b p q d, ∃ n : Nat, vs = [.ref a, .ref b, .int (n : Int), .int d] ∧ PlanAt C H a p ∧ POk p ∧ PlanAt C H b q ∧ POk q ∧ 0 < n ∧ n ≤ 100000 ∧ d.natAbs ≤ 1000000 ∧ RetV (grV p q n d) H Q
theorem use_latest {C a b : Addr} {p q : Pl} {d : Int} {n : Nat} {H : Hp} (h1 : PlanAt C H a p) (o1 : POk p) (h2 : PlanAt C H b q) (o2 : POk q) (h0 : 0 < n) (hn : n ≤ 100000) (hd : d.natAbs ≤ 1000000) : SpV (sp_latest C) [.ref a, .ref b, .int (n : Int), .int d] H (grV p q n d) := fun H1 e Q k E => ⟨a, b, p, q, d, n, rfl, h1.mono e, o1, h2.mono e, o2, h0, hn, hd, fun H2 e2 => k H2 e2⟩
theorem ok_latest {f : Addr} {fd : FuncData} (F : Fun K "latest" "latest" s_latest f fd) (T : Tx K mg w) (c_check_size : Cal P w K mg base (L2.CX P w) 2 "check_size" (sp_csize T)) (c_check_delay : Cal P w K mg base (L2.CX P w) 2 "check_delay" (sp_cdelay T)) (c_greatest_time : Cal P w K mg base CX0 6 "greatest_time" (sp_gt T.cPlan)) : FnOk P w K mg base (L2.CX P w) 7 f fd ["one", "two", "n", "d"] (sp_latest T.cPlan) := by
  refine F.okX sc_latest (fun vs H Q E h => ?_) (fun cdv A outer s H vs Q E hr h => ?_)
  · obtain ⟨a, b, p, q, d, n, rfl, _⟩ := h; rfl
  · obtain ⟨a, b, p, q, d, n, rfl, h1, o1, h2, o2, h0, hn, hd, k⟩ := h
    refine ⟨_, (pss_cons (ps_expr (pe_cx c_check_size hr (by decide) (by rfl) passE (pa_cons (pv 2) pa_nil)))
          (pss_cons (ps_expr (pe_cx c_check_delay hr (by decide) (by rfl) passE (pa_cons (pv 3) pa_nil)))
          (pss_cons (ps_ret (pe_cx c_greatest_time hr (by decide) (by rfl) pass0 (pa_cons (pv 0) (pa_cons (pv 1) (pa_cons (pv 2) (pa_cons (pv 3) pa_nil))))))
          pss_nil))), Run.start (σ := [some (.ref a), some (.ref b), some (.int (n : Int)), some (.int d)]) rfl ?_⟩
    refine run_dropC (ea1 (ev_var rfl)) fun H1 e1 => ⟨_, _, rfl, wh_int, .inl ⟨decide_eq_true (by omega), fun H2 e2 => ?_⟩⟩
    refine (run_dropC (ea1 (ev_var rfl)) fun H3 e3 => ⟨_, _, rfl, wh_int, .inl ⟨rfl, fun H4 e4 => ?_⟩⟩ : Run _ _ _ H) H2 (e1.trans e2)
    exact (run_ret (ev_call0 (ea4 (ev_var rfl) (ev_var rfl) (ev_var rfl) (ev_var rfl)) (use_gt h1 o1 h2 o2 h0 hn hd)) (fun H5 e5 => k H5 e5) : Run _ _ _ H) H4 (e3.trans e4)
/-! check_pattern -/
theorem sc_check_pattern : FnScope ["one", "two", "d"] ["one", "two", "d"] (defScope s_check_pattern) := ⟨rfl, rfl, rfl, by decide +kernel, rfl, by decide +kernel, by decide +kernel⟩
/-- what a pattern is refused for -/
def patErr (T : Tx K mg w) (p q : Pl) (od : Option Int) : Option Addr := match od with
  | none => some T.cBadCase
  | some d => if gain p q = 0 then some T.cNoGain else if fullD p q d = true then none else some T.cNeverMeet
def sp_cpat (T : Tx K mg w) : Sp := fun vs H Q E => ∃ a b p q y od, vs = [.ref a, .ref b, y] ∧ PlanAt T.cPlan H a p ∧ POk p ∧ PlanAt T.cPlan H b q ∧ POk q ∧ WholeV K H y od ∧ ((patErr T p q od = none ∧ RetV .non H Q) ∨ (∃ C, patErr T p q od = some C ∧ ∀ H', Ex H H' → E (.ref C) none H'))
theorem ok_check_pattern {f : Addr} {fd : FuncData} (F : Fun K "check_pattern" "check_pattern" s_check_pattern f fd) (T : Tx K mg w) (c_check_delay : Cal P w K mg base (L2.CX P w) 2 "check_delay" (sp_cdelay T)) (c_pace : Cal P w K mg base CX0 3 "pace" (sp_pace T.cPlan)) (c_is_full : Cal P w K mg base CX0 5 "is_full" (sp_full T.cPlan)) : FnOk P w K mg base (L2.CX P w) 6 f fd ["one", "two", "d"] (sp_cpat T) := by
  refine F.okX sc_check_pattern (fun vs H Q E h => ?_) (fun cdv A outer s H vs Q E hr h => ?_)
  · obtain ⟨a, b, p, q, y, od, rfl, _⟩ := h; rfl
  · obtain ⟨a, b, p, q, y, od, rfl, h1, o1, h2, o2, hw, k⟩ := h
    refine ⟨_, (pss_cons (ps_expr (pe_cx c_check_delay hr (by decide) (by rfl) passE (pa_cons (pv 2) pa_nil)))
          (pss_cons (ps_if (pt_cmpR op_eq (pe_ix ix_tup (pe_cx c_pace hr (by decide) (by rfl) pass0 (pa_cons (pv 0) (pa_cons (pv 1) pa_nil))) pe_int (fun _ _ => rfl)) pe_int (nomark _))
            (pss_cons (ps_raise rfl (takes_of rfl rfl rfl rfl) (pmk_own0 PySem.F.excBase_ValueError T.xNoGain T.gNoGain T.kNoGain (raises_own T.bNoGain T.tNoGain) (by rfl)))
            pss_nil)
            pss_nil)
          (pss_cons (ps_if (pt_not (pt_val (pe_cx c_is_full hr (by decide) (by rfl) pass0 (pa_cons (pv 0) (pa_cons (pv 1) (pa_cons (pv 2) pa_nil))))))
            (pss_cons (ps_raise rfl (takes_of rfl rfl rfl rfl) (pmk_own0 PySem.F.excBase_ValueError T.xNeverMeet T.gNeverMeet T.kNeverMeet (raises_own T.bNeverMeet T.tNeverMeet) (by rfl)))
            pss_nil)
            pss_nil)
          pss_nil))), Run.start (σ := [some (.ref a), some (.ref b), some y]) rfl ?_⟩
    have bad : ∀ C, patErr T p q od = some C → ∀ H', Ex H H' → E (.ref C) none H' := fun C hC => by
      rcases k with ⟨h, _⟩ | ⟨C', h, k⟩
      · rw [h] at hC; cases hC
      · rw [h] at hC; have := Option.some.inj hC; subst this; exact k
    refine run_dropC (ea1 (ev_var rfl)) fun H1 e1 => ⟨y, od, rfl, hw.mono e1, ?_⟩
    cases od with
    | none => exact .inr ⟨rfl, fun H2 e2 => bad _ rfl H2 (e1.trans e2)⟩
    | some d =>
      have : y = .int d := by rcases hw with ⟨j, rfl, e⟩ | ⟨e, _⟩; rw [Option.some.inj e]; cases e
      subst this
      refine .inl ⟨rfl, fun H2 e2 => ?_⟩
      refine run_if (et_test (ev_op (ev_ixU (eu_call (ea2 (ev_var rfl) (ev_var rfl)) (use_pace h1 o1 h2 o2)) ev_c rfl) ev_c (rv_eq rfl))) (fun hb => ?_) (fun hb => run_end ?_) H2 (e1.trans e2)
      · have hb : gain p q = 0 := by have := of_decide_eq_true hb; injection this
        exact fun H3 e3 => bad _ (by unfold patErr; exact if_pos hb) H3 e3
      · have hb : gain p q ≠ 0 := fun e => of_decide_eq_false hb (by rw [e])
        refine run_if (b := !fullD p q d) (et_not (et_B (ev_call0 (ea3 (ev_var rfl) (ev_var rfl) (ev_var rfl)) (use_full h1 o1 h2 o2 hb)))) (fun hf => ?_) (fun hf => run_end ?_)
        · refine fun H3 e3 => bad _ (?_ : _ = some T.cNeverMeet) H3 e3
          unfold patErr
          show (if gain p q = 0 then _ else _) = _
          rw [if_neg hb, if_neg (by revert hf; cases fullD p q d <;> simp)]
        · have hn : patErr T p q (some d) = none := by
            show (if gain p q = 0 then _ else _) = _
            rw [if_neg hb, if_pos (by revert hf; cases fullD p q d <;> simp)]
          rcases k with ⟨_, k⟩ | ⟨C, h, _⟩
          · exact run_next fun H3 e3 => k H3 e3
          · rw [hn] at h; cases h
/-! far_size -/
theorem sc_far_size : FnScope ["one", "two", "d", "steps", "gain", "begin", "some", "width", "t"] ["one", "two", "d"] (defScope s_far_size) := ⟨rfl, rfl, rfl, by decide +kernel, rfl, by decide +kernel, by decide +kernel⟩
def farL (p q : Pl) (d : Int) : Nat := farT (fo p q d) (beg p q d) (lcmP p q) (gain p q).natAbs
theorem off_abs (p q : Pl) (d : Int) (t : Nat) : -(2 * (t : Int)) ≤ fo p q d t ∧ fo p q d t ≤ 2 * (t : Int) := by
  have h1 := W_abs p.h p.r ((t : Int) - max 0 (-d)).toNat
  have h2 := W_abs q.h q.r ((t : Int) - max 0 d).toNat
  unfold fo off Pl.W
  omega
theorem wd_le (p q : Pl) (d : Int) (N : Nat) : wdT (fo p q d) N ≤ 4 * N := by
  obtain ⟨⟨t, t1, t2⟩, s, s1, s2⟩ := mx_mem (f := fo p q d) N
  have h1 := off_abs p q d t
  have h2 := off_abs p q d s
  unfold wdT
  omega
theorem far_le {p q : Pl} (o1 : Mw.Ok p) (o2 : Mw.Ok q) {d : Int} (hd : d.natAbs ≤ 100) (hg : gain p q ≠ 0) : farL p q d ≤ 43000 := by
  have l36 := lcm_le36 o1 o2
  have a1 := o1.hl
  have a2 := o2.hl
  have g72 := gain_abs o1 o2
  have b : beg p q d ≤ 106 := by unfold beg; omega
  have w4 := wd_le p q d (beg p q d + lcmP p q)
  have e1 : (wdT (fo p q d) (beg p q d + lcmP p q) + 2 * (gain p q).natAbs) / (gain p q).natAbs ≤ 570 := by
    refine Nat.le_trans (Nat.div_le_of_le_mul ?_) (Nat.le_refl _)
    have : 1 * 568 ≤ (gain p q).natAbs * 568 := Nat.mul_le_mul_right _ (by omega)
    omega
  have e2 : lcmP p q * ((wdT (fo p q d) (beg p q d + lcmP p q) + 2 * (gain p q).natAbs) / (gain p q).natAbs + 2) ≤ 36 * 572 := Nat.mul_le_mul l36 (by omega)
  unfold farL farT
  omega
def sp_fars (C : Addr) : Sp := fun vs H Q _ => ∃ a b p q d, vs = [.ref a, .ref b, .int d] ∧ PlanAt C H a p ∧ POk p ∧ PlanAt C H b q ∧ POk q ∧ gain p q ≠ 0 ∧ d.natAbs ≤ 100 ∧ RetV (.int ((farL p q d : Nat) : Int)) H Q
theorem use_fars {C a b : Addr} {p q : Pl} {d : Int} {H : Hp} (h1 : PlanAt C H a p) (o1 : POk p) (h2 : PlanAt C H b q) (o2 : POk q) (hg : gain p q ≠ 0) (hd : d.natAbs ≤ 100) : SpV (sp_fars C) [.ref a, .ref b, .int d] H (.int ((farL p q d : Nat) : Int)) := fun H1 e Q k E => ⟨a, b, p, q, d, rfl, h1.mono e, o1, h2.mono e, o2, hg, hd, fun H2 e2 => k H2 e2⟩
theorem ok_far_size {f : Addr} {fd : FuncData} (F : Fun K "far_size" "far_size" s_far_size f fd) (T : Tx K mg w) (c_pace : Cal P w K mg base CX0 3 "pace" (sp_pace T.cPlan)) (c_steady : Cal P w K mg base CX0 1 "steady" (sp_steady T.cPlan)) (c_offset_at : Cal P w K mg base CX0 3 "offset_at" (sp_offat T.cPlan)) : FnOk P w K mg base CX0 4 f fd ["one", "two", "d"] (sp_fars T.cPlan) := by
  refine F.ok sc_far_size (fun vs H Q E h => ?_) (fun cdv A outer s H vs Q E hr h => ?_)
  · obtain ⟨a, b, p, q, d, rfl, _⟩ := h; rfl
  · obtain ⟨a, b, p, q, d, rfl, h1, o1, h2, o2, hg, hd, k⟩ := h
    have l36 := lcm_le36 o1.ok o2.ok
    have a1 := o1.ok.hl
    have a2 := o2.ok.hl
    have g72 := gain_abs o1.ok o2.ok
    have b106 : beg p q d ≤ 106 := by unfold beg; omega
    refine ⟨_, (pss_cons (ps_asg (pe_cx c_pace hr (by decide) (by rfl) pass0 (pa_cons (pv 0) (pa_cons (pv 1) pa_nil))) (pg_tup rfl (pgs_cons (pg_name (i := 3) sc_far_size.nd rfl (Or.inl rfl)) (pgs_cons (pg_name (i := 4) sc_far_size.nd rfl (Or.inl rfl)) pgs_nil))))
          (pss_cons (ps_set (i := 4) sc_far_size.nd rfl (Or.inl rfl) (pe_callB call_abs (by rfl) T.n_abs b_abs (pa_cons (pv 4) pa_nil)))
          (pss_cons (ps_set (i := 5) sc_far_size.nd rfl (Or.inl rfl) (pe_cx c_steady hr (by decide) (by rfl) pass0 (pa_cons (pv 0) (pa_cons (pv 1) (pa_cons (pv 2) pa_nil)))))
          (pss_cons (ps_setLc (i := 6) (own := [("t", 8)]) (g := gName 8) rfl sc_far_size.nd rfl rfl (sw_true rfl rfl rfl (by decide +kernel)) (pi_range1 rfl T.n_range (pa_cons (pe_op op_add (pe_op op_add (pv 5) (pv 3)) pe_int) pa_nil)) (blkOk_by (own := [("t", 8)]) (N := ["one", "two", "d", "steps", "gain", "begin", "some", "width", "t"]) (sc := defScope s_far_size) (by decide +kernel)) (fun _ _ _ _ _ => pg_name (i := 8) sc_far_size.nd rfl (Or.inl rfl)) (fun _ _ _ _ _ => pts_nil) (fun _ _ _ _ _ => (pe_cx c_offset_at hr (by decide) (by rfl) pass0 (pa_cons (pv 0) (pa_cons (pv 1) (pa_cons (pv 2) (pa_cons (pv 8) pa_nil)))))))
          (pss_cons (ps_set (i := 7) sc_far_size.nd rfl (Or.inl rfl) (pe_op op_sub (pe_callB (cr_max rfl) (by rfl) T.n_max b_max (pa_cons (pv 6) pa_nil)) (pe_callB (cr_min rfl) (by rfl) T.n_min b_min (pa_cons (pv 6) pa_nil))))
          (pss_cons (ps_ret (pe_op op_add (pe_op op_add (pe_op op_add (pv 7) (pv 4)) pe_int) (pe_op op_mul pe_int (pe_op op_add (pv 5) (pe_op op_mul (pv 3) (pe_op op_add (pe_op op_fdiv (pe_op op_add (pv 7) (pe_op op_mul pe_int (pv 4))) (pv 4)) pe_int))))))
          pss_nil)))))), Run.start (σ := [some (.ref a), some (.ref b), some (.int d), none, none, none, none, none, none]) rfl ?_⟩
    refine run_unp2 (eu_call (ea2 (ev_var rfl) (ev_var rfl)) (use_pace h1 o1 h2 o2)) ?_
    refine run_asg (ev_abs (ev_var rfl)) ?_
    refine run_asg (ev_call0 (ea3 (ev_var rfl) (ev_var rfl) (ev_var rfl)) (use_steady h1 o1 h2 o2)) ?_
    refine run_asgL (el_lcA (α := Nat) (l := List.range (beg p q d + lcmP p q + 1)) (g := fun i => V.int (i : Int)) (V.int ∘ fun t : Nat => fo p q d t) (ej_of (ei_rng1 (n := ((beg p q d : Nat) : Int) + ((lcmP p q : Nat) : Int) + 1) (ea1 (ev_op (ev_op (ev_var rfl) (ev_var rfl) rv_I0) ev_c rv_I0)) (by omega) (by omega)) ?_) (szl (by rw [List.length_range]; omega)) (fun x => rfl) fun c hc => ev_call0 (ea4 (ev_var rfl) (ev_var rfl) (ev_var rfl) (ev_var rfl)) (use_offat h1 o1 h2 o2)) fun z hz => ?_
    · unfold rgs
      rw [show (((beg p q d : Nat) : Int) + ((lcmP p q : Nat) : Int) + 1).toNat = beg p q d + lcmP p q + 1 from by omega]
      simp
    rw [← List.map_map]
    obtain ⟨⟨t, t1, t2⟩, s, s1, s2⟩ := mx_mem (f := fo p q d) (beg p q d + lcmP p q)
    have mg : ∀ y ∈ (List.range (beg p q d + lcmP p q + 1)).map (fun t : Nat => fo p q d t), y ≤ mxT (fo p q d) (beg p q d + lcmP p q) ∧ mnT (fo p q d) (beg p q d + lcmP p q) ≤ y := fun y hy => by
      obtain ⟨i, hi, rfl⟩ := List.mem_map.mp hy
      exact mx_ge _ i (by have := List.mem_range.mp hi; omega)
    have wq := wd_eq (fo p q d) (beg p q d + lcmP p q)
    refine run_asg (v := .int ((wdT (fo p q d) (beg p q d + lcmP p q) : Nat) : Int)) (ev_is (ev_op (ev_maxL (ev_var rfl) (sq_of upd_same) (m := mxT (fo p q d) (beg p q d + lcmP p q)) (t2 ▸ List.mem_map.mpr ⟨t, List.mem_range.mpr (by omega), rfl⟩) fun y hy => (mg y hy).1) (ev_minL (ev_var rfl) (sq_of upd_same) (m := mnT (fo p q d) (beg p q d + lcmP p q)) (s2 ▸ List.mem_map.mpr ⟨s, List.mem_range.mpr (by omega), rfl⟩) fun y hy => (mg y hy).2) rv_I0) (by rw [wq])) ?_
    refine run_ret (v := .int ((farL p q d : Nat) : Int)) (ev_is (ev_op (ev_op (ev_op (ev_var rfl) (ev_var rfl) rv_I0) ev_c rv_I0) (ev_op ev_c (ev_op (ev_var rfl) (ev_op (ev_var rfl) (ev_op (ev_op (ev_op (ev_var rfl) (ev_op ev_c (ev_var rfl) (rv_I (.inl ⟨by decide, by decide⟩))) rv_I0) (ev_var rfl) (rv_I ⟨by omega, by omega⟩)) ev_c rv_I0) (rv_I (.inl ⟨by omega, by omega⟩))) rv_I0) (rv_I (.inl ⟨by decide, by decide⟩))) rv_I0) ?_) fun H2 e2 => k H2 ((ex_upd hz).trans e2)
    unfold farL farT
    simp only [Int.natCast_add, Int.natCast_mul, Int.natCast_ediv]
    rfl
/-! first_times -/
theorem sc_first_times : FnScope ["one", "two", "d", "most", "found", "t", "here"] ["one", "two", "d", "most"] (defScope s_first_times) := ⟨rfl, rfl, rfl, by decide +kernel, rfl, by decide +kernel, by decide +kernel⟩
def sp_first (C : Addr) : Sp := fun vs H Q _ => ∃ a b p q d, ∃ m : Nat, vs = [.ref a, .ref b, .int d, .int (m : Int)] ∧ PlanAt C H a p ∧ POk p ∧ PlanAt C H b q ∧ POk q ∧ m ≤ 10000000 ∧ RetK (tabK (ft (fo p q d) 0 (m + 1))) H Q
theorem use_first {C a b : Addr} {p q : Pl} {d : Int} {m : Nat} {H : Hp} (h1 : PlanAt C H a p) (o1 : POk p) (h2 : PlanAt C H b q) (o2 : POk q) (hm : m ≤ 10000000) : SpK (sp_first C) [.ref a, .ref b, .int d, .int (m : Int)] H (tabK (ft (fo p q d) 0 (m + 1))) := RetK.k fun H1 e Q k E => ⟨a, b, p, q, d, m, rfl, h1.mono e, o1, h2.mono e, o2, hm, k⟩
theorem ok_first_times {f : Addr} {fd : FuncData} (F : Fun K "first_times" "first_times" s_first_times f fd) (T : Tx K mg w) (c_offset_at : Cal P w K mg base CX0 3 "offset_at" (sp_offat T.cPlan)) : FnOk P w K mg base CX0 4 f fd ["one", "two", "d", "most"] (sp_first T.cPlan) := by
  refine F.ok sc_first_times (fun vs H Q E h => ?_) (fun cdv A outer s H vs Q E hr h => ?_)
  · obtain ⟨a, b, p, q, d, m, rfl, _⟩ := h; rfl
  · obtain ⟨a, b, p, q, d, m, rfl, h1, o1, h2, o2, hm, k⟩ := h
    refine ⟨_, (pss_cons (ps_set (i := 4) sc_first_times.nd rfl (Or.inl rfl) pe_dnewK)
          (pss_cons (ps_for PassesOwn.never rfl (pi_range1 rfl T.n_range (pa_cons (pe_op op_add (pv 3) pe_int) pa_nil)) (pg_name (i := 5) sc_first_times.nd rfl (Or.inl rfl))
            (pss_cons (ps_set (i := 6) sc_first_times.nd rfl (Or.inl rfl) (pe_cx c_offset_at hr (by decide) (by rfl) pass0 (pa_cons (pv 0) (pa_cons (pv 1) (pa_cons (pv 2) (pa_cons (pv 5) pa_nil))))))
            (pss_cons (ps_if (pt_cmp (pc_dnotin (hu_of hr) (pv 6) (pv 4)) rfl)
              (pss_cons (ps_dput (hu_of hr) (pv 4) (pv 6) (pv 5) rfl)
              pss_nil)
              pss_nil)
            pss_nil)))
          (pss_cons (ps_ret (pv 4))
          pss_nil))), Run.start (σ := [some (.ref a), some (.ref b), some (.int d), some (.int (m : Int)), none, none, none]) rfl ?_⟩
    refine run_asgD fun z hz => ?_
    have e0 : ∀ xs, Ex H (upd H z (.dK xs)) := fun xs => ex_upd hz
    refine run_rng1 (n := (m : Int) + 1) (ea1 (ev_op (ev_var rfl) ev_c rv_I0)) (by omega) (by omega) (fun i σ' H' => H' = upd H z (.dK (tabK (ft (fo p q d) 0 i))) ∧ ∃ v5 v6, σ' = [some (.ref a), some (.ref b), some (.int d), some (.int (m : Int)), some (.ref z), v5, v6]) ⟨rfl, none, none, rfl⟩ ?_ ?_
    · rintro i σ' H' hi ⟨rfl, v5, v6, rfl⟩
      have hi : i < m + 1 := by omega
      have em : fo p q d i % 0 = fo p q d i := Int.emod_zero _
      refine run_asg (v := .int (fo p q d i)) (ev_call0 (ea4 (ev_var rfl) (ev_var rfl) (ev_var rfl) (ev_var rfl)) (use_offat (h1.mono (e0 _)) o1 (h2.mono (e0 _)) o2)) ?_
      have hdin := ev_dnin (td := tVar 4) (ty := tVar 6) (σ := [some (.ref a), some (.ref b), some (.int d), some (.int (m : Int)), some (.ref z), some (.int (i : Int)), some (.int (fo p q d i))]) (H := upd H z (.dK (tabK (ft (fo p q d) 0 i)))) (ev_var rfl) (ev_var rfl) (DGet.k (k := .inl (fo p q d i)) upd_same)
      rw [tab_some] at hdin
      refine run_if (et_test hdin) (fun hb => ?_) (fun hb => run_end ?_)
      · have hb : fo p q d i ∉ (ft (fo p q d) 0 i).map (·.1) := by
          intro c; rw [decide_eq_true c] at hb; cases hb
        have hlen := ft_len (f := fo p q d) (n := 0) i
        refine run_dput (k := .inl (fo p q d i)) (ev_var rfl) (ev_var rfl) (ev_var rfl) ?_ ?_
        · rw [tab_len]; exact Nat.lt_of_le_of_lt (show _ ≤ 10000000 by omega) (by decide)
        · rw [tab_snoc hb]
          refine run_end (run_up rfl ⟨?_, _, _, rfl⟩)
          rw [ft_no (by rw [em]; exact hb), em]
      · have hb : fo p q d i ∈ (ft (fo p q d) 0 i).map (·.1) := by
          by_cases c : fo p q d i ∈ (ft (fo p q d) 0 i).map (·.1)
          · exact c
          · rw [decide_eq_false c] at hb; cases hb
        refine run_up rfl ⟨?_, _, _, rfl⟩
        rw [ft_yes (by rw [em]; exact hb)]
    · rintro σ' H' ⟨rfl, v5, v6, rfl⟩
      refine run_ret (ev_var rfl) fun H2 e2 => k z hz H2 ?_
      rw [show ((m : Int) + 1).toNat = m + 1 from by omega] at e2
      exact e2
/-! greatest_by -/
theorem sc_greatest_by : FnScope ["times", "n", "found", "here", "gap"] ["times", "n"] (defScope s_greatest_by) := ⟨rfl, rfl, rfl, by decide +kernel, rfl, by decide +kernel, by decide +kernel⟩
/-- first times of rests, told by those of offsets -/
def gbL (n : Int) (l : List (Int × Int)) : List (Int × Int) := l.foldl (fun acc c => if c.1 % n ∈ acc.map (·.1) then acc else acc ++ [(c.1 % n, c.2)]) []
theorem gb_snoc (n : Int) (l : List (Int × Int)) (c : Int × Int) : gbL n (l ++ [c]) = if c.1 % n ∈ (gbL n l).map (·.1) then gbL n l else gbL n l ++ [(c.1 % n, c.2)] := by unfold gbL; rw [List.foldl_append]; rfl
theorem gb_ft (f : Nat → Int) (n : Int) : ∀ T, gbL n (ft f 0 T) = ft f n T
  | 0 => rfl
  | T + 1 => by
    have ih := gb_ft f n T
    by_cases c : f T % 0 ∈ (ft f 0 T).map (·.1)
    · rw [ft_yes c, ih]
      obtain ⟨j, hj, e⟩ := (ft_keys _ T).mp c
      rw [Int.emod_zero, Int.emod_zero] at e
      exact (ft_yes ((ft_keys _ T).mpr ⟨j, hj, by rw [e]⟩)).symm
    · rw [ft_no c, gb_snoc, ih, Int.emod_zero, ft]
theorem gb_from {n : Int} : ∀ {l : List (Int × Int)} {e : Int × Int}, e ∈ gbL n l → ∃ c ∈ l, e.2 = c.2 := by
  intro l
  induction l using snoc_ind with
  | nil => intro e h; cases h
  | snoc l c ih =>
    intro e h
    rw [gb_snoc] at h
    split at h
    · obtain ⟨c', h1, h2⟩ := ih h
      exact ⟨c', List.mem_append_left _ h1, h2⟩
    · rcases List.mem_append.mp h with h | h
      · obtain ⟨c', h1, h2⟩ := ih h
        exact ⟨c', List.mem_append_left _ h1, h2⟩
      · rw [List.mem_singleton] at h
        exact ⟨c, List.mem_append_right _ List.mem_cons_self, by rw [h]⟩
theorem ft_rise (f : Nat → Int) (n : Int) : ∀ T, (ft f n T).Pairwise fun x y => x.2 < y.2
  | 0 => .nil
  | T + 1 => by
    have ih := ft_rise f n T
    by_cases c : f T % n ∈ (ft f n T).map (·.1)
    · rw [ft_yes c]; exact ih
    · rw [ft_no c, List.pairwise_append]
      refine ⟨ih, List.pairwise_singleton _ _, fun x hx y hy => ?_⟩
      rw [List.mem_singleton] at hy
      subst hy
      obtain ⟨k, hk, _⟩ := snd_mem.mp (List.mem_map.mpr ⟨x, hx, rfl⟩ : x.2 ∈ (ft f n T).map (·.2))
      show x.2 < (T : Int)
      omega
def sp_gb : Sp := fun vs H Q _ => ∃ z n f T, vs = [.ref z, .int n] ∧ H z = some (.dK (tabK (ft f 0 T))) ∧ 0 < n ∧ 0 < T ∧ T ≤ 10000001 ∧ RetV (.int (gtT f n T)) H Q
theorem use_gb {z : Addr} {n : Int} {f : Nat → Int} {T : Nat} {H : Hp} (h : H z = some (.dK (tabK (ft f 0 T)))) (hn : 0 < n) (h0 : 0 < T) (hT : T ≤ 10000001) : SpV sp_gb [.ref z, .int n] H (.int (gtT f n T)) := fun H1 e Q k E => ⟨z, n, f, T, rfl, e _ _ h, hn, h0, hT, fun H2 e2 => k H2 e2⟩
theorem ok_greatest_by {f : Addr} {fd : FuncData} (F : Fun K "greatest_by" "greatest_by" s_greatest_by f fd) (T : Tx K mg w) : FnOk P w K mg base CX0 1 f fd ["times", "n"] sp_gb := by
  refine F.ok sc_greatest_by (fun vs H Q E h => ?_) (fun cdv A outer s H vs Q E hr h => ?_)
  · obtain ⟨z, n, f, T, rfl, _⟩ := h; rfl
  · obtain ⟨z, n, g, N, rfl, hz, hn, h0, hN, k⟩ := h
    have len0 := ft_len (f := g) (n := 0) N
    refine ⟨_, (pss_cons (ps_set (i := 2) sc_greatest_by.nd rfl (Or.inr rfl) pe_dnewK)
          (pss_cons (ps_lock (ps_for PassesOwn.never rfl (pi_keys (pv 0)) (pg_name (i := 3) sc_greatest_by.nd rfl (Or.inl rfl))
            (pss_cons (ps_set (i := 4) sc_greatest_by.nd rfl (Or.inl rfl) (pe_op op_mod (pv 3) (pv 1)))
            (pss_cons (ps_if (PW.pt (pw_or (pt_cmp (pc_dnotin (hu_of hr) (pv 4) (pv 2)) rfl) (pw_or1 (pt_cmpR op_lt (pe_dget (hu_of hr) (pv 0) (pv 3) (fun _ _ => rfl)) (pe_dget (hu_of hr) (pv 2) (pv 4) (fun _ _ => rfl)) (nomark _)))))
              (pss_cons (ps_dput (hu_of hr) (pv 2) (pv 4) (pe_dget (hu_of hr) (pv 0) (pv 3) (fun _ _ => rfl)) rfl)
              pss_nil)
              pss_nil)
            pss_nil))))
          (pss_cons (ps_ret (pe_callB (cr_max rfl) (by rfl) T.n_max b_max (pa_cons (pe_lock (pe_lc (own := [("gap", 4)]) (g := gName 4) rfl sc_greatest_by.nd (pi_keys (pv 2)) (blkOk_by (own := [("gap", 4)]) (N := ["times", "n", "found", "here", "gap"]) (sc := defScope s_greatest_by) (by decide +kernel)) (fun _ _ _ _ _ => pg_name (i := 4) sc_greatest_by.nd rfl (Or.inl rfl)) (fun _ _ _ _ _ => pts_nil) (fun _ _ _ _ _ => (pe_dget (hu_of hr) (pv 2) (pv 4) (fun _ _ => rfl))))) pa_nil)))
          pss_nil))), Run.start (σ := [some (.ref z), some (.int n), none, none, none]) rfl ?_⟩
    refine run_asgD fun y hy => ?_
    have hzy : z ≠ y := fun e => by subst e; rw [hy] at hz; cases hz
    refine run_lock (a := z) (u := .dK (tabK (ft g 0 N))) (by rw [upd_ne hzy]; exact hz) trivial fun od => ?_
    rw [← upd_swap (Ne.symm hzy)]
    refine run_keys (D' := lockD _ _ z (.dK (tabK (ft g 0 N))) od) (ev_var rfl) (by rw [upd_ne hzy, upd_same]) (fun i σ' H' => H' = upd (upd H z (.frz od (.dK (tabK (ft g 0 N))))) y (.dK (tabK (gbL n ((ft g 0 N).take i)))) ∧ ∃ v3 v4, σ' = [some (.ref z), some (.int n), some (.ref y), v3, v4]) ⟨rfl, none, none, rfl⟩ ?_ ?_ ?_
    · rintro i σ' H' ⟨rfl, _⟩
      rw [upd_ne hzy, upd_same]
    · rintro i c σ' H' hi hc ⟨rfl, v3, v4, rfl⟩
      unfold tabK at hi hc
      rw [List.length_map] at hi
      rw [List.getElem?_map, List.getElem?_eq_getElem hi] at hc
      have hc := (Option.some.inj hc).symm
      subst hc
      have hce : (ft g 0 N)[i]? = some (ft g 0 N)[i] := List.getElem?_eq_getElem hi
      have hcm : (ft g 0 N)[i] ∈ ft g 0 N := List.getElem_mem hi
      have tk : (ft g 0 N).take (i + 1) = (ft g 0 N).take i ++ [(ft g 0 N)[i]] := by rw [List.take_add_one, hce]; rfl
      have rise : ∀ c' ∈ (ft g 0 N).take i, c'.2 < ((ft g 0 N)[i]).2 := fun c' hc' => by
        obtain ⟨j, hj⟩ := List.mem_iff_getElem?.mp hc'
        have hji : j < i := by
          have := (List.getElem?_eq_some_iff.mp hj).1
          rw [List.length_take] at this; omega
        rw [List.getElem?_take_of_lt hji] at hj
        have hjl := (List.getElem?_eq_some_iff.mp hj).1
        have e := (List.getElem?_eq_some_iff.mp hj).2
        rw [← e]
        exact List.pairwise_iff_getElem.mp (ft_rise g 0 N) j i hjl hi hji
      generalize (ft g 0 N)[i] = c at *
      have hzl : (upd (upd H z (.frz od (.dK (tabK (ft g 0 N))))) y (.dK (tabK (gbL n ((ft g 0 N).take i))))) z = some (.frz od (.dK (tabK (ft g 0 N)))) := by rw [upd_ne hzy, upd_same]
      have gt : ∀ {σ : L2.St}, σ[0]? = some (some (.ref z)) → σ[3]? = some (some (.int c.1)) → Ev (tDGet (tVar 0) (tVar 3)) σ (upd (upd H z (.frz od (.dK (tabK (ft g 0 N))))) y (.dK (tabK (gbL n ((ft g 0 N).take i))))) (.int c.2) := fun {σ} e1 e2 =>
        ev_dget (ev_var e1) (ev_var e2) (by
          have := DGet.kf (k := .inl c.1) hzl
          rw [tab_get (ft_nodup _) hcm] at this
          exact this)
      refine run_asg (v := .int (c.1 % n)) (ev_op (ev_var rfl) (ev_var rfl) (rv_I hn)) ?_
      have hdin := ev_dnin (td := tVar 2) (ty := tVar 4) (σ := [some (.ref z), some (.int n), some (.ref y), some (.int c.1), some (.int (c.1 % n))]) (H := upd (upd H z (.frz od (.dK (tabK (ft g 0 N))))) y (.dK (tabK (gbL n ((ft g 0 N).take i))))) (ev_var rfl) (ev_var rfl) (DGet.k (k := .inl (c.1 % n)) upd_same)
      rw [tab_some] at hdin
      refine run_if (b := !decide (c.1 % n ∈ (gbL n ((ft g 0 N).take i)).map (·.1))) (et_is (et_or (b := false) (et_test hdin) fun hb => ?_) (Bool.or_false _)) (fun hb => ?_) (fun hb => run_end ?_)
      · have hb : decide (c.1 % n ∈ (gbL n ((ft g 0 N).take i)).map (·.1)) = true := by revert hb; cases decide (c.1 % n ∈ (gbL n ((ft g 0 N).take i)).map (·.1)) <;> simp
        have hs : (valV (tabK (gbL n ((ft g 0 N).take i))) (.inl (c.1 % n))).isSome = true := by rw [tab_some]; exact hb
        have hv : ∃ e ∈ gbL n ((ft g 0 N).take i), valV (tabK (gbL n ((ft g 0 N).take i))) (.inl (c.1 % n)) = some (.int e.2) := by
          rw [tab_val] at hs ⊢
          cases hf : (gbL n ((ft g 0 N).take i)).find? fun p => decide (p.1 = c.1 % n) with
          | none => rw [hf] at hs; cases hs
          | some e => exact ⟨e, List.mem_of_find?_eq_some hf, rfl⟩
        obtain ⟨e, he, hv⟩ := hv
        obtain ⟨c', h1, h2⟩ := gb_from he
        have := rise c' h1
        refine et_is (et_test (ev_op (gt rfl rfl) (ev_dget (v := .int e.2) (ev_var rfl) (ev_var rfl) (by
          have := DGet.k (k := .inl (c.1 % n)) (H := upd (upd H z (.frz od (.dK (tabK (ft g 0 N))))) y (.dK (tabK (gbL n ((ft g 0 N).take i))))) (a := y) (kvs := tabK (gbL n ((ft g 0 N).take i))) upd_same
          rw [hv] at this
          exact this)) rv_I0)) (decide_eq_false (by omega))
      · have hb : c.1 % n ∉ (gbL n ((ft g 0 N).take i)).map (·.1) := by
          intro h; rw [decide_eq_true h] at hb; cases hb
        refine run_dput (k := .inl (c.1 % n)) (gt rfl rfl) (ev_var rfl) (ev_var rfl) ?_ ?_
        · have hl : ∀ l : List (Int × Int), (gbL n l).length ≤ l.length := by
            intro l
            induction l using snoc_ind with
            | nil => exact Nat.le_refl _
            | snoc l c ih =>
              rw [gb_snoc, List.length_append]
              split
              · show _ ≤ l.length + 1; omega
              · rw [List.length_append]; show _ + 1 ≤ l.length + 1; omega
          have h1 := hl ((ft g 0 N).take i)
          rw [List.length_take] at h1
          rw [tab_len]; exact Nat.lt_of_le_of_lt (show _ ≤ 10000001 by omega) (by decide)
        · refine run_end (run_up rfl ⟨?_, _, _, rfl⟩)
          rw [tab_snoc hb, tk, gb_snoc, if_neg hb]
      · have hb : c.1 % n ∈ (gbL n ((ft g 0 N).take i)).map (·.1) := by
          by_cases h : c.1 % n ∈ (gbL n ((ft g 0 N).take i)).map (·.1)
          · exact h
          · rw [decide_eq_false h] at hb; cases hb
        refine run_up rfl ⟨?_, _, _, rfl⟩
        rw [tk, gb_snoc, if_pos hb]
    · rintro σ' H' ⟨rfl, v3, v4, rfl⟩
      rw [tab_len, List.take_length, gb_ft]
      refine lock_end (by rw [upd_ne hzy, upd_same]) ?_
      have eH : upd (upd (upd H z (.frz od (.dK (tabK (ft g 0 N))))) y (.dK (tabK (ft g n N)))) z (.dK (tabK (ft g 0 N))) = upd H y (.dK (tabK (ft g n N))) := by
        funext c
        by_cases c1 : c = z
        · subst c1; rw [upd_same, upd_ne hzy, hz]
        · rw [upd_ne c1]
          by_cases c2 : c = y
          · subst c2; rw [upd_same, upd_same]
          · rw [upd_ne c2, upd_ne c2, upd_ne c1]
      rw [eH]
      have len1 := ft_len (f := g) (n := n) N
      refine run_ret (ev_maxNL (ns := (ft g n N).map (·.2)) (el_vals upd_same (ft_nodup _) (Nat.le_trans (show _ ≤ 10000001 by omega) (by decide)) (fun x => rfl) (fun _ => ev_var rfl) (fun _ _ _ => ev_var rfl) fun _ _ _ => ev_var rfl) (gt_mem h0) fun x hx => gt_max hx) fun H2 e2 => k H2 ((ex_upd hy).trans e2)
/-! least_start -/
theorem sc_least_start : FnScope ["one", "two", "d", "steps", "gain", "far", "most", "times", "lasts", "wrong", "n"] ["one", "two", "d"] (defScope s_least_start) := ⟨rfl, rfl, rfl, by decide +kernel, rfl, by decide +kernel, by decide +kernel⟩
def stL (p q : Pl) (d : Int) : Nat := startT (fo p q d) (beg p q d) (lcmP p q) (gain p q).natAbs
theorem dc_get {α : Type} {kf : α → Key} {vf : α → V} (hi : ∀ x y, kf x = kf y → x = y) : ∀ {l : List α} {c : α}, c ∈ l → valV (dcT kf vf l) (kf c) = some (vf c) := by
  intro l
  induction l using snoc_ind with
  | nil => intro c h; cases h
  | snoc l x ih =>
    intro c h
    rw [dcT_snoc, valV_put]
    by_cases e : kf c = kf x
    · rw [if_pos e, hi _ _ e]
    · rw [if_neg e]
      rcases List.mem_append.mp h with h | h
      · exact ih h
      · rw [List.mem_singleton] at h
        exact absurd (by rw [h]) e
def sp_start (C : Addr) : Sp := fun vs H Q _ => ∃ a b p q d, vs = [.ref a, .ref b, .int d] ∧ PlanAt C H a p ∧ POk p ∧ PlanAt C H b q ∧ POk q ∧ gain p q ≠ 0 ∧ d.natAbs ≤ 100 ∧ RetV (.int ((stL p q d : Nat) : Int)) H Q
theorem use_start {C a b : Addr} {p q : Pl} {d : Int} {H : Hp} (h1 : PlanAt C H a p) (o1 : POk p) (h2 : PlanAt C H b q) (o2 : POk q) (hg : gain p q ≠ 0) (hd : d.natAbs ≤ 100) : SpV (sp_start C) [.ref a, .ref b, .int d] H (.int ((stL p q d : Nat) : Int)) := fun H1 e Q k E => ⟨a, b, p, q, d, rfl, h1.mono e, o1, h2.mono e, o2, hg, hd, fun H2 e2 => k H2 e2⟩
theorem rgs_one (N : Nat) : rgs 1 N = ((List.range N).map (· + 1)).map fun n : Nat => V.int (n : Int) := by
  unfold rgs
  rw [List.map_map]
  refine List.map_congr_left fun i _ => ?_
  show V.int (1 + (i : Int)) = V.int ((i + 1 : Nat) : Int)
  congr 1
  omega
theorem ok_least_start {f : Addr} {fd : FuncData} (F : Fun K "least_start" "least_start" s_least_start f fd) (T : Tx K mg w) (c_pace : Cal P w K mg base CX0 3 "pace" (sp_pace T.cPlan)) (c_far_size : Cal P w K mg base CX0 4 "far_size" (sp_fars T.cPlan)) (c_steady : Cal P w K mg base CX0 1 "steady" (sp_steady T.cPlan)) (c_first_times : Cal P w K mg base CX0 4 "first_times" (sp_first T.cPlan)) (c_greatest_by : Cal P w K mg base CX0 1 "greatest_by" sp_gb) : FnOk P w K mg base CX0 5 f fd ["one", "two", "d"] (sp_start T.cPlan) := by
  refine F.ok sc_least_start (fun vs H Q E h => ?_) (fun cdv A outer s H vs Q E hr h => ?_)
  · obtain ⟨a, b, p, q, d, rfl, _⟩ := h; rfl
  · obtain ⟨a, b, p, q, d, rfl, h1, o1, h2, o2, hg, hd, k⟩ := h
    have l36 := lcm_le36 o1.ok o2.ok
    have a1 := o1.ok.hl
    have a2 := o2.ok.hl
    have g72 := gain_abs o1.ok o2.ok
    have fl := far_le o1.ok o2.ok hd hg
    have b106 : beg p q d ≤ 106 := by unfold beg; omega
    have ml : mostT (fo p q d) (beg p q d) (lcmP p q) (gain p q).natAbs ≤ 5000000 := by
      have fl : farT (fo p q d) (beg p q d) (lcmP p q) (gain p q).natAbs ≤ 43000 := fl
      have e1 : 3 * (farT (fo p q d) (beg p q d) (lcmP p q) (gain p q).natAbs + (gain p q).natAbs) / (gain p q).natAbs ≤ 130000 := by
        refine Nat.div_le_of_le_mul ?_
        have : 1 * 130000 ≤ (gain p q).natAbs * 130000 := Nat.mul_le_mul_right _ (by omega)
        omega
      have e2 : lcmP p q * (3 * (farT (fo p q d) (beg p q d) (lcmP p q) (gain p q).natAbs + (gain p q).natAbs) / (gain p q).natAbs + 3) ≤ 36 * 130003 := Nat.mul_le_mul l36 (by omega)
      unfold mostT
      omega
    refine ⟨_, (pss_cons (ps_asg (pe_cx c_pace hr (by decide) (by rfl) pass0 (pa_cons (pv 0) (pa_cons (pv 1) pa_nil))) (pg_tup rfl (pgs_cons (pg_name (i := 3) sc_least_start.nd rfl (Or.inr rfl)) (pgs_cons (pg_name (i := 4) sc_least_start.nd rfl (Or.inr rfl)) pgs_nil))))
          (pss_cons (ps_set (i := 4) sc_least_start.nd rfl (Or.inr rfl) (pe_callB call_abs (by rfl) T.n_abs b_abs (pa_cons (pv 4) pa_nil)))
          (pss_cons (ps_set (i := 5) sc_least_start.nd rfl (Or.inl rfl) (pe_cx c_far_size hr (by decide) (by rfl) pass0 (pa_cons (pv 0) (pa_cons (pv 1) (pa_cons (pv 2) pa_nil)))))
          (pss_cons (ps_set (i := 6) sc_least_start.nd rfl (Or.inl rfl) (pe_op op_add (pe_cx c_steady hr (by decide) (by rfl) pass0 (pa_cons (pv 0) (pa_cons (pv 1) (pa_cons (pv 2) pa_nil)))) (pe_op op_mul (pv 3) (pe_op op_add (pe_op op_fdiv (pe_op op_mul pe_int (pe_op op_add (pv 5) (pv 4))) (pv 4)) pe_int))))
          (pss_cons (ps_set (i := 7) sc_least_start.nd rfl (Or.inr rfl) (pe_cx c_first_times hr (by decide) (by rfl) pass0 (pa_cons (pv 0) (pa_cons (pv 1) (pa_cons (pv 2) (pa_cons (pv 6) pa_nil))))))
          (pss_cons (ps_set (i := 8) sc_least_start.nd rfl (Or.inr rfl) (pe_dc (own := [("n", 10)]) (g := gName 10) rfl sc_least_start.nd (pi_range2 rfl T.n_range (pa_cons pe_int (pa_cons (pe_op op_add (pe_op op_add (pv 5) (pv 4)) pe_int) pa_nil))) (blkOk_by (own := [("n", 10)]) (N := ["one", "two", "d", "steps", "gain", "far", "most", "times", "lasts", "wrong", "n"]) (sc := defScope s_least_start) (by decide +kernel)) (fun _ _ _ _ _ => pg_name (i := 10) sc_least_start.nd rfl (Or.inl rfl)) (fun _ _ _ _ _ => pts_nil) (fun _ _ _ _ _ => (pv 10)) (fun _ _ _ _ _ => (pe_cx c_greatest_by hr (by decide) (by rfl) pass0 (pa_cons (pv 7) (pa_cons (pv 10) pa_nil))))))
          (pss_cons (ps_setLc (i := 9) (own := [("n", 10)]) (g := gName 10) rfl sc_least_start.nd rfl rfl (sw_true rfl rfl rfl (by decide +kernel)) (pi_range2 rfl T.n_range (pa_cons pe_int (pa_cons (pe_op op_add (pv 5) pe_int) pa_nil))) (blkOk_by (own := [("n", 10)]) (N := ["one", "two", "d", "steps", "gain", "far", "most", "times", "lasts", "wrong", "n"]) (sc := defScope s_least_start) (by decide +kernel)) (fun _ _ _ _ _ => pg_name (i := 10) sc_least_start.nd rfl (Or.inl rfl)) (fun _ _ _ _ _ => pts_one (pt_cmpR op_ne (pe_dget (hu_of hr) (pv 8) (pe_op op_add (pv 10) (pv 4)) (fun _ _ => rfl)) (pe_op op_add (pe_dget (hu_of hr) (pv 8) (pv 10) (fun _ _ => rfl)) (pv 3)) (nomark _))) (fun _ _ _ _ _ => (pv 10)))
          (pss_cons (ps_ret (pe_op op_add (pe_callB (cr_max rfl) (by rfl) T.n_max b_max (pa_cons (pe_op op_cat (pe_lst (pa_cons pe_int pa_nil)) (pv 9)) pa_nil)) pe_int))
          pss_nil)))))))), Run.start (σ := [some (.ref a), some (.ref b), some (.int d), none, none, none, none, none, none, none, none]) rfl ?_⟩
    refine run_unp2 (eu_call (ea2 (ev_var rfl) (ev_var rfl)) (use_pace h1 o1 h2 o2)) ?_
    refine run_asg (ev_abs (ev_var rfl)) ?_
    refine run_asg (ev_call0 (ea3 (ev_var rfl) (ev_var rfl) (ev_var rfl)) (use_fars h1 o1 h2 o2 hg hd)) ?_
    refine run_asg (v := .int ((mostT (fo p q d) (beg p q d) (lcmP p q) (gain p q).natAbs : Nat) : Int)) (ev_is (ev_op (ev_call0 (ea3 (ev_var rfl) (ev_var rfl) (ev_var rfl)) (use_steady h1 o1 h2 o2)) (ev_op (ev_var rfl) (ev_op (ev_op (ev_op ev_c (ev_op (ev_var rfl) (ev_var rfl) rv_I0) (rv_I (.inl ⟨by decide, by decide⟩))) (ev_var rfl) (rv_I ⟨by omega, by omega⟩)) ev_c rv_I0) (rv_I (.inl ⟨by omega, by omega⟩))) rv_I0) ?_) ?_
    · unfold mostT farL
      simp only [Int.natCast_add, Int.natCast_mul, Int.natCast_ediv]
      rfl
    refine run_asgK (evd_call (ea4 (ev_var rfl) (ev_var rfl) (ev_var rfl) (ev_var rfl)) (use_first h1 o1 h2 o2 (by omega))) fun z hz => ?_
    refine run_asgK (evd_dc (α := Nat) (l := (List.range (farL p q d + (gain p q).natAbs)).map (· + 1)) (g := fun n : Nat => V.int (n : Int)) (fun n : Nat => Sum.inl (n : Int)) (fun n : Nat => .int (lastsT (fo p q d) (beg p q d) (lcmP p q) (gain p q).natAbs n)) (ej_of (ei_rng2 (lo := 1) (n := ((farL p q d : Nat) : Int) + ((gain p q).natAbs : Int) + 1) (ea2 ev_c (ev_op (ev_op (ev_var rfl) (ev_var rfl) rv_I0) ev_c rv_I0)) (by decide) (by decide) (by omega) (by omega)) ?_) (by rw [List.length_map, List.length_range]; omega) (fun x => rfl) (fun c hc => ev_var rfl) fun c hc => ?_) fun y hy => ?_
    · rw [← rgs_one]
      congr 1
      omega
    · obtain ⟨i, _, rfl⟩ := List.mem_map.mp hc
      exact ev_call0 (ea2 (ev_var rfl) (ev_var rfl)) (use_gb upd_same (by omega) (Nat.succ_pos _) (by omega))
    have hyd : (upd (upd H z (.dK (tabK (ft (fo p q d) 0 (mostT (fo p q d) (beg p q d) (lcmP p q) (gain p q).natAbs + 1))))) y (.dK (dcT (fun n : Nat => (Sum.inl (n : Int) : Key)) (fun n : Nat => V.int (lastsT (fo p q d) (beg p q d) (lcmP p q) (gain p q).natAbs n)) ((List.range (farL p q d + (gain p q).natAbs)).map (· + 1))))) y = some (.dK (dcT (fun n : Nat => (Sum.inl (n : Int) : Key)) (fun n : Nat => V.int (lastsT (fo p q d) (beg p q d) (lcmP p q) (gain p q).natAbs n)) ((List.range (farL p q d + (gain p q).natAbs)).map (· + 1)))) := upd_same
    have eHy : Ex H (upd (upd H z (.dK (tabK (ft (fo p q d) 0 (mostT (fo p q d) (beg p q d) (lcmP p q) (gain p q).natAbs + 1))))) y (.dK (dcT (fun n : Nat => (Sum.inl (n : Int) : Key)) (fun n : Nat => V.int (lastsT (fo p q d) (beg p q d) (lcmP p q) (gain p q).natAbs n)) ((List.range (farL p q d + (gain p q).natAbs)).map (· + 1))))) := (ex_upd hz).trans (ex_upd hy)
    generalize upd (upd H z (.dK (tabK (ft (fo p q d) 0 (mostT (fo p q d) (beg p q d) (lcmP p q) (gain p q).natAbs + 1))))) y (.dK (dcT (fun n : Nat => (Sum.inl (n : Int) : Key)) (fun n : Nat => V.int (lastsT (fo p q d) (beg p q d) (lcmP p q) (gain p q).natAbs n)) ((List.range (farL p q d + (gain p q).natAbs)).map (· + 1)))) = G at *
    have get : ∀ n : Nat, 1 ≤ n → n ≤ farL p q d + (gain p q).natAbs → DGet G y (.int (n : Int)) (some (.int (lastsT (fo p q d) (beg p q d) (lcmP p q) (gain p q).natAbs n))) := fun n n1 n2 => by
      have := DGet.k (k := .inl (n : Int)) hyd
      rw [dc_get (kf := fun n : Nat => (Sum.inl (n : Int) : Key)) (fun x y e => by have := Sum.inl.inj e; omega) (List.mem_map.mpr ⟨n - 1, List.mem_range.mpr (by omega), by omega⟩ : n ∈ (List.range (farL p q d + (gain p q).natAbs)).map (· + 1))] at this
      exact this
    refine run_asgL (el_lc (α := Nat) (l := (List.range (farL p q d)).map (· + 1)) (g := fun n : Nat => V.int (n : Int)) (wrongB (fo p q d) (beg p q d) (lcmP p q) (gain p q).natAbs) (fun n : Nat => V.int (n : Int)) (ej_of (ei_rng2 (lo := 1) (n := ((farL p q d : Nat) : Int) + 1) (ea2 ev_c (ev_op (ev_var rfl) ev_c rv_I0)) (by decide) (by decide) (by omega) (by omega)) ?_) ?_ (fun x => rfl) (fun c hc => ?_) fun c hc _ => ev_var rfl) fun x hx => ?_
    · rw [← rgs_one]
      congr 1
      omega
    · rw [List.length_map, List.length_range]; exact Nat.le_trans fl (by decide)
    · obtain ⟨i, hi, rfl⟩ := List.mem_map.mp hc
      have hi := List.mem_range.mp hi
      refine et_is (et_test (ev_op (ev_dget (ev_var rfl) (ev_is (w := .int ((i + 1 + (gain p q).natAbs : Nat) : Int)) (ev_op (ev_var rfl) (ev_var rfl) rv_I0) (by congr 1)) (get (i + 1 + (gain p q).natAbs) (by omega) (by omega))) (ev_op (ev_dget (ev_var rfl) (ev_var rfl) (get (i + 1) (by omega) (by omega))) (ev_var rfl) rv_I0) (rv_ne rfl))) ?_
      unfold wrongB
      congr 1
      exact decide_eq_decide.mpr ⟨fun e => by injection e, fun e => by rw [e]⟩
    have wl : (wrongT (fo p q d) (beg p q d) (lcmP p q) (gain p q).natAbs).length ≤ farL p q d := by
      unfold wrongT
      refine Nat.le_trans (List.length_filter_le _ _) ?_
      rw [List.length_map, List.length_range]; exact Nat.le_refl _
    have fm := foldl_max ((wrongT (fo p q d) (beg p q d) (lcmP p q) (gain p q).natAbs).map fun n : Nat => (n : Int)) 0
    refine run_ret (v := .int ((stL p q d : Nat) : Int)) (ev_is (ev_op (ev_maxNL (ns := 0 :: (wrongT (fo p q d) (beg p q d) (lcmP p q) (gain p q).natAbs).map fun n : Nat => (n : Int)) (m := topL ((wrongT (fo p q d) (beg p q d) (lcmP p q) (gain p q).natAbs).map fun n : Nat => (n : Int))) ?_ ?_ ?_) ev_c rv_I0) ?_) fun H2 e2 => k H2 ((eHy.trans (ex_upd hx)).trans e2)
    · have e : (0 :: (wrongT (fo p q d) (beg p q d) (lcmP p q) (gain p q).natAbs).map fun n : Nat => (n : Int)).map V.int = [.int 0] ++ (wrongT (fo p q d) (beg p q d) (lcmP p q) (gain p q).natAbs).map fun n : Nat => V.int (n : Int) := by
        rw [List.map_cons, List.map_map]; rfl
      rw [e]
      exact el_cat (el_lst (ea1 ev_c) (by show 1 ≤ 100000; decide)) (fun _ _ => ev_var rfl) upd_same (by rw [List.length_map]; show 1 + (wrongT (fo p q d) (beg p q d) (lcmP p q) (gain p q).natAbs).length ≤ 100000; omega)
    · rcases fm.2.2 with h | h
      · exact List.mem_cons.mpr (.inl h)
      · exact List.mem_cons.mpr (.inr h)
    · intro y hy
      rcases List.mem_cons.mp hy with rfl | hy
      · exact fm.1
      · exact fm.2.1 y hy
    · have h0 : 0 ≤ topL ((wrongT (fo p q d) (beg p q d) (lcmP p q) (gain p q).natAbs).map fun n : Nat => (n : Int)) := fm.1
      unfold stL startT
      congr 1
      omega
/-! pattern -/
theorem sc_pattern : FnScope ["one", "two", "d", "steps", "gain"] ["one", "two", "d"] (defScope s_pattern) := ⟨rfl, rfl, rfl, by decide +kernel, rfl, by decide +kernel, by decide +kernel⟩
def sp_pattern (T : Tx K mg w) : Sp := fun vs H Q E => ∃ a b p q d, vs = [.ref a, .ref b, .int d] ∧ PlanAt T.cPlan H a p ∧ POk p ∧ PlanAt T.cPlan H b q ∧ POk q ∧ d.natAbs ≤ 100 ∧ ((patErr T p q (some d) = none ∧ RetU [.int ((stL p q d : Nat) : Int), .int ((lcmP p q : Nat) : Int), .int ((gain p q).natAbs : Int)] H Q) ∨ (∃ C, patErr T p q (some d) = some C ∧ ∀ H', Ex H H' → E (.ref C) none H'))
theorem pat_none {T : Tx K mg w} {p q : Pl} {d : Int} : patErr T p q (some d) = none ↔ gain p q ≠ 0 ∧ fullD p q d = true := by
  unfold patErr
  show (if gain p q = 0 then some T.cNoGain else if fullD p q d = true then none else some T.cNeverMeet) = none ↔ _
  by_cases h : gain p q = 0
  · rw [if_pos h]; simp [h]
  · rw [if_neg h]
    by_cases h2 : fullD p q d = true
    · rw [if_pos h2]; simp [h, h2]
    · rw [if_neg h2]; simp [h2]
theorem use_pattern {T : Tx K mg w} {a b : Addr} {p q : Pl} {d : Int} {H : Hp} (h1 : PlanAt T.cPlan H a p) (o1 : POk p) (h2 : PlanAt T.cPlan H b q) (o2 : POk q) (hd : d.natAbs ≤ 100) (hg : gain p q ≠ 0) (hf : fullD p q d = true) : SpU (sp_pattern T) [.ref a, .ref b, .int d] H [.int ((stL p q d : Nat) : Int), .int ((lcmP p q : Nat) : Int), .int ((gain p q).natAbs : Int)] := RetU.u fun H1 e Q k E => ⟨a, b, p, q, d, rfl, h1.mono e, o1, h2.mono e, o2, hd, .inl ⟨pat_none.mpr ⟨hg, hf⟩, k⟩⟩
theorem ok_pattern {f : Addr} {fd : FuncData} (F : Fun K "pattern" "pattern" s_pattern f fd) (T : Tx K mg w) (c_check_pattern : Cal P w K mg base (L2.CX P w) 6 "check_pattern" (sp_cpat T)) (c_pace : Cal P w K mg base CX0 3 "pace" (sp_pace T.cPlan)) (c_least_start : Cal P w K mg base CX0 5 "least_start" (sp_start T.cPlan)) : FnOk P w K mg base (L2.CX P w) 7 f fd ["one", "two", "d"] (sp_pattern T) := by
  refine F.okX sc_pattern (fun vs H Q E h => ?_) (fun cdv A outer s H vs Q E hr h => ?_)
  · obtain ⟨a, b, p, q, d, rfl, _⟩ := h; rfl
  · obtain ⟨a, b, p, q, d, rfl, h1, o1, h2, o2, hd, k⟩ := h
    refine ⟨_, (pss_cons (ps_expr (pe_cx c_check_pattern hr (by decide) (by rfl) passE (pa_cons (pv 0) (pa_cons (pv 1) (pa_cons (pv 2) pa_nil)))))
          (pss_cons (ps_asg (pe_cx c_pace hr (by decide) (by rfl) pass0 (pa_cons (pv 0) (pa_cons (pv 1) pa_nil))) (pg_tup rfl (pgs_cons (pg_name (i := 3) sc_pattern.nd rfl (Or.inl rfl)) (pgs_cons (pg_name (i := 4) sc_pattern.nd rfl (Or.inl rfl)) pgs_nil))))
          (pss_cons (ps_ret (pe_tup (pa_cons (pe_cx c_least_start hr (by decide) (by rfl) pass0 (pa_cons (pv 0) (pa_cons (pv 1) (pa_cons (pv 2) pa_nil)))) (pa_cons (pv 3) (pa_cons (pe_callB call_abs (by rfl) T.n_abs b_abs (pa_cons (pv 4) pa_nil)) pa_nil)))))
          pss_nil))), Run.start (σ := [some (.ref a), some (.ref b), some (.int d), none, none]) rfl ?_⟩
    refine run_dropC (ea3 (ev_var rfl) (ev_var rfl) (ev_var rfl)) fun H1 e1 => ⟨a, b, p, q, _, _, rfl, h1.mono e1, o1, h2.mono e1, o2, wh_int, ?_⟩
    rcases k with ⟨hp, k⟩ | ⟨C, hp, k⟩
    · refine .inl ⟨hp, fun H2 e2 => ?_⟩
      have hg := (pat_none.mp hp).1
      refine (run_unp2 (eu_call (ea2 (ev_var rfl) (ev_var rfl)) (use_pace h1 o1 h2 o2)) ?_ : Run _ _ _ H) H2 (e1.trans e2)
      refine run_retU (eu_tup (ea3 (ev_call0 (ea3 (ev_var rfl) (ev_var rfl) (ev_var rfl)) (use_start h1 o1 h2 o2 hg hd)) (ev_var rfl) (ev_abs (ev_var rfl))) (by show 3 ≤ 100000; decide)) ?_
      exact fun x hx H3 e3 => k x hx H3 e3
    · exact .inr ⟨C, hp, fun H2 e2 => k H2 (e1.trans e2)⟩
/-! latest_by -/
theorem sc_latest_by : FnScope ["one", "two", "d", "n", "start", "steps", "gain", "near"] ["one", "two", "d", "n"] (defScope s_latest_by) := ⟨rfl, rfl, rfl, by decide +kernel, rfl, by decide +kernel, by decide +kernel⟩
theorem fullD_iffP {p q : Pl} {d : Int} : fullD p q d = true ↔ fullB (fo p q d) (beg p q d) (lcmP p q) (gain p q) := by unfold fullD; exact decide_eq_true_iff
theorem full_ef {p q : Pl} {d : Int} (hg : gain p q ≠ 0) (h : fullD p q d = true) : EF (fo p q d) (beg p q d) (lcmP p q) (gain p q) := (full_iff hg).mp (fullD_iffP.mp h)
theorem full_ok {p q : Pl} {d : Int} (o1 : Mw.Ok p) (o2 : Mw.Ok q) (hg : gain p q ≠ 0) (h : fullD p q d = true) {n : Nat} (hn : 0 < n) : okT p q n d = true := okT_full o1.r0 o2.r0 (full_ef hg h) hn
theorem full_gr {p q : Pl} {d : Int} (o1 : Mw.Ok p) (o2 : Mw.Ok q) (hg : gain p q ≠ 0) (h : fullD p q d = true) {n : Nat} (hn : 0 < n) : grV p q n d = .int (grP p q d n) := by
  unfold grV
  rw [if_pos (full_ok o1 o2 hg h hn)]
def sp_lby (C : Addr) : Sp := fun vs H Q _ => ∃ a b p q d, ∃ n : Nat, vs = [.ref a, .ref b, .int d, .int (n : Int)] ∧ PlanAt C H a p ∧ POk p ∧ PlanAt C H b q ∧ POk q ∧ d.natAbs ≤ 100 ∧ gain p q ≠ 0 ∧ fullD p q d = true ∧ 0 < n ∧ RetV (.int (grP p q d n)) H Q
theorem use_lby {C a b : Addr} {p q : Pl} {d : Int} {n : Nat} {H : Hp} (h1 : PlanAt C H a p) (o1 : POk p) (h2 : PlanAt C H b q) (o2 : POk q) (hd : d.natAbs ≤ 100) (hg : gain p q ≠ 0) (hf : fullD p q d = true) (hn : 0 < n) : SpV (sp_lby C) [.ref a, .ref b, .int d, .int (n : Int)] H (.int (grP p q d n)) := fun H1 e Q k E => ⟨a, b, p, q, d, n, rfl, h1.mono e, o1, h2.mono e, o2, hd, hg, hf, hn, fun H2 e2 => k H2 e2⟩
theorem st_le {p q : Pl} {d : Int} (o1 : Mw.Ok p) (o2 : Mw.Ok q) (hd : d.natAbs ≤ 100) (hg : gain p q ≠ 0) (hf : fullD p q d = true) : stL p q d ≤ farL p q d + 1 ∧ stL p q d ≤ 43001 ∧ 1 ≤ stL p q d := by
  have h1 := (start_spec (fo_per o1.r0 o2.r0 d) hg (full_ef hg hf)).2.2
  have h2 := far_le o1 o2 hd hg
  have h3 : 1 ≤ stL p q d := by unfold stL startT; omega
  have h1 : stL p q d ≤ farL p q d + 1 := h1
  omega
theorem ok_latest_by {f : Addr} {fd : FuncData} (F : Fun K "latest_by" "latest_by" s_latest_by f fd) (T : Tx K mg w) (c_check_size : Cal P w K mg base (L2.CX P w) 2 "check_size" (sp_csize T)) (c_pattern : Cal P w K mg base (L2.CX P w) 7 "pattern" (sp_pattern T)) (c_greatest_time : Cal P w K mg base CX0 6 "greatest_time" (sp_gt T.cPlan)) : FnOk P w K mg base (L2.CX P w) 8 f fd ["one", "two", "d", "n"] (sp_lby T.cPlan) := by
  refine F.okX sc_latest_by (fun vs H Q E h => ?_) (fun cdv A outer s H vs Q E hr h => ?_)
  · obtain ⟨a, b, p, q, d, n, rfl, _⟩ := h; rfl
  · obtain ⟨a, b, p, q, d, n, rfl, h1, o1, h2, o2, hd, hg, hf, hn, k⟩ := h
    have l36 := lcm_le36 o1.ok o2.ok
    have g72 := gain_abs o1.ok o2.ok
    obtain ⟨s1, s2, s3⟩ := st_le o1.ok o2.ok hd hg hf
    refine ⟨_, (pss_cons (ps_expr (pe_cx c_check_size hr (by decide) (by rfl) passE (pa_cons (pv 3) pa_nil)))
          (pss_cons (ps_asg (pe_cx c_pattern hr (by decide) (by rfl) passE (pa_cons (pv 0) (pa_cons (pv 1) (pa_cons (pv 2) pa_nil)))) (pg_tup rfl (pgs_cons (pg_name (i := 4) sc_latest_by.nd rfl (Or.inl rfl)) (pgs_cons (pg_name (i := 5) sc_latest_by.nd rfl (Or.inl rfl)) (pgs_cons (pg_name (i := 6) sc_latest_by.nd rfl (Or.inl rfl)) pgs_nil)))))
          (pss_cons (ps_if (pt_cmpR op_lt (pv 3) (pv 4) (nomark _))
            (pss_cons (ps_ret (pe_cx c_greatest_time hr (by decide) (by rfl) pass0 (pa_cons (pv 0) (pa_cons (pv 1) (pa_cons (pv 3) (pa_cons (pv 2) pa_nil))))))
            pss_nil)
            pss_nil)
          (pss_cons (ps_set (i := 7) sc_latest_by.nd rfl (Or.inl rfl) (pe_op op_add (pv 4) (pe_op op_mod (pe_op op_sub (pv 3) (pv 4)) (pv 6))))
          (pss_cons (ps_ret (pe_op op_add (pe_cx c_greatest_time hr (by decide) (by rfl) pass0 (pa_cons (pv 0) (pa_cons (pv 1) (pa_cons (pv 7) (pa_cons (pv 2) pa_nil))))) (pe_op op_mul (pv 5) (pe_op op_fdiv (pe_op op_sub (pv 3) (pv 7)) (pv 6)))))
          pss_nil))))), Run.start (σ := [some (.ref a), some (.ref b), some (.int d), some (.int (n : Int)), none, none, none, none]) rfl ?_⟩
    refine run_dropC (ea1 (ev_var rfl)) fun H1 e1 => ⟨_, _, rfl, wh_int, .inl ⟨decide_eq_true (by omega), fun H2 e2 => ?_⟩⟩
    refine (run_unp3 (eu_call (ea3 (ev_var rfl) (ev_var rfl) (ev_var rfl)) (use_pattern h1 o1 h2 o2 hd hg hf)) ?_ : Run _ _ _ H) H2 (e1.trans e2)
    refine run_if (et_test (ev_op (ev_var rfl) (ev_var rfl) rv_I0)) (fun hb => ?_) (fun hb => run_end ?_)
    · have hb := of_decide_eq_true hb
      refine run_ret (ev_call0 (ea4 (ev_var rfl) (ev_var rfl) (ev_var rfl) (ev_var rfl)) (use_gt h1 o1 h2 o2 hn (by omega) (by omega))) fun H3 e3 => ?_
      rw [full_gr o1.ok o2.ok hg hf hn]
      exact k H3 e3
    · have hb := of_decide_eq_false hb
      have hs : stL p q d ≤ n := by omega
      have nm : (n - stL p q d) % (gain p q).natAbs < (gain p q).natAbs := Nat.mod_lt _ (by omega)
      have nn : nearT (stL p q d) (gain p q).natAbs n ≤ n := by
        have := Nat.mod_le (n - stL p q d) (gain p q).natAbs
        unfold nearT; omega
      have n0 : 0 < nearT (stL p q d) (gain p q).natAbs n := by unfold nearT; omega
      refine run_asg (v := .int ((nearT (stL p q d) (gain p q).natAbs n : Nat) : Int)) (ev_is (ev_op (ev_var rfl) (ev_op (ev_op (ev_var rfl) (ev_var rfl) rv_I0) (ev_var rfl) (rv_I (by omega))) rv_I0) ?_) ?_
      · unfold nearT
        rw [Int.natCast_add, Int.natCast_emod, Int.natCast_sub hs]
      have key : grP p q d n = grP p q d (nearT (stL p q d) (gain p q).natAbs n) + ((lcmP p q : Nat) : Int) * (((n - nearT (stL p q d) (gain p q).natAbs n) / (gain p q).natAbs : Nat) : Int) := gr_near (fo_per o1.ok.r0 o2.ok.r0 d) hg (full_ef hg hf) hs
      refine run_ret (v := .int (grP p q d n)) (ev_is (ev_op (ev_is (ev_call0 (ea4 (ev_var rfl) (ev_var rfl) (ev_var rfl) (ev_var rfl)) (use_gt h1 o1 h2 o2 n0 (by unfold nearT; omega) (by omega))) (full_gr o1.ok o2.ok hg hf n0)) (ev_op (ev_var rfl) (ev_op (ev_op (ev_var rfl) (ev_var rfl) rv_I0) (ev_var rfl) (rv_I ⟨by omega, by omega⟩)) (rv_I (.inl ⟨by omega, by omega⟩))) rv_I0) ?_) fun H3 e3 => k H3 e3
      rw [key, Int.natCast_ediv, Int.natCast_sub nn]
/-! are_steps -/
theorem sc_are_steps : FnScope ["thing", "least", "step"] ["thing", "least"] (defScope s_are_steps) := ⟨rfl, rfl, rfl, by decide +kernel, rfl, by decide +kernel, by decide +kernel⟩
def areB (z : List Nat) (k : Int) : Bool := (decide (k ≤ (z.length : Int)) && decide ((z.length : Int) ≤ 6)) && z.all isStep
theorem isStep_dec (c : Nat) : decide ([c] = [102] ∨ [c] = [98] ∨ [c] = [115]) = isStep c := by
  by_cases h1 : c = 102
  · subst h1; rfl
  · by_cases h2 : c = 98
    · subst h2; rfl
    · by_cases h3 : c = 115
      · subst h3; rfl
      · have e : isStep c = false := by unfold isStep; simp [h1, h2, h3]
        rw [e]
        simp [h1, h2, h3]
/-- what are_steps says of a thing -/
def ArgV (K : PySem.W.Frag) (H : Hp) (x : V) (k : Int) (b : Bool) : Prop := (∃ z, x = .str (S z) ∧ z.length ≤ 1000 ∧ b = areB z k) ∨ (b = false ∧ ∃ t, (∀ H', Ex H H' → TyX K H' x t) ∧ PySem.W.kitOne K t (.type "str") = some false)
theorem ArgV.mono {H H' : Hp} {x : V} {k : Int} {b : Bool} (e : Ex H H') (h : ArgV K H x k b) : ArgV K H' x k b := h.elim (fun h => .inl h) fun ⟨hb, t, h1, h2⟩ => .inr ⟨hb, t, fun H2 e2 => h1 H2 (e.trans e2), h2⟩
theorem argv_str {H : Hp} {z : List Nat} {k : Int} {b : Bool} (hl : z.length ≤ 1000) (h : areB z k = b) : ArgV K H (.str (S z)) k b := .inl ⟨z, rfl, hl, h.symm⟩
theorem argv_non {H : Hp} {k : Int} : ArgV K H .non k false := .inr ⟨rfl, _, fun _ _ => .base .non, kit_ty (by decide +kernel)⟩
theorem argv_int {H : Hp} {i k : Int} : ArgV K H (.int i) k false := .inr ⟨rfl, _, fun _ _ => .base (.int i), kit_ty (by decide +kernel)⟩
theorem argv_lst {H : Hp} {a : Addr} {xs : List V} {k : Int} (h : H a = some (.lst xs)) : ArgV K H (.ref a) k false := .inr ⟨rfl, _, fun _ e => .base (.lst (e _ _ h)), kit_ty (by decide +kernel)⟩
def sp_are (K : PySem.W.Frag) : Sp := fun vs H Q _ => ∃ x k b, vs = [x, .int k] ∧ ArgV K H x k b ∧ RetV (.bl b) H Q
theorem use_are {x : V} {k : Int} {b : Bool} {H : Hp} (h : ArgV K H x k b) : SpV (sp_are K) [x, .int k] H (.bl b) := fun H1 e Q q E => ⟨x, k, b, rfl, h.mono e, fun H2 e2 => q H2 e2⟩
theorem ok_are_steps {f : Addr} {fd : FuncData} (F : Fun K "are_steps" "are_steps" s_are_steps f fd) (T : Tx K mg w) : FnOk P w K mg base CX0 1 f fd ["thing", "least"] (sp_are K) := by
  refine F.ok sc_are_steps (fun vs H Q E h => ?_) (fun cdv A outer s H vs Q E hr h => ?_)
  · obtain ⟨x, k, b, rfl, _⟩ := h; rfl
  · obtain ⟨x, k, b, rfl, ha, kk⟩ := h
    refine ⟨_, (pss_cons (ps_ret (pe_and (pe_callB call_isi (by rfl) T.n_isinstance b_isinstance (pa_cons (pv 0) (pa_cons (pe_bltn (v := .ty "str") (by rfl) T.n_str b_str rfl) pa_nil))) (pe_and (pe_chain op_le op_le (pv 1) (pe_callB call_len_str (by rfl) T.n_len b_len (pa_cons (pv 0) pa_nil)) (pe_gc (by rfl) T.gMOST)) (pe_one (pe_callB (cr_all rfl) (by rfl) T.n_all b_all (pa_cons (pe_lc (own := [("step", 2)]) (g := gName 2) rfl sc_are_steps.nd (pi_str (pv 0)) (blkOk_by (own := [("step", 2)]) (N := ["thing", "least", "step"]) (sc := defScope s_are_steps) (by decide +kernel)) (fun _ _ _ _ _ => pg_name (i := 2) sc_are_steps.nd rfl (Or.inl rfl)) (fun _ _ _ _ _ => pts_nil) (fun _ _ _ _ _ => (pe_cmpR (op_inSt T.st) (pv 2) (pe_glob (v := .ref T.aSteps) (by rfl) T.gSTEPS rfl) (by rfl)))) pa_nil))))))
          pss_nil), Run.start (σ := [some x, some (.int k), none]) rfl ?_⟩
    rcases ha with ⟨z, rfl, hl, rfl⟩ | ⟨rfl, t, ht, hk⟩
    · refine run_ret ?_ kk
      have e1 : areB z k = (true && (((decide (k ≤ (z.length : Int)) && decide ((z.length : Int) ≤ 6)) && z.all isStep))) := by rw [Bool.true_and]; rfl
      rw [e1]
      refine ev_andV (ev_isi (ev_var rfl) ev_c (.ty "str") (fun H' _ => .base (.str _)) (kit_ty (by decide +kernel))) fun _ => ?_
      refine ev_andV ?_ fun _ => ?_
      · exact ev_is (ev_chain (ev_var rfl) (ev_lenS (ev_var rfl) (S_szl hl)) rv_I0 (fun _ => ⟨ev_c, rv_I0⟩)) (by rw [S_len])
      · have e2 : z.all isStep = (z.map isStep).all id := by rw [List.all_map]; rfl
        rw [e2]
        refine ev_allNL ?_
        rw [List.map_map]
        refine el_lcA (α := Nat) (l := z) (g := fun c => V.str (S [c])) (V.bl ∘ isStep) ?_ (szl hl) (fun x => rfl) fun c hc => ?_
        · rw [← S_signs]; exact (ei_str (ev_var rfl)).toJ
        · refine ev_is (ev_op (ev_var rfl) ev_c rv_inK) ?_
          show V.bl _ = V.bl (isStep c)
          rw [isStep_dec]
    · refine run_ret ?_ kk
      have e1 : false = (false && false) := rfl
      rw [e1]
      exact ev_andV (ev_isi (ev_var rfl) ev_c (.ty "str") ht hk) fun h => by cases h
/-! Plan.__init__ -/
theorem sc_Plan_init : FnScope ["self", "head", "ring"] ["self", "head", "ring"] (defScope s_Plan_init) := ⟨rfl, rfl, rfl, by decide +kernel, rfl, by decide +kernel, by decide +kernel⟩
theorem areB_ok {h r : List Nat} (h1 : areB h 0 = true) (h2 : areB r 1 = true) : POk ⟨h, r⟩ := by
  unfold areB at h1 h2
  simp only [Bool.and_eq_true, decide_eq_true_eq] at h1 h2
  exact ⟨⟨show h.length ≤ 6 by omega, show 0 < r.length by omega, show r.length ≤ 6 by omega⟩, h1.2, h2.2⟩
theorem ok_areB {p : Pl} (h : POk p) : areB p.h 0 = true ∧ areB p.r 1 = true := by
  have h1 := h.ok.hl
  have h2 := h.ok.r0
  have h3 := h.ok.rl
  unfold areB
  refine ⟨?_, ?_⟩
  · rw [decide_eq_true (by omega), decide_eq_true (by omega)]; exact h.sh
  · rw [decide_eq_true (by omega), decide_eq_true (by omega)]; exact h.sr
def sp_Plan (T : Tx K mg w) : Sp := fun vs H Q E => ∃ x dx a b, vs = [.ref x, a, b] ∧ H x = some (.ins T.cPlan dx []) ∧
  ((∃ h r, a = .str (S h) ∧ b = .str (S r) ∧ areB h 0 = true ∧ areB r 1 = true ∧ ∀ H', Ex (upd H x (.ins T.cPlan dx (pF ⟨h, r⟩))) H' → Q .non H') ∨
   (∃ ba bb, ArgV K H a 0 ba ∧ ArgV K H b 1 bb ∧ (ba && bb) = false ∧ ∀ H', Ex H H' → E (.ref T.cBadPlan) none H'))
theorem pF_put (h r : List Nat) : putF "ring" (V.str (S r)) (putF "head" (V.str (S h)) []) = pF ⟨h, r⟩ := by
  have : ¬ (("head" : Str) = "ring") := by decide +kernel
  show (if ("head" : Str) = "ring" then [(("head" : Str), V.str (S r))] else (("head" : Str), V.str (S h)) :: putF "ring" (V.str (S r)) []) = _
  rw [if_neg this]
  rfl
theorem ok_Plan_init {f : Addr} {fd : FuncData} (F : Fun K "__init__" "Plan.__init__" s_Plan_init f fd) (T : Tx K mg w) (c_are_steps : Cal P w K mg base CX0 1 "are_steps" (sp_are K)) : FnOk P w K mg base (L2.CX P w) 2 f fd ["self", "head", "ring"] (sp_Plan T) := by
  refine F.okX sc_Plan_init (fun vs H Q E h => ?_) (fun cdv A outer s H vs Q E hr h => ?_)
  · obtain ⟨x, dx, a, b, rfl, _⟩ := h; rfl
  · obtain ⟨x, dx, a, b, rfl, hx, h⟩ := h
    refine ⟨_, (pss_cons (ps_if (PW.pt (pw_or (pt_not (pt_val (pe_cx c_are_steps hr (by decide) (by rfl) pass0 (pa_cons (pv 1) (pa_cons pe_int pa_nil))))) (pw_or1 (pt_not (pt_val (pe_cx c_are_steps hr (by decide) (by rfl) pass0 (pa_cons (pv 2) (pa_cons pe_int pa_nil))))))))
            (pss_cons (ps_raise rfl (takes_of rfl rfl rfl rfl) (pmk_own0 PySem.F.excBase_ValueError T.xBadPlan T.gBadPlan T.kBadPlan (raises_own T.bBadPlan T.tBadPlan) (by rfl)))
            pss_nil)
            pss_nil)
          (pss_cons (ps_fld (pv 0) (pv 1) rfl)
          (pss_cons (ps_fld (pv 0) (pv 2) rfl)
          pss_nil))), Run.start (σ := [some (.ref x), some a, some b]) rfl ?_⟩
    have args : ∃ ba bb, ArgV K H a 0 ba ∧ ArgV K H b 1 bb ∧ (((ba && bb) = true ∧ ∃ h r, a = .str (S h) ∧ b = .str (S r) ∧ ∀ H', Ex (upd H x (.ins T.cPlan dx (pF ⟨h, r⟩))) H' → Q .non H') ∨ ((ba && bb) = false ∧ ∀ H', Ex H H' → E (.ref T.cBadPlan) none H')) := by
      rcases h with ⟨h, r, rfl, rfl, h1, h2, k⟩ | ⟨ba, bb, h1, h2, h3, k⟩
      · refine ⟨true, true, argv_str ?_ h1, argv_str ?_ h2, .inl ⟨rfl, h, r, rfl, rfl, k⟩⟩
        · have : h.length ≤ 6 := (areB_ok h1 h2).ok.hl
          omega
        · have : r.length ≤ 6 := (areB_ok h1 h2).ok.rl
          omega
      · exact ⟨ba, bb, h1, h2, .inr ⟨h3, k⟩⟩
    obtain ⟨ba, bb, h1, h2, hk⟩ := args
    refine run_if (b := !ba || !bb) (et_or (et_not (et_B (ev_call0 (ea2 (ev_var rfl) ev_c) (use_are h1)))) fun _ => et_not (et_B (ev_call0 (ea2 (ev_var rfl) ev_c) (use_are h2)))) (fun hb => ?_) (fun hb => ?_)
    · rcases hk with ⟨h3, _⟩ | ⟨_, k⟩
      · exact absurd hb (by revert h3; cases ba <;> cases bb <;> decide)
      · exact fun H1 e1 => k H1 e1
    · rcases hk with ⟨_, h, r, rfl, rfl, k⟩ | ⟨h3, _⟩
      · refine run_end ?_
        have eH : H = upd H x (.ins T.cPlan dx []) := by
          funext c
          by_cases c1 : c = x
          · subst c1; rw [upd_same, hx]
          · rw [upd_ne c1]
        rw [eH]
        refine run_fld (ev_var rfl) (ev_var rfl) T.clPlan T.nPlan_head (by decide) ?_
        refine run_fld (ev_var rfl) (ev_var rfl) T.clPlan T.nPlan_ring (by show 1 < 1000; decide) ?_
        rw [pF_put]
        exact run_next k
      · exact absurd hb (by revert h3; cases ba <;> cases bb <;> decide)
/-- a plan made -/
theorem eg_plan {t : TA} {σ : L2.St} {H : Hp} {h r : List Nat} {E : XK} (T : Tx K mg w) (hA : EvA t σ H [.str (S h), .str (S r)]) (h1 : areB h 0 = true) (h2 : areB r 1 = true) :
    Eg (tMake T.cPlan (sp_Plan T) [] E t) σ H (fun v H' => ∃ x dx, v = .ref x ∧ H x = none ∧ H' = upd H x (.ins T.cPlan dx (pF ⟨h, r⟩))) := fun H1 e Q q => hA H1 e _ fun H2 e2 x dx hx hdx hne =>
  ⟨x, dx, .str (S h), .str (S r), rfl, upd_same, .inl ⟨h, r, rfl, rfl, h1, h2, fun H' e' => ⟨rfl, q _ _ H' ⟨x, dx, rfl, fresh_back (e.trans e2) hx, rfl⟩ fun c o hc => by
    refine e' c o ?_
    by_cases c1 : c = x
    · subst c1; rw [upd_same] at hc ⊢; exact hc
    · rw [upd_ne c1] at hc
      rw [upd_ne c1, upd_ne c1]
      have h3 := (e.trans e2) c o hc
      rw [upd_ne (ne_of_none h3 hdx)]
      exact h3⟩⟩⟩
theorem PlanAt.new {C : Addr} {H : Hp} {x dx : Addr} {p : Pl} : PlanAt C (upd H x (.ins C dx (pF p))) x p := ⟨dx, upd_same⟩
/-! _law_begin -/
theorem sc_l_begin : FnScope ["_law_script"] ["_law_script"] (defScope s_l_begin) := ⟨rfl, rfl, rfl, by decide +kernel, rfl, by decide +kernel, by decide +kernel⟩
def sp_begin (K : PySem.W.Frag) : Sp := fun vs H Q _ => ∃ a, ∃ ns : List Int, vs = [.ref a] ∧ SqL K H a (ns.map V.int) ∧ ns.length ≤ 1000 ∧ ∀ l d o H2, H l = none → H d = none → d ≠ l → Dro l o → Ex (upd (upd H l (.lst (ns.map V.int))) d o) H2 → Q (.ref d) H2
theorem use_begin {a : Addr} {ns : List Int} {H : Hp} (hs : SqL K H a (ns.map V.int)) (hl : ns.length ≤ 1000) : SpG (sp_begin K) [.ref a] H (fun v H' => ∃ d l G o, v = .ref d ∧ Ex H G ∧ Dw G d l ∧ Dro l o ∧ H' = upd G d o) := fun H1 e Q q E =>
  ⟨a, ns, rfl, ex_l e hs, hl, fun l d o H2 h1 h2 h3 ho e2 => by
    have hl1 := fresh_back e h1
    have hd1 := fresh_back e h2
    refine q _ _ H2 ⟨d, l, upd H l (.lst (ns.map V.int)), o, rfl, ex_upd hl1, ⟨by rw [upd_ne h3]; exact hd1, ns, upd_same, hl⟩, ho, rfl⟩ ?_
    exact (exc (exc e)).trans e2⟩
theorem ok_l_begin {f : Addr} {fd : FuncData} (F : Fun K "_law_begin" "_law_begin" s_l_begin f fd) (T : Tx K mg w) : FnOk P w K mg base CX0 1 f fd ["_law_script"] (sp_begin K) := by
  refine F.ok sc_l_begin (fun vs H Q E h => ?_) (fun cdv A outer s H vs Q E hr h => ?_)
  · obtain ⟨a, ns, rfl, _⟩ := h; rfl
  · obtain ⟨a, ns, rfl, hs, hl, k⟩ := h
    refine ⟨_, (pss_cons (ps_ret (pe_lst (pa_cons (pe_callTy call_list_of (by rfl) T.n_list b_list (pa_cons (pv 0) pa_nil)) (pa_cons pe_int (pa_cons pe_int (pa_cons pe_int pa_nil))))))
          pss_nil), Run.start (σ := [some (.ref a)]) rfl ?_⟩
    refine run_retG (eg_lst (U := fun vs H' => ∃ l, vs = [.ref l, .int 0, .int 0, .int 7] ∧ H l = none ∧ H' = upd H l (.lst (ns.map V.int))) ?_ ?_) ?_
    · intro H1 e Q' q'
      refine ega_cons (eg_l (el_listOf (ev_var rfl) hs)) (S := fun v H' vs H2 => vs = [.int 0, .int 0, .int 7] ∧ H2 = H') (fun v H' r => ?_) H1 e Q' fun vs H' H2 r e2 => ?_
      · exact ega_ev (ea3 ev_c ev_c ev_c)
      · obtain ⟨v, H3, ws, rfl, ⟨l, rfl, hl, rfl⟩, rfl, rfl⟩ := r
        exact q' _ _ _ ⟨l, rfl, hl, rfl⟩ e2
    · rintro vs H' ⟨l, rfl, _⟩; show 4 ≤ 1000; decide
    · rintro v H' ⟨d, vs, H1, rfl, ⟨l, rfl, hl, rfl⟩, hd, rfl⟩ H2 e2
      have hdl : d ≠ l := fun e => by subst e; rw [upd_same] at hd; cases hd
      rw [upd_ne hdl] at hd
      exact k l d _ H2 hl hd hdl ⟨0, 0, 7, by decide, by decide, rfl⟩ e2
/-- a law: true for every script -/
def spLaw (K : PySem.W.Frag) : Sp := fun vs H Q _ => ∃ a, ∃ ns : List Int, vs = [.ref a] ∧ SqL K H a (ns.map V.int) ∧ ns.length ≤ 63 ∧ ∀ H2, Q (.bl true) H2
theorem run_begin {x : PySem.W.Frag} {σ : L2.St} {H : Hp} {D : Ends} {u : TS} {i j : Nat} {E : XK} {a : Addr} {ns : List Int} (hv : σ[j]? = some (some (.ref a))) (hs : SqL x H a (ns.map V.int)) (hl : ns.length ≤ 63) (k : ∀ d l G, Ex H G → Dw G d l → RD u D (σ.set i (some (.ref d))) G d l) :
    Run (tSeq (tAsg (tCall (sp_begin x) [] E (tCons (tVar j) tNil)) (gName i)) u) D σ H := by
  refine run_asgG (eg_call (ea1 (ev_var hv)) (use_begin hs (Nat.le_trans hl (by decide)))) ?_
  rintro v H' ⟨d, l, G, o, rfl, eG, dw, ho, rfl⟩
  exact k d l G eG dw o ho
/-! _law_draw -/
theorem sc_l_draw : FnScope ["_law_draws", "_law_size", "_law_cell", "_law_found"] ["_law_draws", "_law_size"] (defScope s_l_draw) := ⟨rfl, rfl, rfl, by decide +kernel, rfl, by decide +kernel, by decide +kernel⟩
def sp_draw : Sp := fun vs H Q _ => ∃ G d l o n, vs = [.ref d, .int n] ∧ Ex (upd G d o) H ∧ Dro l o ∧ Dw G d l ∧ 0 < n ∧ n < 2000 ∧ ∀ v o' H2, 0 ≤ v → v < n → Dro l o' → Ex (upd G d o') H2 → Q (.int v) H2
theorem use_drawM {G : Hp} {d l : Addr} {n : Int} (w : Dw G d l) (h0 : 0 < n) (hn : n < 2000) : SpD sp_draw [.ref d, .int n] G d l (fun v G' => ∃ i : Nat, v = .int (i : Int) ∧ (i : Int) < n ∧ G' = G) := fun o ho H1 e Q q E =>
  ⟨G, d, l, o, n, rfl, e, ho, w, h0, hn, fun v o' H2 h1 h2 ho' e2 => q _ _ H2 ⟨G, o', ⟨v.toNat, by rw [Int.toNat_of_nonneg h1], by omega, rfl⟩, Ex.refl G, w, ho', rfl⟩ e2⟩
theorem use_draw {G : Hp} {d l : Addr} {n : Int} (w : Dw G d l) (h0 : 0 < n) (hn : n < 1000) : SpD sp_draw [.ref d, .int n] G d l (fun v G' => ∃ i : Nat, v = .int (i : Int) ∧ (i : Int) < n ∧ G' = G) := use_drawM w h0 (by omega)
theorem ok_l_draw {f : Addr} {fd : FuncData} (F : Fun K "_law_draw" "_law_draw" s_l_draw f fd) (T : Tx K mg w) : FnOk P w K mg base CX0 1 f fd ["_law_draws", "_law_size"] sp_draw := by
  refine F.ok sc_l_draw (fun vs H Q E h => ?_) (fun cdv A outer s H vs Q E hr h => ?_)
  · obtain ⟨G, d, l, o, n, rfl, _⟩ := h; rfl
  · obtain ⟨G, d, l, o, n, rfl, eH, ho, dw, h0, hn, k⟩ := h
    refine ⟨_, (Evl.pss_cut (ps_if (pt_cmpR op_eq (pe_ix ix_list (pv 0) pe_int (fun _ _ => rfl)) pe_int (nomark _))
            (pss_cons (ps_if (pt_cmpR op_lt (pe_ix ix_list (pv 0) pe_int (fun _ _ => rfl)) (pe_callB call_len_seq (by rfl) T.n_len b_len (pa_cons (pe_ix ix_list (pv 0) pe_int (fun _ _ => rfl)) pa_nil)) (nomark _))
              (pss_cons (ps_set (i := 2) sc_l_draw.nd rfl (Or.inl rfl) (pe_ix ix_list (pe_ix ix_list (pv 0) pe_int (fun _ _ => rfl)) (pe_ix ix_list (pv 0) pe_int (fun _ _ => rfl)) (fun _ _ => rfl)))
              (pss_cons (ps_asg (pe_op op_add (pe_ix ix_list (pv 0) pe_int (fun _ _ => rfl)) pe_int) (pg_sub (pv 0) pe_int set_list))
              (pss_cons (ps_if (pt_cmpR op_ge (pv 2) (pe_op op_pow pe_int pe_int) (nomark _))
                (pss_cons (ps_asg (pv 2) (pg_sub (pv 0) pe_int set_list))
                pss_nil)
                (pss_cons (ps_asg (pe_op op_mod (pe_callTy call_int1 (by rfl) T.n_int b_int (pa_cons (pe_op op_add (pe_op op_add (pe_op op_mul (pe_ix ix_list (pv 0) pe_int (fun _ _ => rfl)) pe_int) (pe_op op_mul (pv 2) pe_int)) pe_int) pa_nil)) pe_int) (pg_sub (pv 0) pe_int set_list))
                pss_nil))
              pss_nil)))
              (pss_cons (ps_asg (pe_op op_mod (pe_callTy call_int1 (by rfl) T.n_int b_int (pa_cons (pe_op op_add (pe_op op_mul (pe_ix ix_list (pv 0) pe_int (fun _ _ => rfl)) pe_int) pe_int) pa_nil)) pe_int) (pg_sub (pv 0) pe_int set_list))
              pss_nil))
            pss_nil)
            pss_nil)
          (pss_cons (ps_if (pt_cmpR op_gt (pe_ix ix_list (pv 0) pe_int (fun _ _ => rfl)) pe_int (nomark _))
            (pss_cons (ps_set (i := 3) sc_l_draw.nd rfl (Or.inl rfl) (pe_op op_mod (pe_callTy call_int1 (by rfl) T.n_int b_int (pa_cons (pe_ix ix_list (pv 0) pe_int (fun _ _ => rfl)) pa_nil)) (pv 1)))
            (pss_cons (ps_asg (pe_op op_fdiv (pe_ix ix_list (pv 0) pe_int (fun _ _ => rfl)) (pv 1)) (pg_sub (pv 0) pe_int set_list))
            (pss_cons (ps_ret (pv 3))
            pss_nil)))
            pss_nil)
          (pss_cons (ps_ret (pe_op op_mod (pe_op op_mod (pe_callTy call_int1 (by rfl) T.n_int b_int (pa_cons (pe_op op_mul (pe_ix ix_list (pv 0) pe_int (fun _ _ => rfl)) pe_int) pa_nil)) pe_int) (pv 1)))
          pss_nil))), Run.start (σ := [some (.ref d), some (.int n), none, none]) rfl (Run.mono eH ?_)⟩
    have at0 : ∀ {σ : L2.St} {G : Hp} {i c s : Int} {x : V} {m : Int}, σ[0]? = some (some (.ref d)) → atI [V.ref l, .int i, .int c, .int s] m = some x → Ev (tOp (rIxL K) (tVar 0) (tC (.int m))) σ (upd G d (.lst [V.ref l, .int i, .int c, .int s])) x := fun h ha => ev_op (ev_var h) ev_c (rv_ixL (sq_of upd_same) ha)
    refine run_cut (fun σ' H' => ∃ o' v, Dro l o' ∧ H' = upd G d o' ∧ σ' = [some (.ref d), some (.int n), v, none]) ?_ ?_
    · obtain ⟨i, c, s, hi, hc, rfl⟩ := ho
      refine run_ifO (et_test (ev_op (at0 rfl rfl) ev_c (rv_eq rfl))) (fun hb => ?_) (fun hb => ?_)
      · have hc0 : c = 0 := by have := of_decide_eq_true hb; injection this
        subst hc0
        obtain ⟨ns, hl, hz⟩ := dw.lst
        have hld : l ≠ d := fun e => by subst e; rw [dw.free] at hl; cases hl
        have hl' : ∀ o, (upd G d o) l = some (.lst (ns.map V.int)) := fun o => by rw [upd_ne hld]; exact hl
        refine run_if (et_test (ev_op (at0 rfl rfl) (ev_lenL (at0 rfl rfl) (sq_of (hl' _))) rv_I0)) (fun hb => ?_) (fun hb => ?_)
        · have hb := of_decide_eq_true hb
          rw [List.length_map] at hb
          have hlt : i.toNat < ns.length := by omega
          refine run_asg (v := .int ns[i.toNat]) (ev_op (at0 rfl rfl) (at0 rfl rfl) (rv_ixL (sq_of (hl' _)) (at_int _ hi ?_))) ?_
          · rw [List.getElem?_map, List.getElem?_eq_getElem hlt]; rfl
          generalize ns[i.toNat] = cell
          refine run_setL (k := 1) (ev_op (at0 rfl rfl) ev_c rv_I0) (ev_var rfl) ev_c (by show 1 < 4; decide) ?_
          refine run_if (et_test (ev_op (ev_var rfl) (ev_op ev_c ev_c (rv_I ⟨by decide, by decide, by decide⟩)) rv_I0)) (fun hb => ?_) (fun hb => ?_)
          · have hb := of_decide_eq_true hb
            refine run_setL (k := 2) (ev_var rfl) (ev_var rfl) ev_c (by show 2 < 4; decide) ?_
            have : (0 : Int) ≤ 10 ^ (18 : Int).toNat := by decide
            exact run_end (run_end (run_up rfl ⟨_, _, ⟨i + 1, cell, s, by omega, by omega, rfl⟩, rfl, rfl⟩))
          · refine run_setL (k := 3) (ev_op (ev_intI (ev_op (ev_op (ev_op (at0 rfl rfl) ev_c (rv_I (.inr ⟨by decide, by decide⟩))) (ev_op (ev_var rfl) ev_c (rv_I (.inr ⟨by decide, by decide⟩))) rv_I0) ev_c rv_I0)) ev_c (rv_I (by decide))) (ev_var rfl) ev_c (by show 3 < 4; decide) ?_
            exact run_end (run_end (run_up rfl ⟨_, _, ⟨i + 1, 0, _, by omega, by omega, rfl⟩, rfl, rfl⟩))
        · refine run_setL (k := 3) (ev_op (ev_intI (ev_op (ev_op (at0 rfl rfl) ev_c (rv_I (.inr ⟨by decide, by decide⟩))) ev_c rv_I0)) ev_c (rv_I (by decide))) (ev_var rfl) ev_c (by show 3 < 4; decide) ?_
          exact run_end (run_up rfl ⟨_, _, ⟨i, 0, _, hi, by decide, rfl⟩, rfl, rfl⟩)
      · exact run_up rfl ⟨_, _, ⟨i, c, s, hi, hc, rfl⟩, rfl, rfl⟩
    · rintro σ' H' ⟨o', v, ⟨i, c, s, hi, hc, rfl⟩, rfl, rfl⟩
      refine run_if (et_test (ev_op (at0 rfl rfl) ev_c rv_I0)) (fun hb => ?_) (fun hb => ?_)
      · refine run_asg (ev_op (ev_intI (at0 rfl rfl)) (ev_var rfl) (rv_I h0)) ?_
        refine run_setL (k := 2) (ev_op (at0 rfl rfl) (ev_var rfl) (rv_I ⟨h0, by omega⟩)) (ev_var rfl) ev_c (by show 2 < 4; decide) ?_
        refine run_ret (ev_var rfl) fun H2 e2 => k _ _ H2 (Int.emod_nonneg _ (by omega)) (Int.emod_lt_of_pos _ h0) ⟨i, c / n, s, hi, Int.ediv_nonneg hc (by omega), rfl⟩ e2
      · refine run_end ?_
        refine run_ret (ev_op (ev_op (ev_intI (ev_op (at0 rfl rfl) ev_c (rv_I (.inr ⟨by decide, by decide⟩)))) ev_c (rv_I (by decide))) (ev_var rfl) (rv_I h0)) fun H2 e2 => k _ _ H2 (Int.emod_nonneg _ (by omega)) (Int.emod_lt_of_pos _ h0) ⟨i, c, s, hi, hc, rfl⟩ e2
/-! _law_steps -/
theorem sc_l_steps : FnScope ["_law_draws", "_law_least", "_law_most", "_law_size", "_law_k"] ["_law_draws", "_law_least", "_law_most"] (defScope s_l_steps) := ⟨rfl, rfl, rfl, by decide +kernel, rfl, by decide +kernel, by decide +kernel⟩
def IsTxt (lo hi : Nat) (v : V) : Prop := ∃ m, v = .str (S m) ∧ Stp m ∧ lo ≤ m.length ∧ m.length ≤ hi
def sp_steps : Sp := spDR (fun (x : Nat × Nat) d => [.ref d, .int (x.1 : Int), .int (x.2 : Int)]) (fun x _ => x.1 ≤ x.2 ∧ x.2 ≤ 100) (fun x G v G' => IsTxt x.1 x.2 v ∧ G' = G)
theorem use_steps {G : Hp} {d l : Addr} (lo hi : Nat) (w : Dw G d l) (h : lo ≤ hi) (h2 : hi ≤ 100) : SpD sp_steps [.ref d, .int (lo : Int), .int (hi : Int)] G d l (fun v G' => IsTxt lo hi v ∧ G' = G) := use_DR (lo, hi) w ⟨h, h2⟩
theorem ok_l_steps {f : Addr} {fd : FuncData} (F : Fun K "_law_steps" "_law_steps" s_l_steps f fd) (T : Tx K mg w) (c_l_draw : Cal P w K mg base CX0 1 "_law_draw" sp_draw) : FnOk P w K mg base CX0 2 f fd ["_law_draws", "_law_least", "_law_most"] sp_steps := by
  refine F.ok sc_l_steps (fun vs H Q E h => ?_) (fun cdv A outer s H vs Q E hr h => ?_)
  · obtain ⟨⟨lo, hi⟩, G, d, l, o, rfl, _⟩ := h; rfl
  · obtain ⟨⟨lo, hi⟩, G, d, l, o, rfl, ⟨h1, h2⟩, eH, ho, dw, k⟩ := h
    refine ⟨_, (pss_cons (ps_set (i := 3) sc_l_steps.nd rfl (Or.inl rfl) (pe_op op_add (pv 1) (pe_cx c_l_draw hr (by decide) (by rfl) pass0 (pa_cons (pv 0) (pa_cons (pe_op op_sub (pe_op op_add (pv 2) pe_int) (pv 1)) pa_nil)))))
          (pss_cons (ps_ret (pe_join pe_str (pe_lc (own := [("_law_k", 4)]) (g := gName 4) rfl sc_l_steps.nd (pi_range1 rfl T.n_range (pa_cons (pv 3) pa_nil)) (blkOk_by (own := [("_law_k", 4)]) (N := ["_law_draws", "_law_least", "_law_most", "_law_size", "_law_k"]) (sc := defScope s_l_steps) (by decide +kernel)) (fun _ _ _ _ _ => pg_name (i := 4) sc_l_steps.nd rfl (Or.inl rfl)) (fun _ _ _ _ _ => pts_nil) (fun _ _ _ _ _ => (pe_ix ix_str pe_str (pe_cx c_l_draw hr (by decide) (by rfl) pass0 (pa_cons (pv 0) (pa_cons pe_int pa_nil))) (fun _ _ => rfl))))))
          pss_nil)), Run.start (σ := [some (.ref d), some (.int (lo : Int)), some (.int (hi : Int)), none, none]) rfl (RD.run eH ho ?_)⟩
    have h1 : lo ≤ hi := h1
    have h2 : hi ≤ 100 := h2
    refine rd_asg (R := fun v G' => ∃ n : Nat, v = .int (n : Int) ∧ lo ≤ n ∧ n ≤ hi ∧ G' = G) (ed_opR dw (ev_var rfl) (ed_callP dw (ea2 (ev_var rfl) (ev_op (ev_op (ev_var rfl) ev_c rv_I0) (ev_var rfl) rv_I0)) (use_draw dw (by omega) (by omega))) ?_) ?_
    · rintro y G2 ⟨i, rfl, hi2, rfl⟩ _ _
      exact ⟨_, rv_I0, lo + i, by rw [Int.natCast_add], by omega, by omega, rfl⟩
    · rintro v G' ⟨n, rfl, n1, n2, rfl⟩ _ dw'
      refine rd_ret (R := fun v G2 => ∃ z, v = .str z ∧ (∃ m, z = S m ∧ Stp m ∧ m.length = n) ∧ G2 = G') (ed_join (s := "") (n := n) (C := fun v => ∃ c, v = .str (S [c]) ∧ isStep c = true) dw (fun _ => ev_c) ?_ ?_) ?_
      · refine (ed_lc (n := (n : Int)) dw (ea1 (ev_var rfl)) (by omega) (by omega) (by omega) (fun x => rfl) ?_)
        intro i G1 hi2 e1 w1
        refine ed_opR w1 ev_c (ed_callP w1 (ea2 (ev_var rfl) ev_c) (use_draw w1 (by decide) (by decide))) ?_
        rintro y G2 ⟨j, rfl, hj, rfl⟩ _ _
        have : j = 0 ∨ j = 1 ∨ j = 2 := by omega
        rcases this with rfl | rfl | rfl
        · exact ⟨_, rv_ixS' (by decide +kernel) (by decide +kernel), ⟨102, rfl, rfl⟩, rfl⟩
        · exact ⟨_, rv_ixS' (by decide +kernel) (by decide +kernel), ⟨98, rfl, rfl⟩, rfl⟩
        · exact ⟨_, rv_ixS' (by decide +kernel) (by decide +kernel), ⟨115, rfl, rfl⟩, rfl⟩
      · intro xs hl hx
        have hm : ∃ m : List Nat, xs = m.map (fun c => V.str (S [c])) ∧ Stp m := by
          clear hl
          induction xs with
          | nil => exact ⟨[], rfl, rfl⟩
          | cons x xs ih =>
            obtain ⟨m, e, hs⟩ := ih fun x hx' => hx x (List.mem_cons_of_mem _ hx')
            obtain ⟨c, e2, hc⟩ := hx x List.mem_cons_self
            refine ⟨c :: m, by rw [e, e2]; rfl, ?_⟩
            unfold Stp
            rw [List.all_cons, hc]
            exact hs
        obtain ⟨m, rfl, hs⟩ := hm
        have hl : m.length = n := by rw [List.length_map] at hl; exact hl
        refine ⟨m.map fun c => S [c], by rw [List.map_map]; rfl, ?_, m, ?_, hs, hl⟩
        · rw [List.map_map, List.length_map, show ("" : Str).length = 0 from rfl, Nat.mul_zero, Nat.add_zero]
          have : ((·.length) ∘ fun c => S [c]) = fun _ : Nat => 1 := by funext c; rfl
          rw [this, List.map_const', List.sum_replicate_nat]
          omega
        · rw [show ("" : Str) = S [] from rfl]
          exact join_signs m
      · rintro v G2 ⟨z, rfl, ⟨m, rfl, hs, hl⟩, rfl⟩ e3 w3 o3 ho3 H2 e4
        exact k _ _ o3 H2 ⟨⟨m, rfl, hs, by show lo ≤ _; omega, by show _ ≤ hi; omega⟩, rfl⟩ (Ex.refl _) w3 ho3 e4
/-- parts drawn -/
theorem eda_parts {σ : L2.St} {G : Hp} {d l : Addr} {i : Nat} {E E' : XK} (a b a' b' : Nat) (dw : Dw G d l) (hv : σ[i]? = some (some (.ref d))) (h1 : a ≤ b) (h2 : b ≤ 6) (h3 : a' ≤ b') (h4 : b' ≤ 6) (h5 : 0 < a') :
    EDA (tCons (tCall sp_steps [] E (tCons (tVar i) (tCons (tC (.int (a : Int))) (tCons (tC (.int (b : Int))) tNil)))) (tCons (tCall sp_steps [] E' (tCons (tVar i) (tCons (tC (.int (a' : Int))) (tCons (tC (.int (b' : Int))) tNil)))) tNil)) σ G d l
      (fun vs G' => ∃ p, vs = [.str (S p.h), .str (S p.r)] ∧ POk p ∧ p.h.length ≤ b ∧ p.r.length ≤ b' ∧ G' = G) := by
  refine eda_cons (ed_callP dw (ea3 (ev_var hv) ev_c ev_c) (use_steps a b dw h1 (by omega))) (T := fun v vs G' => G' = G ∧ ∃ w, vs = [w] ∧ IsTxt a' b' w) (fun v G1 ⟨hv1, e1⟩ _ w1 => ?_) ?_
  · subst e1
    refine eda_cons (T := fun _ vs G' => vs = [] ∧ G' = G1) (ed_callP w1 (ea3 (ev_var hv) ev_c ev_c) (use_steps a' b' w1 h3 (by omega))) (fun v2 G2 ⟨hv2, e2⟩ _ w2 => by subst e2; exact eda_nil w2) ?_
    · rintro v2 G2 ws G3 ⟨hv2, rfl⟩ ⟨rfl, rfl⟩ _
      exact ⟨rfl, v2, rfl, hv2⟩
  · rintro v G1 ws G2 ⟨⟨m, rfl, s1, l1, l2⟩, rfl⟩ ⟨rfl, _, rfl, m', rfl, s2, l3, l4⟩ _
    exact ⟨⟨m, m'⟩, rfl, ⟨⟨by show m.length ≤ 6; omega, by show 0 < m'.length; omega, by show m'.length ≤ 6; omega⟩, s1, s2⟩, l2, l4, rfl⟩
/-- a new list of parts -/
def NewParts (p : Pl) (G : Hp) (v : V) (G' : Hp) : Prop := ∃ a, v = .ref a ∧ G a = none ∧ G' = upd G a (.lst [.str (S p.h), .str (S p.r)])
theorem NewParts.at {K : PySem.W.Frag} {p : Pl} {G G' : Hp} {v : V} (h : NewParts p G v G') : ∃ a, v = .ref a ∧ PartsAt K G' a p ∧ Ex G G' := by
  obtain ⟨a, rfl, h1, rfl⟩ := h
  exact ⟨a, rfl, sq_of upd_same, ex_upd h1⟩
theorem ed_parts {σ : L2.St} {G : Hp} {d l : Addr} {i : Nat} {E E' : XK} (a b a' b' : Nat) (dw : Dw G d l) (hv : σ[i]? = some (some (.ref d))) (h1 : a ≤ b) (h2 : b ≤ 6) (h3 : a' ≤ b') (h4 : b' ≤ 6) (h5 : 0 < a') :
    ED (tLst (tCons (tCall sp_steps [] E (tCons (tVar i) (tCons (tC (.int (a : Int))) (tCons (tC (.int (b : Int))) tNil)))) (tCons (tCall sp_steps [] E' (tCons (tVar i) (tCons (tC (.int (a' : Int))) (tCons (tC (.int (b' : Int))) tNil)))) tNil))) σ G d l
      (fun v G' => ∃ p, NewParts p G v G' ∧ POk p ∧ p.h.length ≤ b ∧ p.r.length ≤ b') := by
  refine (ed_lst (eda_parts a b a' b' dw hv h1 h2 h3 h4 h5) ?_).imp ?_
  · rintro vs G' ⟨p, rfl, _⟩; show 2 ≤ 1000; decide
  · rintro v G' ⟨q, vs, G1, rfl, ⟨p, rfl, ok, l1, l2, rfl⟩, _, hq, hqd, rfl⟩
    exact ⟨p, ⟨q, rfl, hq, rfl⟩, ok, l1, l2⟩
theorem sp32 {l : List Nat} (h : Stp l) : 32 ∉ l := fun hc => by rcases h.mem hc with h | h | h <;> cases h
/-! _law_make -/
theorem sc_l_make : FnScope ["_law_parts_here"] ["_law_parts_here"] (defScope s_l_make) := ⟨rfl, rfl, rfl, by decide +kernel, rfl, by decide +kernel, by decide +kernel⟩
def sp_make (K : PySem.W.Frag) (C : Addr) : Sp := fun vs H Q _ => ∃ a p, vs = [.ref a] ∧ PartsAt K H a p ∧ POk p ∧ RetP C p H Q
theorem use_make {C : Addr} {a : Addr} {p : Pl} {H : Hp} (hp : PartsAt K H a p) (ho : POk p) : SpG (sp_make K C) [.ref a] H (NewP C p H) := RetP.g fun H1 e Q k E => ⟨a, p, rfl, ex_l e hp, ho, k⟩
theorem ok_l_make {f : Addr} {fd : FuncData} (F : Fun K "_law_make" "_law_make" s_l_make f fd) (T : Tx K mg w) (k_Plan : Mak P w K mg base (L2.CX P w) 2 "Plan" T.cPlan (sp_Plan T)) : FnOk P w K mg base CX0 4 f fd ["_law_parts_here"] (sp_make K T.cPlan) := by
  refine F.ok sc_l_make (fun vs H Q E h => ?_) (fun cdv A outer s H vs Q E hr h => ?_)
  · obtain ⟨a, p, rfl, _⟩ := h; rfl
  · obtain ⟨a, p, rfl, hp, ho, k⟩ := h
    refine ⟨_, (pss_cons (ps_ret (pe_kx k_Plan hr (by decide) (by rfl) passL (pa_cons (pe_ix ix_list (pv 0) pe_int (fun _ _ => rfl)) (pa_cons (pe_ix ix_list (pv 0) pe_int (fun _ _ => rfl)) pa_nil))))
          pss_nil), Run.start (σ := [some (.ref a)]) rfl ?_⟩
    have ok := ok_areB ho
    refine run_retG (eg_plan T (ea2 (ev_op (ev_var rfl) ev_c (rv_ixL hp rfl)) (ev_op (ev_var rfl) ev_c (rv_ixL hp rfl))) ok.1 ok.2) ?_
    rintro v H' ⟨x, dx, rfl, hx, rfl⟩ H2 e2
    exact k x dx hx H2 e2
/-- a plan made of parts while one draws -/
theorem ed_make {σ : L2.St} {G : Hp} {d l a : Addr} {C : Addr} {ta : TE} {p : Pl} {E : XK} (dw : Dw G d l) (hv : Ev ta σ G (.ref a)) (hp : PartsAt K G a p) (ok : POk p) : ED (tCall (sp_make K C) [] E (tCons ta tNil)) σ G d l (fun v G' => ∃ x, v = .ref x ∧ PlanAt C G' x p) :=
  (ed_new1 (Po := fun ob => ∃ dx, ob = .ins C dx (pF p)) dw fun o ho => (eg_call (ea1 (hv.mono (ex_upd dw.free))) (use_make (ex_l (ex_upd dw.free) hp) ok)).imp fun v H' ⟨x, dx, e1, hx, e2⟩ => ⟨x, _, e1, ⟨dx, rfl⟩, hx, e2⟩).imp fun v G' ⟨x, ob, e1, ⟨dx, e2⟩, hx, e3⟩ => ⟨x, e1, by subst e2 e3; exact .new⟩
theorem eda_2makes {σ : L2.St} {G : Hp} {d l a b : Addr} {C : Addr} {i j : Nat} {p q : Pl} {E E' : XK} (dw : Dw G d l) (hv : σ[i]? = some (some (.ref a))) (hv' : σ[j]? = some (some (.ref b))) (hp : PartsAt K G a p) (op : POk p) (hq : PartsAt K G b q) (oq : POk q) :
    EDA (tCons (tCall (sp_make K C) [] E (tCons (tVar i) tNil)) (tCons (tCall (sp_make K C) [] E' (tCons (tVar j) tNil)) tNil)) σ G d l (fun vs G' => ∃ x y, vs = [.ref x, .ref y] ∧ PlanAt C G' x p ∧ PlanAt C G' y q) := by
  refine eda_cons (ed_make dw (ev_var hv) hp op) (T := fun _ vs G' => ∃ y, vs = [.ref y] ∧ PlanAt C G' y q) (fun v G1 _ e w1 => ?_) ?_
  · refine eda_cons (ed_make w1 (ev_var hv') (ex_l e hq) oq) (T := fun _ vs G' => vs = []) (fun v2 G2 _ _ w2 => fun o ho => EgA.imp (eda_nil w2 o ho) fun v H' ⟨G', o', ⟨h1, h2⟩, r⟩ => ⟨G', o', h1, r⟩) ?_
    rintro v2 G2 ws G3 ⟨y, rfl, hy⟩ rfl e
    exact ⟨y, rfl, hy.mono e⟩
  · rintro v G1 ws G2 ⟨x, rfl, hx⟩ ⟨y, rfl, hy⟩ e
    exact ⟨x, y, rfl, hx.mono e, hy⟩
/-! _law_way -/
theorem sc_l_way : FnScope ["_law_parts_here", "_law_t", "_law_place", "_law_k", "_law_step"] ["_law_parts_here", "_law_t"] (defScope s_l_way) := ⟨rfl, rfl, rfl, by decide +kernel, rfl, by decide +kernel, by decide +kernel⟩
theorem ev_p0 {σ : L2.St} {H : Hp} {i : Nat} {a : Addr} {p : Pl} (h : σ[i]? = some (some (.ref a))) (hp : PartsAt K H a p) : Ev (tOp (rIxL K) (tVar i) (tC (.int 0))) σ H (.str (S p.h)) := ev_op (ev_var h) ev_c (rv_ixL hp rfl)
theorem ev_p1 {σ : L2.St} {H : Hp} {i : Nat} {a : Addr} {p : Pl} (h : σ[i]? = some (some (.ref a))) (hp : PartsAt K H a p) : Ev (tOp (rIxL K) (tVar i) (tC (.int 1))) σ H (.str (S p.r)) := ev_op (ev_var h) ev_c (rv_ixL hp rfl)
theorem Wsucc (p : Pl) (k : Nat) : p.W ((k + 1 : Nat) : Int) = p.W (k : Int) + sv (stp p.h p.r k) := by
  unfold Pl.W
  rw [Int.toNat_natCast, Int.toNat_natCast]
  rfl
theorem letf : ("f" : Str) = S [102] := by decide +kernel
theorem letb : ("b" : Str) = S [98] := by decide +kernel
/-- int(x == "f") .. -/
theorem ev_letf {ta : TE} {σ : L2.St} {H : Hp} {c : Nat} (h : Ev ta σ H (.str (S [c]))) : Ev (tCB (fun xs H Q => (∃ i, xs = [.int i] ∧ Q (.int i) H) ∨ ∃ k, xs = [.bl k] ∧ Q (.int (if k then 1 else 0)) H) (tCons (tOp rEq ta (tC (.str "f"))) tNil)) σ H (.int (if c = 102 then 1 else 0)) := by
  refine ev_is (ev_intB (ev_op h ev_c (rv_eq rfl))) ?_
  rw [letf, S_dec]
  by_cases e : c = 102
  · subst e; rfl
  · rw [if_neg e, decide_eq_false (fun q => by injection q; contradiction)]; rfl
theorem ev_letb {ta : TE} {σ : L2.St} {H : Hp} {c : Nat} (h : Ev ta σ H (.str (S [c]))) : Ev (tCB (fun xs H Q => (∃ i, xs = [.int i] ∧ Q (.int i) H) ∨ ∃ k, xs = [.bl k] ∧ Q (.int (if k then 1 else 0)) H) (tCons (tOp rEq ta (tC (.str "b"))) tNil)) σ H (.int (if c = 98 then 1 else 0)) := by
  refine ev_is (ev_intB (ev_op h ev_c (rv_eq rfl))) ?_
  rw [letb, S_dec]
  by_cases e : c = 98
  · subst e; rfl
  · rw [if_neg e, decide_eq_false (fun q => by injection q; contradiction)]; rfl
theorem sv_let (c : Nat) (x : Int) : x + (if c = 102 then 1 else 0) - (if c = 98 then 1 else 0) = x + sv c := by
  unfold sv
  by_cases h1 : c = 102
  · subst h1; simp
  · by_cases h2 : c = 98
    · subst h2; simp; omega
    · simp [h1, h2]
/-- the step at k as the law finds it -/
theorem at_head {p : Pl} {k : Nat} (hk : k < p.h.length) : atI (S p.h).cps.toList (k : Int) = some (stp p.h p.r k) := by rw [S_cps]; exact at_nat _ (stp_head hk)
theorem at_ring {p : Pl} {k : Nat} (ho : Mw.Ok p) (hk : ¬ k < p.h.length) : atI (S p.r).cps.toList (((k : Int) - ((S p.h).length : Int)) % ((S p.r).length : Int)) = some (stp p.h p.r k) := by
  rw [S_cps, S_len, S_len]
  have e : ((k : Int) - (p.h.length : Int)) % (p.r.length : Int) = (((k - p.h.length) % p.r.length : Nat) : Int) := by
    rw [← Int.natCast_sub (by omega), ← Int.natCast_emod]
  rw [e]
  refine at_nat _ ?_
  rw [stp_ring (h := p.h) (Nat.mod_lt _ ho.r0)]
  congr 1
  unfold stp
  rw [if_neg hk, if_neg (by omega), Nat.add_sub_cancel_left, Nat.mod_mod]
def sp_lway (K : PySem.W.Frag) : Sp := fun vs H Q _ => ∃ a p, ∃ t : Nat, vs = [.ref a, .int (t : Int)] ∧ PartsAt K H a p ∧ Mw.Ok p ∧ t ≤ 100000 ∧ RetV (.int (p.W t)) H Q
theorem use_lway {a : Addr} {p : Pl} {t : Nat} {H : Hp} (hp : PartsAt K H a p) (ho : Mw.Ok p) (ht : t ≤ 100000) : SpV (sp_lway K) [.ref a, .int (t : Int)] H (.int (p.W t)) := fun H1 e Q q E => ⟨a, p, t, rfl, ex_l e hp, ho, ht, fun H2 e2 => q H2 e2⟩
theorem ok_l_way {f : Addr} {fd : FuncData} (F : Fun K "_law_way" "_law_way" s_l_way f fd) (T : Tx K mg w) : FnOk P w K mg base CX0 1 f fd ["_law_parts_here", "_law_t"] (sp_lway K) := by
  refine F.ok sc_l_way (fun vs H Q E h => ?_) (fun cdv A outer s H vs Q E hr h => ?_)
  · obtain ⟨a, p, t, rfl, _⟩ := h; rfl
  · obtain ⟨a, p, t, rfl, hp, ho, ht, k⟩ := h
    have hl := ho.hl
    have rl := ho.rl
    have r0 := ho.r0
    refine ⟨_, (pss_cons (ps_set (i := 2) sc_l_way.nd rfl (Or.inl rfl) pe_int)
          (pss_cons (ps_for PassesOwn.never rfl (pi_range1 rfl T.n_range (pa_cons (pv 1) pa_nil)) (pg_name (i := 3) sc_l_way.nd rfl (Or.inl rfl))
            (pss_cons (ps_set (i := 4) sc_l_way.nd rfl (Or.inl rfl) pe_str)
            (Evl.pss_cut (ps_if (pt_cmpR op_lt (pv 3) (pe_callB call_len_str (by rfl) T.n_len b_len (pa_cons (pe_ix ix_list (pv 0) pe_int (fun _ _ => rfl)) pa_nil)) (nomark _))
              (pss_cons (ps_set (i := 4) sc_l_way.nd rfl (Or.inl rfl) (pe_ix ix_str (pe_ix ix_list (pv 0) pe_int (fun _ _ => rfl)) (pv 3) (fun _ _ => rfl)))
              pss_nil)
              (pss_cons (ps_set (i := 4) sc_l_way.nd rfl (Or.inl rfl) (pe_ix ix_str (pe_ix ix_list (pv 0) pe_int (fun _ _ => rfl)) (pe_op op_mod (pe_op op_sub (pv 3) (pe_callB call_len_str (by rfl) T.n_len b_len (pa_cons (pe_ix ix_list (pv 0) pe_int (fun _ _ => rfl)) pa_nil))) (pe_callB call_len_str (by rfl) T.n_len b_len (pa_cons (pe_ix ix_list (pv 0) pe_int (fun _ _ => rfl)) pa_nil))) (fun _ _ => rfl)))
              pss_nil))
            (pss_cons (ps_set (i := 2) sc_l_way.nd rfl (Or.inl rfl) (pe_op op_sub (pe_op op_add (pv 2) (pe_callTy call_int1 (by rfl) T.n_int b_int (pa_cons (pe_cmpR op_eq (pv 4) pe_str (nomark _)) pa_nil))) (pe_callTy call_int1 (by rfl) T.n_int b_int (pa_cons (pe_cmpR op_eq (pv 4) pe_str (nomark _)) pa_nil))))
            pss_nil))))
          (pss_cons (ps_ret (pv 2))
          pss_nil))), Run.start (σ := [some (.ref a), some (.int (t : Int)), none, none, none]) rfl ?_⟩
    refine run_asg ev_c ?_
    refine run_rng1 (ea1 (ev_var rfl)) (by omega) (by omega) (fun i σ' H' => (∃ v w, σ' = [some (.ref a), some (.int (t : Int)), some (.int (p.W (i : Int))), v, w]) ∧ H = H') ⟨⟨_, _, rfl⟩, rfl⟩ ?_ ?_
    · rintro i σ' H' hi ⟨⟨v, w, rfl⟩, rfl⟩
      refine run_asg ev_c ?_
      refine run_cut (fun σ' H' => σ' = [some (.ref a), some (.int (t : Int)), some (.int (p.W (i : Int))), some (.int (i : Int)), some (.str (S [stp p.h p.r i]))] ∧ H = H') ?_ ?_
      · refine run_ifO (et_test (ev_op (ev_var rfl) (ev_lenS (ev_p0 rfl hp) (S_szl (by omega))) rv_I0)) (fun hb => ?_) (fun hb => ?_)
        · have hb := of_decide_eq_true hb
          rw [S_len] at hb
          exact run_asg (ev_op (ev_p0 rfl hp) (ev_var rfl) (rv_ixS' (S_szl (by omega)) (at_head (by omega)))) (run_up rfl ⟨rfl, rfl⟩)
        · have hb := of_decide_eq_false hb
          rw [S_len] at hb
          exact run_asg (ev_op (ev_p1 rfl hp) (ev_op (ev_op (ev_var rfl) (ev_lenS (ev_p0 rfl hp) (S_szl (by omega))) rv_I0) (ev_lenS (ev_p1 rfl hp) (S_szl (by omega))) (rv_I (by rw [S_len]; omega))) (rv_ixS' (S_szl (by omega)) (at_ring ho (by omega)))) (run_up rfl ⟨rfl, rfl⟩)
      · rintro _ _ ⟨rfl, rfl⟩
        refine run_asg (ev_op (ev_op (ev_var rfl) (ev_letf (ev_var rfl)) rv_I0) (ev_letb (ev_var rfl)) rv_I0) ?_
        rw [sv_let, ← Wsucc]
        exact run_up rfl ⟨⟨_, _, rfl⟩, rfl⟩
    · rintro σ' H' ⟨⟨v, w, rfl⟩, rfl⟩
      exact run_ret (ev_var rfl) k
/-! _law_ways -/
theorem sc_l_ways : FnScope ["_law_parts_here", "_law_most", "_law_found", "_law_k", "_law_step"] ["_law_parts_here", "_law_most"] (defScope s_l_ways) := ⟨rfl, rfl, rfl, by decide +kernel, rfl, by decide +kernel, by decide +kernel⟩
/-- the ways 0 .. n -/
def waysL (p : Pl) (n : Nat) : List Int := (List.range (n + 1)).map fun t : Nat => p.W (t : Int)
theorem ways_len (p : Pl) (n : Nat) : (waysL p n).length = n + 1 := by unfold waysL; rw [List.length_map, List.length_range]
theorem ways_at {p : Pl} {n t : Nat} (h : t ≤ n) : (waysL p n)[t]? = some (p.W (t : Int)) := by
  unfold waysL; rw [List.getElem?_map, List.getElem?_range (by omega)]; rfl
theorem ways_succ (p : Pl) (n : Nat) : waysL p (n + 1) = waysL p n ++ [p.W ((n + 1 : Nat) : Int)] := by
  unfold waysL; rw [List.range_succ, List.map_append]; rfl
theorem waysV_at {p : Pl} {n t : Nat} (h : t ≤ n) : ((waysL p n).map V.int)[t]? = some (.int (p.W (t : Int))) := by rw [List.getElem?_map, ways_at h]; rfl
def sp_ways (K : PySem.W.Frag) : Sp := fun vs H Q _ => ∃ a p, ∃ n : Nat, vs = [.ref a, .int (n : Int)] ∧ PartsAt K H a p ∧ Mw.Ok p ∧ n ≤ 50000 ∧ RetL ((waysL p n).map V.int) H Q
theorem use_ways {a : Addr} {p : Pl} {n : Nat} {H : Hp} (hp : PartsAt K H a p) (ho : Mw.Ok p) (hn : n ≤ 50000) : SpL (sp_ways K) [.ref a, .int (n : Int)] H ((waysL p n).map V.int) := RetL.l fun H1 e Q q E => ⟨a, p, n, rfl, ex_l e hp, ho, hn, q⟩
theorem ok_l_ways {f : Addr} {fd : FuncData} (F : Fun K "_law_ways" "_law_ways" s_l_ways f fd) (T : Tx K mg w) : FnOk P w K mg base CX0 1 f fd ["_law_parts_here", "_law_most"] (sp_ways K) := by
  refine F.ok sc_l_ways (fun vs H Q E h => ?_) (fun cdv A outer s H vs Q E hr h => ?_)
  · obtain ⟨a, p, t, rfl, _⟩ := h; rfl
  · obtain ⟨a, p, n, rfl, hp, ho, hn, k⟩ := h
    have hl := ho.hl
    have rl := ho.rl
    have r0 := ho.r0
    refine ⟨_, (pss_cons (ps_set (i := 2) sc_l_ways.nd rfl (Or.inl rfl) (pe_lst (pa_cons pe_int pa_nil)))
          (pss_cons (ps_for PassesOwn.never rfl (pi_range1 rfl T.n_range (pa_cons (pv 1) pa_nil)) (pg_name (i := 3) sc_l_ways.nd rfl (Or.inl rfl))
            (Evl.pss_cut (ps_if (pt_cmpR op_lt (pv 3) (pe_callB call_len_str (by rfl) T.n_len b_len (pa_cons (pe_ix ix_list (pv 0) pe_int (fun _ _ => rfl)) pa_nil)) (nomark _))
              (pss_cons (ps_set (i := 4) sc_l_ways.nd rfl (Or.inl rfl) (pe_ix ix_str (pe_ix ix_list (pv 0) pe_int (fun _ _ => rfl)) (pv 3) (fun _ _ => rfl)))
              pss_nil)
              (pss_cons (ps_set (i := 4) sc_l_ways.nd rfl (Or.inl rfl) (pe_ix ix_str (pe_ix ix_list (pv 0) pe_int (fun _ _ => rfl)) (pe_op op_mod (pe_op op_sub (pv 3) (pe_callB call_len_str (by rfl) T.n_len b_len (pa_cons (pe_ix ix_list (pv 0) pe_int (fun _ _ => rfl)) pa_nil))) (pe_callB call_len_str (by rfl) T.n_len b_len (pa_cons (pe_ix ix_list (pv 0) pe_int (fun _ _ => rfl)) pa_nil))) (fun _ _ => rfl)))
              pss_nil))
            (pss_cons (ps_expr (pe_bm PySem.F.plainAttrs_list PySem.F.slot_list_append PySem.F.type_list_append mt_append (pv 2) (pa_cons (pe_op op_sub (pe_op op_add (pe_ix ix_list (pv 2) (pe_un un_neg pe_int) (fun _ _ => rfl)) (pe_callTy call_int1 (by rfl) T.n_int b_int (pa_cons (pe_cmpR op_eq (pv 4) pe_str (nomark _)) pa_nil))) (pe_callTy call_int1 (by rfl) T.n_int b_int (pa_cons (pe_cmpR op_eq (pv 4) pe_str (nomark _)) pa_nil))) pa_nil)))
            pss_nil)))
          (pss_cons (ps_ret (pv 2))
          pss_nil))), Run.start (σ := [some (.ref a), some (.int (n : Int)), none, none, none]) rfl ?_⟩
    refine run_asgL (el_lst (ea1 ev_c) (by show 1 ≤ 100000; decide)) fun q hq => ?_
    refine run_rng1 (ea1 (ev_var rfl)) (by omega) (by omega) (fun i σ' H' => (∃ v w, σ' = [some (.ref a), some (.int (n : Int)), some (.ref q), v, w]) ∧ upd H q (.lst ((waysL p i).map V.int)) = H') ⟨⟨_, _, rfl⟩, rfl⟩ ?_ ?_
    · rintro i σ' H' hi ⟨⟨v, w, rfl⟩, rfl⟩
      have hp' : ∀ o, PartsAt K (upd H q o) a p := fun o => ex_l (ex_upd hq) hp
      refine run_cut (fun σ' H' => σ' = [some (.ref a), some (.int (n : Int)), some (.ref q), some (.int (i : Int)), some (.str (S [stp p.h p.r i]))] ∧ upd H q (.lst ((waysL p i).map V.int)) = H') ?_ ?_
      · refine run_ifO (et_test (ev_op (ev_var rfl) (ev_lenS (ev_p0 rfl (hp' _)) (S_szl (by omega))) rv_I0)) (fun hb => ?_) (fun hb => ?_)
        · have hb := of_decide_eq_true hb
          rw [S_len] at hb
          exact run_asg (ev_op (ev_p0 rfl (hp' _)) (ev_var rfl) (rv_ixS' (S_szl (by omega)) (at_head (by omega)))) (run_up rfl ⟨rfl, rfl⟩)
        · have hb := of_decide_eq_false hb
          rw [S_len] at hb
          exact run_asg (ev_op (ev_p1 rfl (hp' _)) (ev_op (ev_op (ev_var rfl) (ev_lenS (ev_p0 rfl (hp' _)) (S_szl (by omega))) rv_I0) (ev_lenS (ev_p1 rfl (hp' _)) (S_szl (by omega))) (rv_I (by rw [S_len]; omega))) (rv_ixS' (S_szl (by omega)) (at_ring ho (by omega)))) (run_up rfl ⟨rfl, rfl⟩)
      · rintro _ _ ⟨rfl, rfl⟩
        have hlast : atI ((waysL p i).map V.int) (-1) = some (.int (p.W (i : Int))) := by
          refine at_last _ ?_
          rw [List.getLast?_eq_getElem?, List.length_map, ways_len]
          exact waysV_at (Nat.le_refl _)
        refine run_app (v := .int (p.W (i : Int) + sv (stp p.h p.r i))) (ev_var rfl) (ev_is (ev_op (ev_op (ev_op (ev_var rfl) (ev_un_neg ev_c) (rv_ixL (sq_of upd_same) hlast)) (ev_letf (ev_var rfl)) rv_I0) (ev_letb (ev_var rfl)) rv_I0) (by rw [sv_let])) ?_ ?_
        · rw [List.length_map, ways_len]; exact Nat.lt_of_lt_of_le (show i + 1 < 100000 by omega) (by decide)
        · refine run_up rfl ⟨⟨_, _, rfl⟩, ?_⟩
          rw [ways_succ, List.map_append, Wsucc]
          rfl
    · rintro σ' H' ⟨⟨v, w, rfl⟩, rfl⟩
      exact run_ret (ev_var rfl) fun H2 e2 => k q H2 hq ((ex_upd hq).trans e2) (e2 _ _ upd_same)
/-! _law_offsets -/
theorem sc_l_offsets : FnScope ["_law_one", "_law_two", "_law_d", "_law_most", "_law_first", "_law_second", "_law_found", "_law_t"] ["_law_one", "_law_two", "_law_d", "_law_most"] (defScope s_l_offsets) := ⟨rfl, rfl, rfl, by decide +kernel, rfl, by decide +kernel, by decide +kernel⟩
theorem Wmax' (p : Pl) (x : Int) : p.W ((x.toNat : Nat) : Int) = p.W x := by unfold Pl.W; rw [Int.toNat_natCast]
theorem ev_maxz {tb : TE} {σ : L2.St} {H : Hp} {x : Int} (h : Ev tb σ H (.int x)) : Ev (tCB (fun xs H Q => ∃ i j, xs = [.int i, .int j] ∧ Q (.int (if j > i then j else i)) H) (tCons tb (tCons (tC (.int 0)) tNil))) σ H (.int ((x.toNat : Nat) : Int)) := ev_is (ev_max h ev_c) (by congr 1; omega)
def offsL (p q : Pl) (d : Int) (m : Nat) : List Int := (List.range (m + 1)).map fun t : Nat => off p q d (t : Int)
theorem offs_len (p q : Pl) (d : Int) (m : Nat) : (offsL p q d m).length = m + 1 := by unfold offsL; rw [List.length_map, List.length_range]
theorem offs_at {p q : Pl} {d : Int} {m t : Nat} (h : t ≤ m) : (offsL p q d m)[t]? = some (off p q d (t : Int)) := by unfold offsL; rw [List.getElem?_map, List.getElem?_range (by omega)]; rfl
theorem offsV_at {p q : Pl} {d : Int} {m t : Nat} (h : t ≤ m) : ((offsL p q d m).map V.int)[t]? = some (.int (off p q d (t : Int))) := by rw [List.getElem?_map, offs_at h]; rfl
def sp_loffs (K : PySem.W.Frag) : Sp := fun vs H Q _ => ∃ a b p q d, ∃ m : Nat, vs = [.ref a, .ref b, .int d, .int (m : Int)] ∧ PartsAt K H a p ∧ Mw.Ok p ∧ PartsAt K H b q ∧ Mw.Ok q ∧ m ≤ 50000 ∧ RetL ((offsL p q d m).map V.int) H Q
theorem use_loffs {a b : Addr} {p q : Pl} {d : Int} {m : Nat} {H : Hp} (h1 : PartsAt K H a p) (o1 : Mw.Ok p) (h2 : PartsAt K H b q) (o2 : Mw.Ok q) (hm : m ≤ 50000) : SpL (sp_loffs K) [.ref a, .ref b, .int d, .int (m : Int)] H ((offsL p q d m).map V.int) := RetL.l fun H1 e Q k E => ⟨a, b, p, q, d, m, rfl, ex_l e h1, o1, ex_l e h2, o2, hm, k⟩
theorem ok_l_offsets {f : Addr} {fd : FuncData} (F : Fun K "_law_offsets" "_law_offsets" s_l_offsets f fd) (T : Tx K mg w) (c_l_ways : Cal P w K mg base CX0 1 "_law_ways" (sp_ways K)) : FnOk P w K mg base CX0 2 f fd ["_law_one", "_law_two", "_law_d", "_law_most"] (sp_loffs K) := by
  refine F.ok sc_l_offsets (fun vs H Q E h => ?_) (fun cdv A outer s H vs Q E hr h => ?_)
  · obtain ⟨a, b, p, q, d, m, rfl, _⟩ := h; rfl
  · obtain ⟨a, b, p, q, d, m, rfl, h1, o1, h2, o2, hm, k⟩ := h
    refine ⟨_, (pss_cons (ps_set (i := 4) sc_l_offsets.nd rfl (Or.inl rfl) (pe_cx c_l_ways hr (by decide) (by rfl) pass0 (pa_cons (pv 0) (pa_cons (pv 3) pa_nil))))
          (pss_cons (ps_set (i := 5) sc_l_offsets.nd rfl (Or.inl rfl) (pe_cx c_l_ways hr (by decide) (by rfl) pass0 (pa_cons (pv 1) (pa_cons (pv 3) pa_nil))))
          (pss_cons (ps_set (i := 6) sc_l_offsets.nd rfl (Or.inl rfl) (pe_lst pa_nil))
          (pss_cons (ps_for PassesOwn.never rfl (pi_range1 rfl T.n_range (pa_cons (pe_op op_add (pv 3) pe_int) pa_nil)) (pg_name (i := 7) sc_l_offsets.nd rfl (Or.inl rfl))
            (pss_cons (ps_expr (pe_bm PySem.F.plainAttrs_list PySem.F.slot_list_append PySem.F.type_list_append mt_append (pv 6) (pa_cons (pe_op op_sub (pe_ix ix_list (pv 4) (pe_callB (call_max2 rfl) (by rfl) T.n_max b_max (pa_cons (pe_op op_sub (pv 7) (pe_callB (call_max2 rfl) (by rfl) T.n_max b_max (pa_cons pe_int (pa_cons (pe_un un_neg (pv 2)) pa_nil)))) (pa_cons pe_int pa_nil))) (fun _ _ => rfl)) (pe_ix ix_list (pv 5) (pe_callB (call_max2 rfl) (by rfl) T.n_max b_max (pa_cons (pe_op op_sub (pv 7) (pe_callB (call_max2 rfl) (by rfl) T.n_max b_max (pa_cons pe_int (pa_cons (pv 2) pa_nil)))) (pa_cons pe_int pa_nil))) (fun _ _ => rfl))) pa_nil)))
            pss_nil))
          (pss_cons (ps_ret (pv 6))
          pss_nil))))), Run.start (σ := [some (.ref a), some (.ref b), some (.int d), some (.int (m : Int)), none, none, none, none]) rfl ?_⟩
    refine run_asgL (el_call0 (ea2 (ev_var rfl) (ev_var rfl)) (use_ways h1 o1 hm)) fun x hx => ?_
    refine run_asgL (el_call0 (ea2 (ev_var rfl) (ev_var rfl)) (use_ways (ex_l (ex_upd hx) h2) o2 hm)) fun y hy => ?_
    refine run_asgL (el_lst ea_nil (by decide)) fun z hz => ?_
    have s1 : SqL K (upd (upd H x (.lst ((waysL p m).map V.int))) y (.lst ((waysL q m).map V.int))) x ((waysL p m).map V.int) := ex_l (ex_upd hy) (sq_of upd_same)
    have s2 : SqL K (upd (upd H x (.lst ((waysL p m).map V.int))) y (.lst ((waysL q m).map V.int))) y ((waysL q m).map V.int) := sq_of upd_same
    have eH : Ex H (upd (upd H x (.lst ((waysL p m).map V.int))) y (.lst ((waysL q m).map V.int))) := (ex_upd hx).trans (ex_upd hy)
    generalize upd (upd H x (.lst ((waysL p m).map V.int))) y (.lst ((waysL q m).map V.int)) = G at *
    refine run_rng1 (n := (m : Int) + 1) (ea1 (ev_op (ev_var rfl) ev_c rv_I0)) (by omega) (by omega) (fun i σ' H' => H' = upd G z (.lst (((List.range i).map fun t : Nat => off p q d (t : Int)).map V.int)) ∧ ∃ v7, σ' = [some (.ref a), some (.ref b), some (.int d), some (.int (m : Int)), some (.ref x), some (.ref y), some (.ref z), v7]) ⟨rfl, none, rfl⟩ ?_ ?_
    · rintro i σ' H' hi ⟨rfl, v7, rfl⟩
      have hi : i ≤ m := by omega
      have hx1 : atI ((waysL p m).map V.int) ((((i : Int) - max 0 (-d)).toNat : Nat) : Int) = some (.int (p.W ((i : Int) - max 0 (-d)))) := by
        have := at_nat (i := ((i : Int) - max 0 (-d)).toNat) _ (waysV_at (p := p) (n := m) (t := ((i : Int) - max 0 (-d)).toNat) (by omega))
        rw [Wmax'] at this
        exact this
      have hx2 : atI ((waysL q m).map V.int) ((((i : Int) - max 0 d).toNat : Nat) : Int) = some (.int (q.W ((i : Int) - max 0 d))) := by
        have := at_nat (i := ((i : Int) - max 0 d).toNat) _ (waysV_at (p := q) (n := m) (t := ((i : Int) - max 0 d).toNat) (by omega))
        rw [Wmax'] at this
        exact this
      refine run_app (v := .int (off p q d (i : Int))) (ev_var rfl) (ev_op (ev_op (ev_var rfl) (ev_maxz (ev_op (ev_var rfl) (ev_max ev_c (ev_un_neg (ev_var rfl))) rv_I0)) (rv_ixL (ex_l (ex_upd hz) s1) hx1)) (ev_op (ev_var rfl) (ev_maxz (ev_op (ev_var rfl) (ev_max ev_c (ev_var rfl)) rv_I0)) (rv_ixL (ex_l (ex_upd hz) s2) hx2)) rv_I0) ?_ ?_
      · rw [List.length_map, List.length_map, List.length_range]; exact Nat.lt_of_le_of_lt (show i ≤ 50000 by omega) (by decide)
      · refine run_up rfl ⟨?_, _, rfl⟩
        rw [List.range_succ, List.map_append, List.map_append]; rfl
    · rintro σ' H' ⟨rfl, v7, rfl⟩
      rw [show ((m : Int) + 1).toNat = m + 1 from by omega]
      exact run_ret (ev_var rfl) fun H2 e2 => k z H2 (fresh_back eH hz) ((eH.trans (ex_upd hz)).trans e2) (e2 _ _ upd_same)
/-! _law_common -/
theorem sc_l_common : FnScope ["_law_one", "_law_other", "_law_rest"] ["_law_one", "_law_other"] (defScope s_l_common) := ⟨rfl, rfl, rfl, by decide +kernel, rfl, by decide +kernel, by decide +kernel⟩
def sp_lcommon : Sp := fun vs H Q _ => ∃ m n : Nat, vs = [.int (m : Int), .int (n : Int)] ∧ RetV (.int ((Nat.gcd m n : Nat) : Int)) H Q
theorem use_lcommon {m n : Nat} {H : Hp} : SpV sp_lcommon [.int (m : Int), .int (n : Int)] H (.int ((Nat.gcd m n : Nat) : Int)) := fun H1 e Q q E => ⟨m, n, rfl, fun H2 e2 => q H2 e2⟩
theorem gcdL_step (m n : Nat) : Nat.gcd n (m % n) = Nat.gcd m n := by rw [Nat.gcd_comm m n, Nat.gcd_rec n m, Nat.gcd_comm]
theorem ok_l_common {f : Addr} {fd : FuncData} (F : Fun K "_law_common" "_law_common" s_l_common f fd) (T : Tx K mg w) : FnOk P w K mg base CX0 1 f fd ["_law_one", "_law_other"] sp_lcommon := by
  refine F.ok sc_l_common (fun vs H Q E h => ?_) (fun cdv A outer s H vs Q E hr h => ?_)
  · obtain ⟨m, n, rfl, _⟩ := h; rfl
  · obtain ⟨m, n, rfl, k⟩ := h
    refine ⟨_, (pss_cons (ps_while PassesOwn.never (pt_cmpR op_ne (pv 1) pe_int (nomark _))
            (pss_cons (ps_set (i := 2) sc_l_common.nd rfl (Or.inl rfl) (pe_op op_mod (pv 0) (pv 1)))
            (pss_cons (ps_set (i := 0) sc_l_common.nd rfl (Or.inl rfl) (pv 1))
            (pss_cons (ps_set (i := 1) sc_l_common.nd rfl (Or.inl rfl) (pv 2))
            pss_nil))))
          (pss_cons (ps_ret (pe_callB call_abs (by rfl) T.n_abs b_abs (pa_cons (pv 0) pa_nil)))
          pss_nil)), Run.start (σ := [some (.int (m : Int)), some (.int (n : Int)), none]) rfl ?_⟩
    refine run_while (fun r σ' H' => ∃ m' : Nat, ∃ v2, Nat.gcd m' r = Nat.gcd m n ∧ σ' = [some (.int (m' : Int)), some (.int (r : Int)), v2] ∧ H = H') n ⟨m, none, rfl, rfl, rfl⟩ ?_
    rintro r σ' H' ⟨m', v2, hg, rfl, rfl⟩
    refine ⟨decide (r ≠ 0), et_is (et_test (ev_op (ev_var rfl) ev_c (rv_ne rfl))) ?_, fun hb => ?_, fun hb => ?_⟩
    · by_cases c : r = 0
      · subst c; rfl
      · rw [decide_eq_true c, decide_eq_false (fun e => by injection e with e; omega)]; rfl
    · have hr := of_decide_eq_true hb
      refine run_asg (v := .int ((m' % r : Nat) : Int)) (ev_is (ev_op (ev_var rfl) (ev_var rfl) (rv_I (by omega))) (by rw [← Int.natCast_emod])) ?_
      refine run_asg (ev_var rfl) (run_asg (ev_var rfl) ?_)
      exact run_up rfl ⟨m' % r, Nat.mod_lt _ (by omega), r, _, by rw [gcdL_step]; exact hg, rfl, rfl⟩
    · have hr : r = 0 := Classical.not_not.mp (of_decide_eq_false hb)
      subst hr
      rw [Nat.gcd_zero_right] at hg
      refine run_ret (v := .int ((Nat.gcd m n : Nat) : Int)) (ev_is (ev_abs (ev_var rfl)) ?_) fun H2 e2 => k H2 e2
      rw [Int.natAbs_natCast, hg]
/-! _law_pace -/
theorem sc_l_pace : FnScope ["_law_one", "_law_two", "_law_a", "_law_b", "_law_steps_here", "_law_first"] ["_law_one", "_law_two"] (defScope s_l_pace) := ⟨rfl, rfl, rfl, by decide +kernel, rfl, by decide +kernel, by decide +kernel⟩
def sp_lpace (K : PySem.W.Frag) : Sp := fun vs H Q _ => ∃ a b p q, vs = [.ref a, .ref b] ∧ PartsAt K H a p ∧ Mw.Ok p ∧ PartsAt K H b q ∧ Mw.Ok q ∧ RetU [.int ((lcmP p q : Nat) : Int), .int (gain p q)] H Q
theorem use_lpace {a b : Addr} {p q : Pl} {H : Hp} (h1 : PartsAt K H a p) (o1 : Mw.Ok p) (h2 : PartsAt K H b q) (o2 : Mw.Ok q) : SpU (sp_lpace K) [.ref a, .ref b] H [.int ((lcmP p q : Nat) : Int), .int (gain p q)] := RetU.u fun H1 e Q k E => ⟨a, b, p, q, rfl, ex_l e h1, o1, ex_l e h2, o2, k⟩
theorem rounds_W {p : Pl} (h : 0 < p.r.length) (m : Nat) : (⟨[], p.r⟩ : Pl).W ((m * p.r.length : Nat) : Int) = (m : Int) * tot p.r := by
  unfold Pl.W
  rw [Int.toNat_natCast]
  exact W_rounds p.r h m
theorem lcm_W1 {p q : Pl} (h : 0 < p.r.length) : (⟨[], p.r⟩ : Pl).W ((lcmP p q : Nat) : Int) = tot p.r * ((lcmP p q / p.r.length : Nat) : Int) := by
  have := rounds_W h (lcmP p q / p.r.length)
  rw [lcm_a] at this
  rw [this, Int.mul_comm]
theorem lcm_W2 {p q : Pl} (h : 0 < q.r.length) : (⟨[], q.r⟩ : Pl).W ((lcmP p q : Nat) : Int) = tot q.r * ((lcmP p q / q.r.length : Nat) : Int) := by
  have := rounds_W h (lcmP p q / q.r.length)
  rw [lcm_b] at this
  rw [this, Int.mul_comm]
theorem ok_l_pace {f : Addr} {fd : FuncData} (F : Fun K "_law_pace" "_law_pace" s_l_pace f fd) (T : Tx K mg w) (c_l_common : Cal P w K mg base CX0 1 "_law_common" sp_lcommon) (c_l_way : Cal P w K mg base CX0 1 "_law_way" (sp_lway K)) : FnOk P w K mg base CX0 2 f fd ["_law_one", "_law_two"] (sp_lpace K) := by
  refine F.ok sc_l_pace (fun vs H Q E h => ?_) (fun cdv A outer s H vs Q E hr h => ?_)
  · obtain ⟨a, b, p, q, rfl, _⟩ := h; rfl
  · obtain ⟨a, b, p, q, rfl, h1, o1, h2, o2, k⟩ := h
    have l1 := o1.rl
    have l2 := o2.rl
    have g1 : 0 < Nat.gcd p.r.length q.r.length := Nat.gcd_pos_of_pos_left _ o1.r0
    have g2 : Nat.gcd p.r.length q.r.length ≤ 6 := Nat.le_trans (Nat.gcd_le_left _ o1.r0) l1
    have l36 : lcmP p q ≤ 36 := Nat.le_trans (lcm_le p q) (Nat.le_trans (Nat.mul_le_mul l1 l2) (by decide))
    refine ⟨_, (pss_cons (ps_par (i := 2) (j := 3) rfl sc_l_pace.nd rfl rfl (by decide) rfl rfl (pa_cons (pe_callB call_len_str (by rfl) T.n_len b_len (pa_cons (pe_ix ix_list (pv 0) pe_int (fun _ _ => rfl)) pa_nil)) (pa_cons (pe_callB call_len_str (by rfl) T.n_len b_len (pa_cons (pe_ix ix_list (pv 1) pe_int (fun _ _ => rfl)) pa_nil)) pa_nil)) rfl)
          (pss_cons (ps_set (i := 4) sc_l_pace.nd rfl (Or.inl rfl) (pe_op op_fdiv (pe_op op_mul (pv 2) (pv 3)) (pe_cx c_l_common hr (by decide) (by rfl) pass0 (pa_cons (pv 2) (pa_cons (pv 3) pa_nil)))))
          (pss_cons (ps_set (i := 5) sc_l_pace.nd rfl (Or.inl rfl) (pe_cx c_l_way hr (by decide) (by rfl) pass0 (pa_cons (pe_lst (pa_cons pe_str (pa_cons (pe_ix ix_list (pv 0) pe_int (fun _ _ => rfl)) pa_nil))) (pa_cons (pv 4) pa_nil))))
          (pss_cons (ps_ret (pe_tup (pa_cons (pv 4) (pa_cons (pe_op op_sub (pv 5) (pe_cx c_l_way hr (by decide) (by rfl) pass0 (pa_cons (pe_lst (pa_cons pe_str (pa_cons (pe_ix ix_list (pv 1) pe_int (fun _ _ => rfl)) pa_nil))) (pa_cons (pv 4) pa_nil)))) pa_nil))))
          pss_nil)))), Run.start (σ := [some (.ref a), some (.ref b), none, none, none, none]) rfl ?_⟩
    refine run_par (ea2 (ev_is (w := .int (p.r.length : Int)) (ev_lenS (ev_p1 rfl h1) (S_szl (by omega))) (by rw [S_len])) (ev_is (w := .int (q.r.length : Int)) (ev_lenS (ev_p1 rfl h2) (S_szl (by omega))) (by rw [S_len]))) ?_
    refine run_asg (v := .int ((lcmP p q : Nat) : Int)) (ev_is (ev_op (ev_op (ev_var rfl) (ev_var rfl) (rv_I (.inr ⟨by omega, by omega⟩))) (ev_call0 (ea2 (ev_var rfl) (ev_var rfl)) use_lcommon) (rv_I ⟨by omega, by omega⟩)) ?_) ?_
    · unfold lcmP; rw [← Int.natCast_mul, ← Int.natCast_ediv]
    have wy : ∀ {σ : L2.St} {i : Nat} {x : Addr} {r : Pl}, σ[i]? = some (some (.ref x)) → σ[4]? = some (some (.int ((lcmP p q : Nat) : Int))) → PartsAt K H x r → Mw.Ok r → Ev (tCall (sp_lway K) [] E0 (tCons (tLst (tCons (tC (.str "")) (tCons (tOp (rIxL K) (tVar i) (tC (.int 1))) tNil))) (tCons (tVar 4) tNil))) σ H (.int ((⟨[], r.r⟩ : Pl).W ((lcmP p q : Nat) : Int))) := fun {σ i x r} e1 e2 hr ok =>
      ev_callN fun H1 e => (ega_LV (el_lst (ea2 ev_c (ev_p1 e1 (ex_l e hr))) (by show 2 ≤ 100000; decide)) fun H2 e3 => ev_var e2).imp fun vs H' ⟨e4, z, ev, hz⟩ => by
        subst ev
        exact ⟨e4, use_lway (p := ⟨[], r.r⟩) (sq_of (by rw [hz, noneT])) ⟨by show 0 ≤ 6; decide, ok.r0, ok.rl⟩ (by omega)⟩
    refine run_asg (wy rfl rfl h1 o1) ?_
    refine run_retU (eu_tup (ea2 (ev_var rfl) (ev_is (w := .int (gain p q)) (ev_op (ev_var rfl) (wy rfl rfl h2 o2) rv_I0) ?_)) (by show 2 ≤ 100000; decide)) ?_
    · rw [lcm_W1 o1.r0, lcm_W2 o2.r0]; rfl
    · exact fun z hz H2 e2 => k z hz H2 e2
/-! _law_times -/
theorem sc_l_times : FnScope ["_law_one", "_law_two", "_law_n", "_law_d", "_law_begin_here", "_law_most", "_law_found", "_law_rows", "_law_t"] ["_law_one", "_law_two", "_law_n", "_law_d"] (defScope s_l_times) := ⟨rfl, rfl, rfl, by decide +kernel, rfl, by decide +kernel, by decide +kernel⟩
def lawT (p q : Pl) (n : Nat) (d : Int) : Nat := beg p q d + lcmP p q * n + 3
def tabL (p q : Pl) (n : Nat) (d : Int) : List (Int × Int) := ft (fun t : Nat => off p q d (t : Int)) (n : Int) (lawT p q n d + 1)
def sp_ltimes (K : PySem.W.Frag) : Sp := fun vs H Q _ => ∃ a b p q d, ∃ n : Nat, vs = [.ref a, .ref b, .int (n : Int), .int d] ∧ PartsAt K H a p ∧ Mw.Ok p ∧ PartsAt K H b q ∧ Mw.Ok q ∧ 0 < n ∧ lawT p q n d ≤ 50000 ∧ RetK (tabK (tabL p q n d)) H Q
theorem use_ltimes {a b : Addr} {p q : Pl} {d : Int} {n : Nat} {H : Hp} (h1 : PartsAt K H a p) (o1 : Mw.Ok p) (h2 : PartsAt K H b q) (o2 : Mw.Ok q) (hn : 0 < n) (hl : lawT p q n d ≤ 50000) : SpK (sp_ltimes K) [.ref a, .ref b, .int (n : Int), .int d] H (tabK (tabL p q n d)) := RetK.k fun H1 e Q k E => ⟨a, b, p, q, d, n, rfl, ex_l e h1, o1, ex_l e h2, o2, hn, hl, k⟩
theorem ok_l_times {f : Addr} {fd : FuncData} (F : Fun K "_law_times" "_law_times" s_l_times f fd) (T : Tx K mg w) (c_l_pace : Cal P w K mg base CX0 2 "_law_pace" (sp_lpace K)) (c_l_offsets : Cal P w K mg base CX0 2 "_law_offsets" (sp_loffs K)) : FnOk P w K mg base CX0 3 f fd ["_law_one", "_law_two", "_law_n", "_law_d"] (sp_ltimes K) := by
  refine F.ok sc_l_times (fun vs H Q E h => ?_) (fun cdv A outer s H vs Q E hr h => ?_)
  · obtain ⟨a, b, p, q, d, n, rfl, _⟩ := h; rfl
  · obtain ⟨a, b, p, q, d, n, rfl, h1, o1, h2, o2, hn, hl, k⟩ := h
    have l36 : lcmP p q ≤ 36 := Nat.le_trans (lcm_le p q) (Nat.le_trans (Nat.mul_le_mul o1.rl o2.rl) (by decide))
    have b1 := o1.hl
    have b2 := o2.hl
    refine ⟨_, (pss_cons (ps_set (i := 4) sc_l_times.nd rfl (Or.inl rfl) (pe_callB (call_max2 rfl) (by rfl) T.n_max b_max (pa_cons (pe_op op_add (pe_callB call_len_str (by rfl) T.n_len b_len (pa_cons (pe_ix ix_list (pv 0) pe_int (fun _ _ => rfl)) pa_nil)) (pe_callB (call_max2 rfl) (by rfl) T.n_max b_max (pa_cons pe_int (pa_cons (pe_un un_neg (pv 3)) pa_nil)))) (pa_cons (pe_op op_add (pe_callB call_len_str (by rfl) T.n_len b_len (pa_cons (pe_ix ix_list (pv 1) pe_int (fun _ _ => rfl)) pa_nil)) (pe_callB (call_max2 rfl) (by rfl) T.n_max b_max (pa_cons pe_int (pa_cons (pv 3) pa_nil)))) pa_nil))))
          (pss_cons (ps_set (i := 5) sc_l_times.nd rfl (Or.inl rfl) (pe_op op_add (pe_op op_add (pv 4) (pe_op op_mul (pe_ix ix_tup (pe_cx c_l_pace hr (by decide) (by rfl) pass0 (pa_cons (pv 0) (pa_cons (pv 1) pa_nil))) pe_int (fun _ _ => rfl)) (pv 2))) pe_int))
          (pss_cons (ps_set (i := 6) sc_l_times.nd rfl (Or.inl rfl) pe_dnewK)
          (pss_cons (ps_set (i := 7) sc_l_times.nd rfl (Or.inl rfl) (pe_cx c_l_offsets hr (by decide) (by rfl) pass0 (pa_cons (pv 0) (pa_cons (pv 1) (pa_cons (pv 3) (pa_cons (pv 5) pa_nil))))))
          (pss_cons (ps_for PassesOwn.never rfl (pi_range1 rfl T.n_range (pa_cons (pe_op op_add (pv 5) pe_int) pa_nil)) (pg_name (i := 8) sc_l_times.nd rfl (Or.inl rfl))
            (pss_cons (ps_if (pt_cmp (pc_dnotin (hu_of hr) (pe_op op_mod (pe_ix ix_list (pv 7) (pv 8) (fun _ _ => rfl)) (pv 2)) (pv 6)) rfl)
              (pss_cons (ps_dput (hu_of hr) (pv 6) (pe_op op_mod (pe_ix ix_list (pv 7) (pv 8) (fun _ _ => rfl)) (pv 2)) (pv 8) rfl)
              pss_nil)
              pss_nil)
            pss_nil))
          (pss_cons (ps_ret (pv 6))
          pss_nil)))))), Run.start (σ := [some (.ref a), some (.ref b), some (.int (n : Int)), some (.int d), none, none, none, none, none]) rfl ?_⟩
    refine run_asg (v := .int ((beg p q d : Nat) : Int)) (ev_is (ev_max (ev_op (ev_lenS (ev_p0 rfl h1) (S_szl (by omega))) (ev_max ev_c (ev_un_neg (ev_var rfl))) rv_I0) (ev_op (ev_lenS (ev_p0 rfl h2) (S_szl (by omega))) (ev_max ev_c (ev_var rfl)) rv_I0)) ?_) ?_
    · rw [S_len, S_len]
      unfold beg
      congr 1
      omega
    refine run_asg (v := .int ((lawT p q n d : Nat) : Int)) (ev_is (ev_op (ev_op (ev_var rfl) (ev_op (ev_ixU (eu_call (ea2 (ev_var rfl) (ev_var rfl)) (use_lpace h1 o1 h2 o2)) ev_c rfl) (ev_var rfl) (rv_I (.inl ⟨by omega, by omega⟩))) rv_I0) ev_c rv_I0) ?_) ?_
    · unfold lawT
      rw [Int.natCast_add, Int.natCast_add, Int.natCast_mul]; rfl
    refine run_asgD fun z hz => ?_
    refine run_asgL (el_call0 (ea4 (ev_var rfl) (ev_var rfl) (ev_var rfl) (ev_var rfl)) (use_loffs (ex_l (ex_upd hz) h1) o1 (ex_l (ex_upd hz) h2) o2 hl)) fun y hy => ?_
    have hzy : z ≠ y := fun e => by subst e; rw [upd_same] at hy; cases hy
    rw [upd_ne (Ne.symm hzy)] at hy
    have e1 : upd (upd H z (.dK [])) y (.lst ((offsL p q d (lawT p q n d)).map V.int)) = upd (upd H y (.lst ((offsL p q d (lawT p q n d)).map V.int))) z (.dK []) := by
      funext c
      by_cases c1 : c = y
      · subst c1; rw [upd_same, upd_ne (Ne.symm hzy), upd_same]
      · by_cases c2 : c = z
        · subst c2; rw [upd_ne hzy, upd_same, upd_same]
        · rw [upd_ne c1, upd_ne c2, upd_ne c2, upd_ne c1]
    rw [e1]
    have hz' : (upd H y (.lst ((offsL p q d (lawT p q n d)).map V.int))) z = none := by rw [upd_ne hzy]; exact hz
    have s1 : SqL K (upd H y (.lst ((offsL p q d (lawT p q n d)).map V.int))) y ((offsL p q d (lawT p q n d)).map V.int) := sq_of upd_same
    have eH : Ex H (upd H y (.lst ((offsL p q d (lawT p q n d)).map V.int))) := ex_upd hy
    generalize upd H y (.lst ((offsL p q d (lawT p q n d)).map V.int)) = G at *
    refine run_rng1 (n := (lawT p q n d : Int) + 1) (ea1 (ev_op (ev_var rfl) ev_c rv_I0)) (by omega) (by omega) (fun i σ' H' => H' = upd G z (.dK (tabK (ft (fun t : Nat => off p q d (t : Int)) (n : Int) i))) ∧ ∃ v8, σ' = [some (.ref a), some (.ref b), some (.int (n : Int)), some (.int d), some (.int ((beg p q d : Nat) : Int)), some (.int ((lawT p q n d : Nat) : Int)), some (.ref z), some (.ref y), v8]) ⟨rfl, none, rfl⟩ ?_ ?_
    · rintro i σ' H' hi ⟨rfl, v8, rfl⟩
      have hi : i ≤ lawT p q n d := by omega
      have gap : Ev (tOp (rI (fun _ j => 0 < j) fun i j => .int (i % j)) (tOp (rIxL K) (tVar 7) (tVar 8)) (tVar 2)) [some (.ref a), some (.ref b), some (.int (n : Int)), some (.int d), some (.int ((beg p q d : Nat) : Int)), some (.int ((lawT p q n d : Nat) : Int)), some (.ref z), some (.ref y), some (.int (i : Int))] (upd G z (.dK (tabK (ft (fun t : Nat => off p q d (t : Int)) (n : Int) i)))) (.int (off p q d (i : Int) % (n : Int))) :=
        ev_op (ev_op (ev_var rfl) (ev_var rfl) (rv_ixL (ex_l (ex_upd hz') s1) (at_nat _ (offsV_at hi)))) (ev_var rfl) (rv_I (by omega))
      have hdin := ev_dnin (td := tVar 6) gap (ev_var rfl) (DGet.k (k := .inl (off p q d (i : Int) % (n : Int))) upd_same)
      rw [tab_some] at hdin
      refine run_if (et_test hdin) (fun hb => ?_) (fun hb => run_end ?_)
      · have hb : (fun t : Nat => off p q d (t : Int)) i % (n : Int) ∉ (ft (fun t : Nat => off p q d (t : Int)) (n : Int) i).map (·.1) := by
          intro c; rw [decide_eq_true c] at hb; cases hb
        have hlen := ft_len (f := fun t : Nat => off p q d (t : Int)) (n := (n : Int)) i
        refine run_dput (k := .inl (off p q d (i : Int) % (n : Int))) (ev_var rfl) (ev_var rfl) gap ?_ ?_
        · rw [tab_len]; exact Nat.lt_of_le_of_lt (show _ ≤ 50000 by omega) (by decide)
        · refine run_end (run_up rfl ⟨?_, _, rfl⟩)
          rw [ft_no hb]
          exact congrArg (fun k => upd G z (.dK k)) (tab_snoc hb)
      · have hb : (fun t : Nat => off p q d (t : Int)) i % (n : Int) ∈ (ft (fun t : Nat => off p q d (t : Int)) (n : Int) i).map (·.1) := by
          by_cases c : (fun t : Nat => off p q d (t : Int)) i % (n : Int) ∈ (ft (fun t : Nat => off p q d (t : Int)) (n : Int) i).map (·.1)
          · exact c
          · rw [decide_eq_false c] at hb; cases hb
        refine run_up rfl ⟨?_, _, rfl⟩
        rw [ft_yes hb]
    · rintro σ' H' ⟨rfl, v8, rfl⟩
      rw [show ((lawT p q n d : Int) + 1).toNat = lawT p q n d + 1 from by omega]
      exact run_ret (ev_var rfl) fun H2 e2 => k z (fresh_back eH hz') H2 ((exc eH).trans e2)
/-! _law_like -/
theorem sc_l_like : FnScope ["_law_actual", "_law_due", "_law_k", "_law_key"] ["_law_actual", "_law_due"] (defScope s_l_like) := ⟨rfl, rfl, rfl, by decide +kernel, rfl, by decide +kernel, by decide +kernel⟩
/-- data without parts -/
def ScV (v : V) : Prop := v = .non ∨ (∃ i, v = .int i) ∨ (∃ z, v = .str (S z))
/-- two things with the same data -/
def LikeV (deep : Prop) (H : Hp) (x y : V) : Prop := (x = y ∧ ScV x) ∨ (deep ∧ ∃ a b xs, x = .ref a ∧ y = .ref b ∧ ((H a = some (.lst xs) ∧ H b = some (.lst xs)) ∨ (H a = some (.tup xs) ∧ H b = some (.tup xs))) ∧ xs.length ≤ 1000 ∧ ∀ v ∈ xs, ScV v)
theorem LikeV.mono {deep : Prop} {H H' : Hp} {x y : V} (e : Ex H H') (h : LikeV deep H x y) : LikeV deep H' x y := h.elim .inl fun ⟨hd, a, b, xs, h1, h2, h3, h4⟩ => .inr ⟨hd, a, b, xs, h1, h2, h3.elim (fun h => .inl ⟨e _ _ h.1, e _ _ h.2⟩) (fun h => .inr ⟨e _ _ h.1, e _ _ h.2⟩), h4⟩
def sp_likeD (deep : Prop) : Sp := fun vs H Q _ => ∃ x y, vs = [x, y] ∧ LikeV deep H x y ∧ RetV (.bl true) H Q
def sp_like : Sp := sp_likeD True
theorem use_like {deep : Prop} {x y : V} {H : Hp} (h : LikeV deep H x y) : SpV (sp_likeD deep) [x, y] H (.bl true) := fun H1 e Q q E => ⟨x, y, rfl, h.mono e, fun H2 e2 => q H2 e2⟩
theorem sc_same {v : V} (h : ScV v) : scal v v = true := by rcases h with rfl | ⟨i, rfl⟩ | ⟨z, rfl⟩ <;> rfl
theorem ok_like_gen {f : Addr} {fd : FuncData} (F : Fun K "_law_like" "_law_like" s_l_like f fd) (T : Tx K mg w) {n : Nat} {deep : Prop} {sp0 : Sp} (c_l_like : Cal P w K mg base CX0 n "_law_like" sp0) (h0 : deep → ∀ v H, ScV v → SpV sp0 [v, v] H (.bl true)) : FnOk P w K mg base CX0 (n + 1) f fd ["_law_actual", "_law_due"] (sp_likeD deep) := by
  refine F.ok sc_l_like (fun vs H Q E h => ?_) (fun cdv A outer s H vs Q E hr h => ?_)
  · obtain ⟨x, y, rfl, _⟩ := h; rfl
  · obtain ⟨x, y, rfl, hlk, k⟩ := h
    refine ⟨_, (pss_cons (ps_if (pt_val (pe_callB call_isi (by rfl) T.n_isinstance b_isinstance (pa_cons (pv 1) (pa_cons (pe_bltn (v := .ty "dict") (by rfl) T.n_dict b_dict rfl) pa_nil))))
            pss_never
            pss_nil)
          (pss_cons (ps_if (pt_cmpR op_isN1 (pv 1) pe_non (nomark _))
            (pss_cons (ps_ret (pe_cmpR op_isN1 (pv 0) pe_non (nomark _)))
            pss_nil)
            pss_nil)
          (pss_cons (ps_if (pt_val (pe_callB call_isi (by rfl) T.n_isinstance b_isinstance (pa_cons (pv 1) (pa_cons (pe_bltn (v := .ty "bool") (by rfl) T.n_bool b_bool rfl) pa_nil))))
            pss_never
            pss_nil)
          (pss_cons (ps_if (pt_val (pe_callB call_isi (by rfl) T.n_isinstance b_isinstance (pa_cons (pv 1) (pa_cons (pe_bltn (v := .ty "int") (by rfl) T.n_int b_int rfl) pa_nil))))
            (pss_cons (ps_ret (pe_and (pe_callB call_isi (by rfl) T.n_isinstance b_isinstance (pa_cons (pv 0) (pa_cons (pe_bltn (v := .ty "int") (by rfl) T.n_int b_int rfl) pa_nil))) (pe_and (pe_not (pe_callB call_isi (by rfl) T.n_isinstance b_isinstance (pa_cons (pv 0) (pa_cons (pe_bltn (v := .ty "bool") (by rfl) T.n_bool b_bool rfl) pa_nil)))) (pe_one (pe_cmpR op_eq (pv 0) (pv 1) (nomark _))))))
            pss_nil)
            pss_nil)
          (pss_cons (ps_if (pt_val (pe_callB call_isi (by rfl) T.n_isinstance b_isinstance (pa_cons (pv 1) (pa_cons (pe_bltn (v := .ty "str") (by rfl) T.n_str b_str rfl) pa_nil))))
            (pss_cons (ps_ret (pe_and (pe_callB call_isi (by rfl) T.n_isinstance b_isinstance (pa_cons (pv 0) (pa_cons (pe_bltn (v := .ty "str") (by rfl) T.n_str b_str rfl) pa_nil))) (pe_one (pe_cmpR op_eq (pv 0) (pv 1) (nomark _)))))
            pss_nil)
            pss_nil)
          (pss_cons (ps_if (pt_val (pe_callB call_isi (by rfl) T.n_isinstance b_isinstance (pa_cons (pv 1) (pa_cons (pe_bltn (v := .ty "tuple") (by rfl) T.n_tuple b_tuple rfl) pa_nil))))
            (pss_cons (ps_if (PW.pt (pw_or (pt_not (pt_val (pe_callB call_isi (by rfl) T.n_isinstance b_isinstance (pa_cons (pv 0) (pa_cons (pe_bltn (v := .ty "tuple") (by rfl) T.n_tuple b_tuple rfl) pa_nil))))) (pw_or1 (pt_cmpR op_ne (pe_callB call_len_seq (by rfl) T.n_len b_len (pa_cons (pv 0) pa_nil)) (pe_callB call_len_seq (by rfl) T.n_len b_len (pa_cons (pv 1) pa_nil)) (nomark _)))))
              (pss_cons (ps_ret pe_bl)
              pss_nil)
              pss_nil)
            pss_nil)
            (pss_cons (ps_if (PW.pt (pw_or (pt_not (pt_val (pe_callB call_isi (by rfl) T.n_isinstance b_isinstance (pa_cons (pv 0) (pa_cons (pe_bltn (v := .ty "list") (by rfl) T.n_list b_list rfl) pa_nil))))) (pw_or1 (pt_cmpR op_ne (pe_callB call_len_seq (by rfl) T.n_len b_len (pa_cons (pv 0) pa_nil)) (pe_callB call_len_seq (by rfl) T.n_len b_len (pa_cons (pv 1) pa_nil)) (nomark _)))))
              (pss_cons (ps_ret pe_bl)
              pss_nil)
              pss_nil)
            pss_nil))
          (pss_cons (ps_for PassesOwn.never rfl (pi_range1 rfl T.n_range (pa_cons (pe_callB call_len_seq (by rfl) T.n_len b_len (pa_cons (pv 1) pa_nil)) pa_nil)) (pg_name (i := 2) sc_l_like.nd rfl (Or.inl rfl))
            (pss_cons (ps_if (pt_not (pt_val (pe_cx c_l_like hr (Nat.le_refl _) (by rfl) pass0 (pa_cons (pe_ix ix_any (pv 0) (pv 2) (fun _ _ => rfl)) (pa_cons (pe_ix ix_any (pv 1) (pv 2) (fun _ _ => rfl)) pa_nil)))))
              (pss_cons (ps_ret pe_bl)
              pss_nil)
              pss_nil)
            pss_nil))
          (pss_cons (ps_ret pe_bl)
          pss_nil)))))))), Run.start (σ := [some x, some y, none, none]) rfl ?_⟩
    have isi : ∀ {i : Nat} {v : V} {t : Value} {ty : String} {b : Bool} {σ : L2.St}, σ[i]? = some (some v) → (∀ H', Ex H H' → TyX K H' v t) → PySem.W.kitOne K t (.type ty) = some b → Ev (tCB (rIsi K) (tCons (tVar i) (tCons (tC (.ty ty)) tNil))) σ H (.bl b) := fun h1 h2 h3 => ev_isi (ev_var h1) ev_c (.ty _) h2 h3
    rcases hlk with ⟨rfl, hs⟩ | ⟨hd, a, b, xs, rfl, rfl, hx, hz, hv⟩
    · rcases hs with rfl | ⟨i, rfl⟩ | ⟨z, rfl⟩
      · have ty : ∀ H', Ex H H' → TyX K H' V.non _ := fun _ _ => .base .non
        refine run_if (b := false) (et_B (isi rfl ty (kit_ty (by decide +kernel)))) (fun h => nomatch h) fun _ => run_end ?_
        refine run_if (b := true) (et_is (et_test (ev_op (ev_var rfl) ev_c rv_isN)) rfl) (fun _ => ?_) fun h => nomatch h
        exact run_ret (ev_op (ev_var rfl) ev_c rv_isN) fun H2 e2 => k H2 e2
      · have ty : ∀ H', Ex H H' → TyX K H' (V.int i) _ := fun _ _ => .base (.int i)
        refine run_if (b := false) (et_B (isi rfl ty (kit_ty (by decide +kernel)))) (fun h => nomatch h) fun _ => run_end ?_
        refine run_if (b := false) (et_is (et_test (ev_op (ev_var rfl) ev_c rv_isN)) rfl) (fun h => nomatch h) fun _ => run_end ?_
        refine run_if (b := false) (et_B (isi rfl ty (kit_ty (by decide +kernel)))) (fun h => nomatch h) fun _ => run_end ?_
        refine run_if (b := true) (et_B (isi rfl ty (kit_ty (by decide +kernel)))) (fun _ => ?_) fun h => nomatch h
        exact run_ret (v := .bl true) (ev_is (ev_andV (isi (b := true) rfl ty (kit_ty (by decide +kernel))) fun _ => ev_andV (ev_notV (isi (b := false) rfl ty (kit_ty (by decide +kernel)))) fun _ => ev_op (ev_var rfl) (ev_var rfl) (rv_same rfl)) rfl) fun H2 e2 => k H2 e2
      · have ty : ∀ H', Ex H H' → TyX K H' (V.str (S z)) _ := fun _ _ => .base (.str _)
        refine run_if (b := false) (et_B (isi rfl ty (kit_ty (by decide +kernel)))) (fun h => nomatch h) fun _ => run_end ?_
        refine run_if (b := false) (et_is (et_test (ev_op (ev_var rfl) ev_c rv_isN)) rfl) (fun h => nomatch h) fun _ => run_end ?_
        refine run_if (b := false) (et_B (isi rfl ty (kit_ty (by decide +kernel)))) (fun h => nomatch h) fun _ => run_end ?_
        refine run_if (b := false) (et_B (isi rfl ty (kit_ty (by decide +kernel)))) (fun h => nomatch h) fun _ => run_end ?_
        refine run_if (b := true) (et_B (isi rfl ty (kit_ty (by decide +kernel)))) (fun _ => ?_) fun h => nomatch h
        exact run_ret (v := .bl true) (ev_is (ev_andV (isi (b := true) rfl ty (kit_ty (by decide +kernel))) fun _ => ev_op (ev_var rfl) (ev_var rfl) (rv_same rfl)) rfl) fun H2 e2 => k H2 e2
    · have rest : (∀ {σ : L2.St}, σ[1]? = some (some (.ref b)) → Ev (tCB (fun xs H Q => ∃ p ys, xs = [V.ref p] ∧ (SqL K H p ys ∨ SqT K H p ys) ∧ Q (.int ys.length) H) (tCons (tVar 1) tNil)) σ H (.int xs.length)) →
          (∀ {σ : L2.St} {i : Nat} {v : V}, xs[i]? = some v → σ[0]? = some (some (.ref a)) → σ[2]? = some (some (.int (i : Int))) → Ev (tOp (rIxA K) (tVar 0) (tVar 2)) σ H v) →
          (∀ {σ : L2.St} {i : Nat} {v : V}, xs[i]? = some v → σ[1]? = some (some (.ref b)) → σ[2]? = some (some (.int (i : Int))) → Ev (tOp (rIxA K) (tVar 1) (tVar 2)) σ H v) →
          Run (tSeq (tFor (iRng1 (tCons (tCB (fun xs H Q => ∃ p ys, xs = [V.ref p] ∧ (SqL K H p ys ∨ SqT K H p ys) ∧ Q (.int ys.length) H) (tCons (tVar 1) tNil)) tNil)) (gName 2) (tSeq (tIfS (tNot (tB (tCall sp0 [] E0 (tCons (tOp (rIxA K) (tVar 0) (tVar 2)) (tCons (tOp (rIxA K) (tVar 1) (tVar 2)) tNil))))) (tSeq (tRet (tC (.bl false))) tNext) tNext) tNext)) (tSeq (tRet (tC (.bl true))) tNext)) { nx := fun _ H' => Q .non H', rt := Q } [some (.ref a), some (.ref b), none, none] H := by
        intro len ia ib
        refine run_rng1 (ea1 (len rfl)) (by omega) (by omega) (fun i σ' H' => (∃ v, σ' = [some (.ref a), some (.ref b), v, none]) ∧ H = H') ⟨⟨_, rfl⟩, rfl⟩ ?_ ?_
        · rintro i σ' H' hi ⟨⟨v, rfl⟩, rfl⟩
          have hlt : i < xs.length := by omega
          have hg := List.getElem?_eq_getElem hlt
          refine run_if (b := false) (et_is (et_not (et_B (ev_call0 (ea2 (ia hg rfl rfl) (ib hg rfl rfl)) (h0 hd _ H (hv _ (List.getElem_mem hlt)))))) rfl) (fun h => nomatch h) fun _ => ?_
          exact run_end (run_up rfl ⟨⟨_, rfl⟩, rfl⟩)
        · rintro σ' H' ⟨⟨v, rfl⟩, rfl⟩
          exact run_ret ev_c fun H2 e2 => k H2 e2
      rcases hx with ⟨h1, h2⟩ | ⟨h1, h2⟩
      · have s1 : SqL K H a xs := sq_of h1
        have s2 : SqL K H b xs := sq_of h2
        have ta : ∀ H', Ex H H' → TyX K H' (V.ref a) _ := fun H' e => .base (.lst (e _ _ h1))
        have tb : ∀ H', Ex H H' → TyX K H' (V.ref b) _ := fun H' e => .base (.lst (e _ _ h2))
        refine run_if (b := false) (et_B (isi rfl tb (kit_ty (by decide +kernel)))) (fun h => nomatch h) fun _ => run_end ?_
        refine run_if (b := false) (et_is (et_test (ev_op (ev_var rfl) ev_c rv_isN)) rfl) (fun h => nomatch h) fun _ => run_end ?_
        refine run_if (b := false) (et_B (isi rfl tb (kit_ty (by decide +kernel)))) (fun h => nomatch h) fun _ => run_end ?_
        refine run_if (b := false) (et_B (isi rfl tb (kit_ty (by decide +kernel)))) (fun h => nomatch h) fun _ => run_end ?_
        refine run_if (b := false) (et_B (isi rfl tb (kit_ty (by decide +kernel)))) (fun h => nomatch h) fun _ => run_end ?_
        refine run_if (b := false) (et_B (isi rfl tb (kit_ty (by decide +kernel)))) (fun h => nomatch h) fun _ => ?_
        refine run_if (b := false) (et_is (et_or (et_not (et_B (isi (b := true) rfl ta (kit_ty (by decide +kernel))))) fun _ => et_test (ev_op (ev_lenL (ev_var rfl) s1) (ev_lenL (ev_var rfl) s2) (rv_ne rfl))) (by simp)) (fun h => nomatch h) fun _ => run_end (run_end ?_)
        exact rest (fun h => ev_lenL (ev_var h) s2) (fun hg h h' => ev_op (ev_var h) (ev_var h') (rv_ixAL s1 (at_nat _ hg))) (fun hg h h' => ev_op (ev_var h) (ev_var h') (rv_ixAL s2 (at_nat _ hg)))
      · have s1 : SqT K H a xs := st_of h1
        have s2 : SqT K H b xs := st_of h2
        have ta : ∀ H', Ex H H' → TyX K H' (V.ref a) _ := fun H' e => .base (.tup (e _ _ h1))
        have tb : ∀ H', Ex H H' → TyX K H' (V.ref b) _ := fun H' e => .base (.tup (e _ _ h2))
        refine run_if (b := false) (et_B (isi rfl tb (kit_ty (by decide +kernel)))) (fun h => nomatch h) fun _ => run_end ?_
        refine run_if (b := false) (et_is (et_test (ev_op (ev_var rfl) ev_c rv_isN)) rfl) (fun h => nomatch h) fun _ => run_end ?_
        refine run_if (b := false) (et_B (isi rfl tb (kit_ty (by decide +kernel)))) (fun h => nomatch h) fun _ => run_end ?_
        refine run_if (b := false) (et_B (isi rfl tb (kit_ty (by decide +kernel)))) (fun h => nomatch h) fun _ => run_end ?_
        refine run_if (b := false) (et_B (isi rfl tb (kit_ty (by decide +kernel)))) (fun h => nomatch h) fun _ => run_end ?_
        refine run_if (b := true) (et_B (isi rfl tb (kit_ty (by decide +kernel)))) (fun _ => ?_) (fun h => nomatch h)
        refine run_if (b := false) (et_is (et_or (et_not (et_B (isi (b := true) rfl ta (kit_ty (by decide +kernel))))) fun _ => et_test (ev_op (ev_lenT (ev_var rfl) s1) (ev_lenT (ev_var rfl) s2) (rv_ne rfl))) (by simp)) (fun h => nomatch h) fun _ => run_end (run_end ?_)
        exact rest (fun h => ev_lenT (ev_var h) s2) (fun hg h h' => ev_op (ev_var h) (ev_var h') (rv_ixAT s1 (at_nat _ hg))) (fun hg h h' => ev_op (ev_var h) (ev_var h') (rv_ixAT s2 (at_nat _ hg)))
theorem ok_l_like {f : Addr} {fd : FuncData} (F : Fun K "_law_like" "_law_like" s_l_like f fd) (T : Tx K mg w) (hm : mg "_law_like" = some (.ref f)) (hk : PySem.W.keepIn K (.ref f) = true) (b : Binds K fd ["_law_actual", "_law_due"] []) : FnOk P w K mg base CX0 3 f fd ["_law_actual", "_law_due"] sp_like := by
  have o1 : FnOk P w K mg base CX0 1 f fd ["_law_actual", "_law_due"] (fun _ _ _ _ => False) := F.ok sc_l_like (fun _ _ _ _ h => h.elim) fun _ _ _ _ _ _ _ _ _ h => h.elim
  have o2 := ok_like_gen (deep := False) F T (sp0 := fun _ _ _ _ => False) ⟨f, fd, _, o1, hm, hk, b⟩ (fun h => h.elim)
  exact ok_like_gen (deep := True) F T (sp0 := sp_likeD False) ⟨f, fd, _, o2, hm, hk, b⟩ (fun _ v H hv => use_like (.inl ⟨rfl, hv⟩))
/-! _law_told -/
theorem sc_l_told : FnScope ["_law_one", "_law_two", "_law_d", "_law_told_here"] ["_law_one", "_law_two", "_law_d"] (defScope s_l_told) := ⟨rfl, rfl, rfl, by decide +kernel, rfl, by decide +kernel, by decide +kernel⟩
def sp_told (T : Tx K mg w) : Sp := fun vs H Q _ => ∃ a b p q d, vs = [.ref a, .ref b, .int d] ∧ PlanAt T.cPlan H a p ∧ POk p ∧ PlanAt T.cPlan H b q ∧ POk q ∧ d.natAbs ≤ 100 ∧ (gain p q = 0 → RetV (.str "gain") H Q) ∧ (gain p q ≠ 0 → fullD p q d = false → RetV (.str "never") H Q) ∧ (gain p q ≠ 0 → fullD p q d = true → RetU [.int ((stL p q d : Nat) : Int), .int ((lcmP p q : Nat) : Int), .int ((gain p q).natAbs : Int)] H Q)
theorem use_toldG {T : Tx K mg w} {a b : Addr} {p q : Pl} {d : Int} {H : Hp} (h1 : PlanAt T.cPlan H a p) (o1 : POk p) (h2 : PlanAt T.cPlan H b q) (o2 : POk q) (hd : d.natAbs ≤ 100) (hg : gain p q = 0) : SpV (sp_told T) [.ref a, .ref b, .int d] H (.str "gain") := fun H1 e Q k E => ⟨a, b, p, q, d, rfl, h1.mono e, o1, h2.mono e, o2, hd, (fun _ H2 e2 => k H2 e2), (fun h => absurd hg h), fun h => absurd hg h⟩
theorem use_toldN {T : Tx K mg w} {a b : Addr} {p q : Pl} {d : Int} {H : Hp} (h1 : PlanAt T.cPlan H a p) (o1 : POk p) (h2 : PlanAt T.cPlan H b q) (o2 : POk q) (hd : d.natAbs ≤ 100) (hg : gain p q ≠ 0) (hf : fullD p q d = false) : SpV (sp_told T) [.ref a, .ref b, .int d] H (.str "never") := fun H1 e Q k E => ⟨a, b, p, q, d, rfl, h1.mono e, o1, h2.mono e, o2, hd, (fun h => absurd h hg), (fun _ _ H2 e2 => k H2 e2), fun _ h => by rw [hf] at h; cases h⟩
theorem use_toldP {T : Tx K mg w} {a b : Addr} {p q : Pl} {d : Int} {H : Hp} (h1 : PlanAt T.cPlan H a p) (o1 : POk p) (h2 : PlanAt T.cPlan H b q) (o2 : POk q) (hd : d.natAbs ≤ 100) (hg : gain p q ≠ 0) (hf : fullD p q d = true) : SpU (sp_told T) [.ref a, .ref b, .int d] H [.int ((stL p q d : Nat) : Int), .int ((lcmP p q : Nat) : Int), .int ((gain p q).natAbs : Int)] := RetU.u fun H1 e Q k E => ⟨a, b, p, q, d, rfl, h1.mono e, o1, h2.mono e, o2, hd, (fun h => absurd h hg), (fun _ h => by rw [hf] at h; cases h), fun _ _ => k⟩
theorem ok_l_told {f : Addr} {fd : FuncData} (F : Fun K "_law_told" "_law_told" s_l_told f fd) (T : Tx K mg w) (c_pattern : Cal P w K mg base (L2.CX P w) 7 "pattern" (sp_pattern T)) : FnOk P w K mg base CX0 8 f fd ["_law_one", "_law_two", "_law_d"] (sp_told T) := by
  refine F.ok sc_l_told (fun vs H Q E h => ?_) (fun cdv A outer s H vs Q E hr h => ?_)
  · obtain ⟨a, b, p, q, d, rfl, _⟩ := h; rfl
  · obtain ⟨a, b, p, q, d, rfl, h1, o1, h2, o2, hd, kG, kN, kP⟩ := h
    refine ⟨_, (pss_cons (ps_set (i := 3) sc_l_told.nd rfl (Or.inl rfl) pe_non)
          (pss_cons (ps_try_many (tb := fun W => tSeq (tAsg (tCallS (sp_pattern T) (WE W) (tCons (tVar 0) (tCons (tVar 1) (tCons (tVar 2) tNil)))) (gName 3)) tNext) rfl rfl takes0
            (fun W pn xe tk _ => (pss_cons (ps_set (i := 3) sc_l_told.nd rfl (Or.inl rfl) (pe_cxS c_pattern hr (by decide) (by rfl) (fun σ => passAt tk σ) (pa_cons (pv 0) (pa_cons (pv 1) (pa_cons (pv 2) pa_nil)))))
              pss_nil))
            (HdsOk.cons ⟨rfl, by decide, Or.inl T.gNoGain⟩ (fun a oe cls d pn hz hf => (pss_cons (ps_set (i := 3) sc_l_told.nd rfl (Or.inl rfl) pe_str)
              pss_nil)) (HdsOk.cons ⟨rfl, by decide, Or.inl T.gNeverMeet⟩ (fun a oe cls d pn hz hf => (pss_cons (ps_set (i := 3) sc_l_told.nd rfl (Or.inl rfl) pe_str)
              pss_nil)) HdsOk.nil)))
          (pss_cons (ps_ret (pv 3))
          pss_nil))), Run.start (σ := [some (.ref a), some (.ref b), some (.int d), none]) rfl ?_⟩
    refine run_asg ev_c ?_
    refine run_tryB fun H1 e1 => run_asgS (ea3 (ev_var rfl) (ev_var rfl) (ev_var rfl)) (fun H1 e1 => ?_) H1 e1
    refine ⟨a, b, p, q, d, rfl, h1.mono e1, o1, h2.mono e1, o2, hd, ?_⟩
    by_cases hg : gain p q = 0
    · refine .inr ⟨T.cNoGain, by unfold patErr; exact if_pos hg, fun H2 e2 => ?_⟩
      refine ⟨true, T.mGG, fun _ a' ha => ?_, fun h => nomatch h⟩
      have fin : Run (tSeq (tRet (tVar 3)) tNext) { nx := fun _ H' => Q .non H', rt := Q } [some (.ref a), some (.ref b), some (.int d), some (.str "gain")] H := run_ret (ev_var rfl) fun H2 e2 => kG hg H2 e2
      exact (run_asg ev_c (run_end (D := { nx := fun _ H' => Q .non H', rt := Q }) fin) : Run (tSeq (tAsg (tC (.str "gain")) (gName 3)) tNext) _ [some (.ref a), some (.ref b), some (.int d), some .non] H) H2 (e1.trans e2)
    · cases hf : fullD p q d with
      | false =>
        refine .inr ⟨T.cNeverMeet, ?_, fun H2 e2 => ?_⟩
        · unfold patErr
          show (if gain p q = 0 then _ else _) = _
          rw [if_neg hg, hf]; rfl
        · refine ⟨false, T.mVG, (fun h => nomatch h), fun _ => ⟨true, T.mVV, fun _ z hz => ?_, fun h => nomatch h⟩⟩
          have fin : Run (tSeq (tRet (tVar 3)) tNext) { nx := fun _ H' => Q .non H', rt := Q } [some (.ref a), some (.ref b), some (.int d), some (.str "never")] H := run_ret (ev_var rfl) fun H2 e2 => kN hg hf H2 e2
          exact (run_asg ev_c (run_end (D := { nx := fun _ H' => Q .non H', rt := Q }) fin) : Run (tSeq (tAsg (tC (.str "never")) (gName 3)) tNext) _ [some (.ref a), some (.ref b), some (.int d), some .non] H) H2 (e1.trans e2)
      | true =>
        refine .inl ⟨pat_none.mpr ⟨hg, hf⟩, fun z hz H2 e2 => ?_⟩
        have fin : Run (tSeq (tRet (tVar 3)) tNext) { nx := fun _ H' => Q .non H', rt := Q } [some (.ref a), some (.ref b), some (.int d), some (.ref z)] H2 := run_ret (ev_var rfl) fun H3 e3 => kP hg hf z (fresh_back e1 hz) H3 ((exc e1).trans (e2.trans e3))
        exact fin H2 (Ex.refl H2)
/-! _law_latest -/
theorem sc_l_latest : FnScope ["_law_one", "_law_two", "_law_n", "_law_d", "_law_found", "_law_g"] ["_law_one", "_law_two", "_law_n", "_law_d"] (defScope s_l_latest) := ⟨rfl, rfl, rfl, by decide +kernel, rfl, by decide +kernel, by decide +kernel⟩
theorem tabL_eqG {p q : Pl} (o1 : Mw.Ok p) (o2 : Mw.Ok q) {n : Nat} (hn : 0 < n) (d : Int) : tabL p q n d = ft (fo p q d) (n : Int) (beg p q d + lcmP p q * n + 1) :=
  okT_late o1.r0 o2.r0 hn d (T := lawT p q n d + 1) (by unfold lawT; omega)
def sp_llatest (K : PySem.W.Frag) : Sp := fun vs H Q _ => ∃ a b p q d, ∃ n : Nat, vs = [.ref a, .ref b, .int (n : Int), .int d] ∧ PartsAt K H a p ∧ Mw.Ok p ∧ PartsAt K H b q ∧ Mw.Ok q ∧ 0 < n ∧ n ≤ 100000 ∧ lawT p q n d ≤ 50000 ∧ RetV (grV p q n d) H Q
theorem use_llatest {a b : Addr} {p q : Pl} {d : Int} {n : Nat} {H : Hp} (h1 : PartsAt K H a p) (o1 : Mw.Ok p) (h2 : PartsAt K H b q) (o2 : Mw.Ok q) (h0 : 0 < n) (hn : n ≤ 100000) (hl : lawT p q n d ≤ 50000) : SpV (sp_llatest K) [.ref a, .ref b, .int (n : Int), .int d] H (grV p q n d) := fun H1 e Q k E => ⟨a, b, p, q, d, n, rfl, ex_l e h1, o1, ex_l e h2, o2, h0, hn, hl, fun H2 e2 => k H2 e2⟩
theorem ok_l_latest {f : Addr} {fd : FuncData} (F : Fun K "_law_latest" "_law_latest" s_l_latest f fd) (T : Tx K mg w) (c_l_times : Cal P w K mg base CX0 3 "_law_times" (sp_ltimes K)) : FnOk P w K mg base CX0 4 f fd ["_law_one", "_law_two", "_law_n", "_law_d"] (sp_llatest K) := by
  refine F.ok sc_l_latest (fun vs H Q E h => ?_) (fun cdv A outer s H vs Q E hr h => ?_)
  · obtain ⟨a, b, p, q, d, n, rfl, _⟩ := h; rfl
  · obtain ⟨a, b, p, q, d, n, rfl, h1, o1, h2, o2, h0, hn, hl, k⟩ := h
    refine ⟨_, (pss_cons (ps_set (i := 4) sc_l_latest.nd rfl (Or.inr rfl) (pe_cx c_l_times hr (by decide) (by rfl) pass0 (pa_cons (pv 0) (pa_cons (pv 1) (pa_cons (pv 2) (pa_cons (pv 3) pa_nil))))))
          (pss_cons (ps_if (pt_cmpR op_lt (pe_callB call_lenD (by rfl) T.n_len b_len (pa_cons (pv 4) pa_nil)) (pv 2) (nomark _))
            (pss_cons (ps_ret pe_non)
            pss_nil)
            pss_nil)
          (pss_cons (ps_ret (pe_callB (cr_max rfl) (by rfl) T.n_max b_max (pa_cons (pe_lock (pe_lc (own := [("_law_g", 5)]) (g := gName 5) rfl sc_l_latest.nd (pi_keys (pv 4)) (blkOk_by (own := [("_law_g", 5)]) (N := ["_law_one", "_law_two", "_law_n", "_law_d", "_law_found", "_law_g"]) (sc := defScope s_l_latest) (by decide +kernel)) (fun _ _ _ _ _ => pg_name (i := 5) sc_l_latest.nd rfl (Or.inl rfl)) (fun _ _ _ _ _ => pts_nil) (fun _ _ _ _ _ => (pe_dget (hu_of hr) (pv 4) (pv 5) (fun _ _ => rfl))))) pa_nil)))
          pss_nil))), Run.start (σ := [some (.ref a), some (.ref b), some (.int (n : Int)), some (.int d), none, none]) rfl ?_⟩
    refine run_asgK (evd_call (ea4 (ev_var rfl) (ev_var rfl) (ev_var rfl) (ev_var rfl)) (use_ltimes h1 o1 h2 o2 h0 hl)) fun z hz => ?_
    have te := tabL_eqG o1 o2 h0 d
    have ftl : ((tabL p q n d).length : Int) ≤ (n : Int) := ft_le (by omega)
    have eok : okT p q n d = decide ((tabL p q n d).length = n) := by rw [te]; rfl
    refine run_if (b := !okT p q n d) (et_is (et_test (ev_op (ev_lenD (ev_var rfl) upd_same) (ev_var rfl) rv_I0)) ?_) (fun hb => ?_) (fun hb => run_end ?_)
    · rw [tab_len, eok]
      by_cases c : (tabL p q n d).length = n
      · rw [decide_eq_true c]; simp; omega
      · rw [decide_eq_false c]; simp; omega
    · have : grV p q n d = .non := by
        unfold grV
        rw [if_neg (by revert hb; cases okT p q n d <;> simp)]
      rw [this] at k
      exact run_ret ev_c fun H2 e2 => k H2 ((ex_upd hz).trans e2)
    · have hb : okT p q n d = true := by revert hb; cases okT p q n d <;> simp
      have e0 : ft (fo p q d) (n : Int) (lawT p q n d + 1) = ft (fo p q d) (n : Int) (beg p q d + lcmP p q * n + 1) := te
      have eg : grV p q n d = .int (gtT (fo p q d) (n : Int) (lawT p q n d + 1)) := by
        have e2 : gtT (fo p q d) (n : Int) (lawT p q n d + 1) = grP p q d n := by
          unfold grP grT gtT
          rw [e0]
        unfold grV
        rw [if_pos hb, e2]
      rw [eg] at k
      have hm : gtT (fo p q d) (n : Int) (lawT p q n d + 1) ∈ (tabL p q n d).map (·.2) := gt_mem (f := fo p q d) (n := (n : Int)) (T := lawT p q n d + 1) (Nat.succ_pos _)
      have hx : ∀ y ∈ (tabL p q n d).map (·.2), y ≤ gtT (fo p q d) (n : Int) (lawT p q n d + 1) := fun y hy => gt_max (f := fo p q d) (n := (n : Int)) (T := lawT p q n d + 1) hy
      have hnd : ((tabL p q n d).map (·.1)).Nodup := ft_nodup (f := fo p q d) (n := (n : Int)) (lawT p q n d + 1)
      generalize gtT (fo p q d) (n : Int) (lawT p q n d + 1) = M at *
      generalize tabL p q n d = L at *
      exact run_ret (v := .int M) (ev_maxNL (ns := L.map (·.2)) (m := M) (el_vals (l := L) upd_same hnd (Nat.le_trans (show L.length ≤ 100000 by omega) (by decide)) (fun x => rfl) (fun _ => ev_var rfl) (fun _ _ _ => ev_var rfl) fun _ _ _ => ev_var rfl) hm hx) fun H2 e2 => k H2 ((ex_upd hz).trans e2)
/-! _law_full -/
theorem sc_l_full : FnScope ["_law_one", "_law_two", "_law_d", "_law_steps_here", "_law_gain", "_law_begin_here", "_law_rows", "_law_row"] ["_law_one", "_law_two", "_law_d"] (defScope s_l_full) := ⟨rfl, rfl, rfl, by decide +kernel, rfl, by decide +kernel, by decide +kernel⟩
theorem cutV_bothF (xs : List V) {k m : Nat} (hk : k ≤ m) (hm : m ≤ xs.length) : cutV xs (some (k : Int)) (some (m : Int)) = (xs.drop k).take (m - k) := by
  unfold cutV
  simp only [HT.sIx]
  rw [if_neg (by omega), if_neg (by omega), Int.toNat_natCast, Int.toNat_natCast, Nat.min_eq_left (Nat.le_trans hk hm), Nat.min_eq_left hm]
theorem offs_cutF (p q : Pl) (d : Int) (b L : Nat) : ((offsL p q d (b + L)).drop b).take L = (List.range L).map fun t : Nat => offF p q d (b + t) := by
  refine List.ext_getElem? fun i => ?_
  by_cases h : i < L
  · rw [List.getElem?_take_of_lt h, List.getElem?_drop, offs_at (by omega), List.getElem?_map, List.getElem?_range h]; rfl
  · rw [List.getElem?_eq_none (by rw [List.length_take]; omega), List.getElem?_eq_none (by rw [List.length_map, List.length_range]; omega)]
def sp_lfull (K : PySem.W.Frag) : Sp := fun vs H Q _ => ∃ a b p q d, vs = [.ref a, .ref b, .int d] ∧ PartsAt K H a p ∧ Mw.Ok p ∧ PartsAt K H b q ∧ Mw.Ok q ∧ gain p q ≠ 0 ∧ d.natAbs ≤ 100 ∧ RetV (.bl (fullD p q d)) H Q
theorem use_lfull {a b : Addr} {p q : Pl} {d : Int} {H : Hp} (h1 : PartsAt K H a p) (o1 : Mw.Ok p) (h2 : PartsAt K H b q) (o2 : Mw.Ok q) (hg : gain p q ≠ 0) (hd : d.natAbs ≤ 100) : SpV (sp_lfull K) [.ref a, .ref b, .int d] H (.bl (fullD p q d)) := fun H1 e Q k E => ⟨a, b, p, q, d, rfl, ex_l e h1, o1, ex_l e h2, o2, hg, hd, fun H2 e2 => k H2 e2⟩
theorem ok_l_full {f : Addr} {fd : FuncData} (F : Fun K "_law_full" "_law_full" s_l_full f fd) (T : Tx K mg w) (c_l_pace : Cal P w K mg base CX0 2 "_law_pace" (sp_lpace K)) (c_l_offsets : Cal P w K mg base CX0 2 "_law_offsets" (sp_loffs K)) : FnOk P w K mg base CX0 4 f fd ["_law_one", "_law_two", "_law_d"] (sp_lfull K) := by
  refine F.ok sc_l_full (fun vs H Q E h => ?_) (fun cdv A outer s H vs Q E hr h => ?_)
  · obtain ⟨a, b, p, q, d, rfl, _⟩ := h; rfl
  · obtain ⟨a, b, p, q, d, rfl, h1, o1, h2, o2, hg, hd, k⟩ := h
    have l36 := lcm_le36 o1 o2
    have b1 := o1.hl
    have b2 := o2.hl
    have bb : beg p q d ≤ 1000 := by unfold beg; omega
    refine ⟨_, (pss_cons (ps_asg (pe_cx c_l_pace hr (by decide) (by rfl) pass0 (pa_cons (pv 0) (pa_cons (pv 1) pa_nil))) (pg_tup rfl (pgs_cons (pg_name (i := 3) sc_l_full.nd rfl (Or.inl rfl)) (pgs_cons (pg_name (i := 4) sc_l_full.nd rfl (Or.inr rfl)) pgs_nil))))
          (pss_cons (ps_set (i := 5) sc_l_full.nd rfl (Or.inl rfl) (pe_callB (call_max2 rfl) (by rfl) T.n_max b_max (pa_cons (pe_op op_add (pe_callB call_len_str (by rfl) T.n_len b_len (pa_cons (pe_ix ix_list (pv 0) pe_int (fun _ _ => rfl)) pa_nil)) (pe_callB (call_max2 rfl) (by rfl) T.n_max b_max (pa_cons pe_int (pa_cons (pe_un un_neg (pv 2)) pa_nil)))) (pa_cons (pe_op op_add (pe_callB call_len_str (by rfl) T.n_len b_len (pa_cons (pe_ix ix_list (pv 1) pe_int (fun _ _ => rfl)) pa_nil)) (pe_callB (call_max2 rfl) (by rfl) T.n_max b_max (pa_cons pe_int (pa_cons (pv 2) pa_nil)))) pa_nil))))
          (pss_cons (ps_set (i := 6) sc_l_full.nd rfl (Or.inl rfl) (pe_cx c_l_offsets hr (by decide) (by rfl) pass0 (pa_cons (pv 0) (pa_cons (pv 1) (pa_cons (pv 2) (pa_cons (pe_op op_add (pv 5) (pv 3)) pa_nil))))))
          (pss_cons (ps_ret (pe_cmpR op_eq (pe_callB call_lenSO (by rfl) T.n_len b_len (pa_cons (pe_callTy (call_setList rfl) (by rfl) T.n_set b_set (pa_cons (pe_lc (own := [("_law_row", 7)]) (g := gName 7) rfl sc_l_full.nd (pi_list (pe_slice sl_list (pv 6) (po_some (pv 5)) (po_some (pe_op op_add (pv 5) (pv 3))))) (blkOk_by (own := [("_law_row", 7)]) (N := ["_law_one", "_law_two", "_law_d", "_law_steps_here", "_law_gain", "_law_begin_here", "_law_rows", "_law_row"]) (sc := defScope s_l_full) (by decide +kernel)) (fun _ _ _ _ _ => pg_name (i := 7) sc_l_full.nd rfl (Or.inl rfl)) (fun _ _ _ _ _ => pts_nil) (fun _ _ _ _ _ => (pe_op op_mod (pv 7) (pe_callB call_abs (by rfl) T.n_abs b_abs (pa_cons (pv 4) pa_nil))))) pa_nil)) pa_nil)) (pe_callB call_abs (by rfl) T.n_abs b_abs (pa_cons (pv 4) pa_nil)) (nomark _)))
          pss_nil)))), Run.start (σ := [some (.ref a), some (.ref b), some (.int d), none, none, none, none, none]) rfl ?_⟩
    refine run_unp2 (eu_call (ea2 (ev_var rfl) (ev_var rfl)) (use_lpace h1 o1 h2 o2)) ?_
    refine run_asg (v := .int ((beg p q d : Nat) : Int)) (ev_is (ev_max (ev_op (ev_lenS (ev_p0 rfl h1) (S_szl (by omega))) (ev_max ev_c (ev_un_neg (ev_var rfl))) rv_I0) (ev_op (ev_lenS (ev_p0 rfl h2) (S_szl (by omega))) (ev_max ev_c (ev_var rfl)) rv_I0)) ?_) ?_
    · rw [S_len, S_len]
      unfold beg
      congr 1
      omega
    refine run_asgL (el_call0 (ea4 (ev_var rfl) (ev_var rfl) (ev_var rfl) (ev_is (w := .int ((beg p q d + lcmP p q : Nat) : Int)) (ev_op (ev_var rfl) (ev_var rfl) rv_I0) (by congr 1))) (use_loffs h1 o1 h2 o2 (by omega))) fun f2 hf2 => ?_
    have hrow : SqL K (upd H f2 (.lst ((offsL p q d (beg p q d + lcmP p q)).map V.int))) f2 ((offsL p q d (beg p q d + lcmP p q)).map V.int) := sq_of upd_same
    have hol := offs_len p q d (beg p q d + lcmP p q)
    refine run_ret (v := .bl (fullD p q d)) (ev_is (ev_op (ev_lenSet (l0 := (ft (fun t : Nat => offF p q d (beg p q d + t)) ((gain p q).natAbs : Int) (lcmP p q)).map (·.1)) (evs_set (ns := ((List.range (lcmP p q)).map fun t : Nat => offF p q d (beg p q d + t)).map fun r => r % ((gain p q).natAbs : Int)) ?_ ?_) (ft_nodup _) (fun k => ?_)) (ev_abs (ev_var rfl)) (rv_eq rfl)) ?_) fun H2 e2 => k H2 ((ex_upd hf2).trans e2)
    · rw [List.map_map]
      refine el_lcA (α := Int) (l := (List.range (lcmP p q)).map fun t : Nat => offF p q d (beg p q d + t)) (g := V.int) (V.int ∘ fun r => r % ((gain p q).natAbs : Int)) (ej_new ?_) (szl (by rw [List.length_map, List.length_range]; omega)) (fun x => rfl) fun c hc => ?_
      · rw [← offs_cutF, List.map_take, List.map_drop]
        have e := cutV_bothF ((offsL p q d (beg p q d + lcmP p q)).map V.int) (k := beg p q d) (m := beg p q d + lcmP p q) (by omega) (by rw [List.length_map, hol]; omega)
        rw [Nat.add_sub_cancel_left] at e
        rw [← e]
        exact el_sl (ev_var rfl) (eo_some (ev_var rfl)) (eo_some (ev_is (ev_op (ev_var rfl) (ev_var rfl) rv_I0) (by congr 1))) hrow
      · exact ev_op (ev_var rfl) (ev_abs (ev_var rfl)) (rv_I (by omega))
    · rw [List.length_map, List.length_map, List.length_range]; omega
    · rw [ft_keys]
      constructor
      · rintro ⟨t, ht, e⟩
        exact List.mem_map.mpr ⟨_, List.mem_map.mpr ⟨t, List.mem_range.mpr ht, rfl⟩, e⟩
      · intro h
        obtain ⟨r, hr, e⟩ := List.mem_map.mp h
        obtain ⟨t, ht, rfl⟩ := List.mem_map.mp hr
        exact ⟨t, List.mem_range.mp ht, e⟩
    · rw [List.length_map]
      unfold fullD
      congr 1
      exact decide_eq_decide.mpr ⟨fun e => by injection e, fun e => by rw [e]⟩
/-! law -/
theorem sc_law : FnScope ["_law_script", "_law_draws", "_law_one", "_law_two", "_law_d", "_law_first", "_law_second", "_law_n", "_law_due", "_law_told_here", "_law_steps_here", "_law_gain", "_law_start", "_law_k", "_law_far"] ["_law_script"] (defScope s_law) := ⟨rfl, rfl, rfl, by decide +kernel, rfl, by decide +kernel, by decide +kernel⟩
theorem pick_txt {ms : List (List Nat)} {zs : List Str} {m : Nat} (e : zs = ms.map S) (h : ms.all (fun r => r.all isStep && (decide (1 ≤ r.length) && decide (r.length ≤ m))) = true) {v : V} (hv : v ∈ zs.map V.str) : IsTxt 1 m v := by
  subst e
  rw [List.map_map] at hv
  obtain ⟨r, hr, rfl⟩ := List.mem_map.mp hv
  have := List.all_eq_true.mp h r hr
  rw [Bool.and_eq_true, Bool.and_eq_true, decide_eq_true_eq, decide_eq_true_eq] at this
  exact ⟨r, rfl, this.1, this.2.1, this.2.2⟩
theorem ed_tst {σ : L2.St} {G : Hp} {d l : Addr} {E : XK} {n : Int} (w : Dw G d l) (h : σ[1]? = some (some (.ref d))) (h0 : 0 < n) (h1 : n < 1000) : ED (tOp rEq (tCall sp_draw [] E (tCons (tVar 1) (tCons (tC (.int n)) tNil))) (tC (.int 0))) σ G d l (fun v G' => G' = G ∧ ∃ b, v = .bl b) :=
  ed_opL (S := fun v G' => G' = G ∧ ∃ i : Nat, v = .int (i : Int)) ((ed_callP w (ea2 (ev_var h) ev_c) (use_draw w h0 h1)).imp fun v G' ⟨i, e, _, e2⟩ => ⟨e2, i, e⟩) (fun _ _ _ _ _ => ev_c) fun x G' ⟨e, i, ei⟩ _ _ => by subst ei; exact ⟨_, rv_eq rfl, e, _, rfl⟩
theorem ed_drawn {σ : L2.St} {G : Hp} {d l : Addr} {E : XK} {n : Nat} (w : Dw G d l) (h : σ[1]? = some (some (.ref d))) (h0 : 0 < n) (h1 : n < 1000) : ED (tCall sp_draw [] E (tCons (tVar 1) (tCons (tC (.int (n : Int))) tNil))) σ G d l (fun v G' => ∃ i : Nat, v = .int (i : Int) ∧ (i : Int) < (n : Int) ∧ G' = G) := ed_callP w (ea2 (ev_var h) ev_c) (use_draw w (by omega) (by omega))
theorem opened {K : PySem.W.Frag} {G' : Hp} {a1 a2 : Addr} {p q : Pl} (hp : PartsAt K G' a1 p) (op : POk p) (l1 : p.h.length ≤ 2) (l2 : p.r.length ≤ 3) (hq : PartsAt K G' a2 q) (oq : POk q) (l3 : q.h.length ≤ 2) (l4 : q.r.length ≤ 2) :
    ∃ p q : Pl, PartsAt K G' a1 p ∧ POk p ∧ p.h.length ≤ 2 ∧ p.r.length ≤ 3 ∧ PartsAt K G' a2 q ∧ POk q ∧ q.h.length ≤ 2 ∧ q.r.length ≤ 2 := ⟨p, q, hp, op, l1, l2, hq, oq, l3, l4⟩
theorem far_small {p q : Pl} (o1 : Mw.Ok p) (o2 : Mw.Ok q) (l1 : p.h.length ≤ 2) (l2 : p.r.length ≤ 3) (l3 : q.h.length ≤ 2) (l4 : q.r.length ≤ 2) {d : Int} (hd : d.natAbs ≤ 4) (hg : gain p q ≠ 0) : farL p q d ≤ 800 := by
  have l6 : lcmP p q ≤ 6 := Nat.le_trans (lcm_le p q) (Nat.le_trans (Nat.mul_le_mul l2 l4) (by decide))
  have g72 := gain_abs o1 o2
  have b : beg p q d ≤ 6 := by unfold beg; omega
  have w4 := wd_le p q d (beg p q d + lcmP p q)
  have e1 : (wdT (fo p q d) (beg p q d + lcmP p q) + 2 * (gain p q).natAbs) / (gain p q).natAbs ≤ 50 := by
    refine Nat.div_le_of_le_mul ?_
    have : 1 * 48 ≤ (gain p q).natAbs * 48 := Nat.mul_le_mul_right _ (by omega)
    omega
  have e2 : lcmP p q * ((wdT (fo p q d) (beg p q d + lcmP p q) + 2 * (gain p q).natAbs) / (gain p q).natAbs + 2) ≤ 6 * 52 := Nat.mul_le_mul l6 (by omega)
  unfold farL farT
  omega
theorem law_small {p q : Pl} (l1 : p.h.length ≤ 2) (l2 : p.r.length ≤ 3) (l3 : q.h.length ≤ 2) (l4 : q.r.length ≤ 2) {d : Int} (hd : d.natAbs ≤ 4) {n : Nat} (hn : n ≤ 2000) : lawT p q n d ≤ 50000 := by
  have l6 : lcmP p q ≤ 6 := Nat.le_trans (lcm_le p q) (Nat.le_trans (Nat.mul_le_mul l2 l4) (by decide))
  have m1 : lcmP p q * n ≤ 6 * n := Nat.mul_le_mul_right _ l6
  unfold lawT beg
  omega
/-- the three numbers of places drawn -/
def X3 (xs : List V) : Prop := ∃ i j : Nat, xs = [V.int ((1 : Nat) : Int), .int ((2 + i : Nat) : Int), .int ((7 + j : Nat) : Int)] ∧ i < 5 ∧ j < 5
theorem X3.item {xs : List V} (h : X3 xs) {m : Nat} {x : V} (hx : xs[m]? = some x) : ∃ n : Nat, x = .int (n : Int) ∧ 0 < n ∧ n ≤ 12 := by
  obtain ⟨i, j, rfl, hi, hj⟩ := h
  have hm := List.mem_of_getElem? hx
  simp only [List.mem_cons, List.not_mem_nil, or_false] at hm
  rcases hm with rfl | rfl | rfl
  · exact ⟨1, rfl, by omega, by omega⟩
  · exact ⟨2 + i, rfl, by omega, by omega⟩
  · exact ⟨7 + j, rfl, by omega, by omega⟩
theorem ed_plus {σ : L2.St} {G : Hp} {d l : Addr} {E : XK} {c : Nat} (w : Dw G d l) (h : σ[1]? = some (some (.ref d))) : ED (tOp (rI0 fun i j => .int (i + j)) (tC (.int (c : Int))) (tCall sp_draw [] E (tCons (tVar 1) (tCons (tC (.int 5)) tNil)))) σ G d l (fun v G' => (∃ i : Nat, v = .int ((c + i : Nat) : Int) ∧ i < 5) ∧ G' = G) :=
  ed_opR w ev_c (ed_drawn (n := 5) w h (by decide) (by decide)) fun y G2 ⟨i, e, hi, e2⟩ _ _ => by
    subst e e2
    exact ⟨_, rv_I0, ⟨i, by congr 1, by omega⟩, rfl⟩
theorem ed_three {σ : L2.St} {G : Hp} {d l : Addr} {E E' : XK} (dw : Dw G d l) (h : σ[1]? = some (some (.ref d))) :
    ED (tLst (tCons (tC (.int 1)) (tCons (tOp (rI0 fun i j => .int (i + j)) (tC (.int 2)) (tCall sp_draw [] E (tCons (tVar 1) (tCons (tC (.int 5)) tNil)))) (tCons (tOp (rI0 fun i j => .int (i + j)) (tC (.int 7)) (tCall sp_draw [] E' (tCons (tVar 1) (tCons (tC (.int 5)) tNil)))) tNil)))) σ G d l (fun v G' => ∃ z xs, v = .ref z ∧ X3 xs ∧ G' z = some (.lst xs)) := by
  have h3 : ∀ G6, Dw G6 d l → EDA (tCons (tOp (rI0 fun i j => .int (i + j)) (tC (.int 7)) (tCall sp_draw [] E' (tCons (tVar 1) (tCons (tC (.int 5)) tNil)))) tNil) σ G6 d l (fun vs G' => ∃ v, vs = [v] ∧ (∃ j : Nat, v = .int ((7 + j : Nat) : Int) ∧ j < 5) ∧ G' = G6) := fun G6 w6 => eda1 (ed_plus (c := 7) w6 h)
  have h2 : ∀ G5, Dw G5 d l → EDA (tCons (tOp (rI0 fun i j => .int (i + j)) (tC (.int 2)) (tCall sp_draw [] E (tCons (tVar 1) (tCons (tC (.int 5)) tNil)))) (tCons (tOp (rI0 fun i j => .int (i + j)) (tC (.int 7)) (tCall sp_draw [] E' (tCons (tVar 1) (tCons (tC (.int 5)) tNil)))) tNil)) σ G5 d l (fun vs G' => ∃ i j : Nat, vs = [.int ((2 + i : Nat) : Int), .int ((7 + j : Nat) : Int)] ∧ i < 5 ∧ j < 5) := fun G5 w5 =>
    eda_cons (ed_plus (c := 2) w5 h) (T := fun _ vs G' => ∃ j : Nat, vs = [.int ((7 + j : Nat) : Int)] ∧ j < 5) (fun v G6 _ _ w6 => fun o ho => EgA.imp (h3 G6 w6 o ho) fun vs H' ⟨G', o', ⟨v, e, ⟨j, e2, hj⟩, _⟩, r⟩ => ⟨G', o', ⟨j, by rw [e, e2], hj⟩, r⟩) fun v G6 ws G7 ⟨⟨i, e, hi⟩, _⟩ ⟨j, e2, hj⟩ _ => ⟨i, j, by rw [e, e2], hi, hj⟩
  refine (ed_lst (U := fun vs G' => X3 vs) (eda_cons (ed_ev dw ev_c) (T := fun _ vs G' => ∃ i j : Nat, vs = [.int ((2 + i : Nat) : Int), .int ((7 + j : Nat) : Int)] ∧ i < 5 ∧ j < 5) (fun v G5 _ _ w5 => h2 G5 w5) fun v G5 ws G6 ⟨e, _⟩ ⟨i, j, e2, hi, hj⟩ _ => ⟨i, j, by rw [e, e2]; rfl, hi, hj⟩) ?_).imp ?_
  · rintro vs G' ⟨i, j, rfl, _⟩; show 3 ≤ 1000; decide
  · rintro v G' ⟨z, vs, G1, rfl, hx, _, hz, _, rfl⟩
    exact ⟨z, vs, rfl, hx, upd_same⟩
/-- a loop over a list that was drawn -/
theorem rd_forX {σ : L2.St} {G : Hp} {d l : Addr} {D : Ends} {u : TS} {j : Nat} {te : TE} {tb : TS} {X : List V → Prop} (h : ED te σ G d l (fun v G' => ∃ z xs, v = .ref z ∧ X xs ∧ G' z = some (.lst xs))) (P : Nat → L2.St → Prop)
    (k : ∀ z xs G', X xs → G' z = some (.lst xs) → Ex G G' → Dw G' d l → P 0 σ ∧ (∀ i x σ', i < xs.length → xs[i]? = some x → P i σ' → RD tb (LpD D u (fun σ2 H2 => P (i + 1) σ2 ∧ ∃ o, Dro l o ∧ H2 = upd G' d o)) (σ'.set j (some x)) G' d l) ∧ ∀ σ', P xs.length σ' → RD u D σ' G' d l) :
    RD (tSeq (tFor (iList K te) (gName j) tb) u) D σ G d l := fun o ho H1 e => h o ho H1 e _ fun v H2 H3 ⟨G1, o1, ⟨z, xs, ev, hx, hz⟩, e1, w1, ho1, eq1⟩ e3 => by
  subst ev eq1
  obtain ⟨k0, ks, kd⟩ := k z xs G1 hx hz e1 w1
  have hzd : z ≠ d := fun e => by subst e; rw [w1.free] at hz; cases hz
  have hz2 : (upd G1 d o1) z = some (.lst xs) := by rw [upd_ne hzd]; exact hz
  refine ⟨z, rfl, ⟨xs, sq_of (e3 _ _ hz2)⟩, loop_core (J := Itl K z) (H0 := G1) (D := D) (u := u) (pur_list (sq_of hz)) (fun i σ' H' => P i σ' ∧ ∃ o, Dro l o ∧ H' = upd G1 d o) ⟨_, e3, k0, o1, ho1, rfl⟩ ?_ ?_ ?_⟩
  · rintro i σ' H' ⟨_, o', _, rfl⟩
    exact ex_upd w1.free
  · rintro i x σ' H' hi hx' ⟨hp, o', ho', rfl⟩ H4 e4
    exact ks i x σ' hi hx' hp o' ho' H4 e4
  · rintro σ' H' ⟨hp, o', ho', rfl⟩
    exact kd σ' hp o' ho'
theorem ed_u {σ : L2.St} {G : Hp} {d l : Addr} {te : TE} {xs : List V} (w : Dw G d l) (h : EvU te σ G xs) : ED te σ G d l (fun v' G' => ∃ p, v' = .ref p ∧ G p = none ∧ p ≠ d ∧ G' = upd G p (.tup xs)) := fun o ho => by
  have h1 : EvU te σ (upd G d o) xs := fun H1 e Q q => h H1 (ex_skip w.free e) Q q
  refine (eg_u h1).imp ?_
  rintro v' H' ⟨p, rfl, hp, rfl⟩
  have hpd : p ≠ d := fun e => by subst e; rw [upd_same] at hp; cases hp
  rw [upd_ne hpd] at hp
  exact ⟨upd G p (.tup xs), o, ⟨p, rfl, hp, hpd, rfl⟩, ex_upd hp, dw_new w hp hpd, ho, upd_swap hpd⟩
theorem eu_slT {σ : L2.St} {H : Hp} {te : TE} {tl th : TO} {a : Addr} {xs : List V} {lo hi : Option Int} (h : Ev te σ H (.ref a)) (h1 : EvO tl σ H lo) (h2 : EvO th σ H hi) (hs : SqT K H a xs) (hw : ¬ (HT.sIx xs.length 0 lo = 0 ∧ HT.sIx xs.length xs.length hi = xs.length)) : EvU (tSl (rSlT K) te tl th) σ H (cutV xs lo hi) := fun H1 e _ q =>
  h H1 e _ fun H2 e2 => h1 H2 (e.trans e2) _ fun H3 e3 => h2 H3 ((e.trans e2).trans e3) _ fun H4 e4 =>
    ⟨a, xs, rfl, ex_t (((e.trans e2).trans e3).trans e4) hs, hw, fun p hp => q p _ (fresh_back ((e2.trans e3).trans e4) hp) (((e2.trans e3).trans e4).trans (Ex.new hp)) upd_same⟩
theorem rv_eqDS {H : Hp} {z : Str} (h : PyData.strOk z = true) : RV (rEqD K) (.str z) (.str z) H (.bl true) := fun H1 e Q q => ⟨.str z, .str z, .str z, .str z, by unfold SeqAt.shaped PyData.canLay0; rw [h]; simp [PyData.depth], by unfold SeqAt.shaped PyData.canLay0; rw [h]; simp [PyData.depth], by
  have : PyData.eqv (.str z) (.str z) = true := by unfold PyData.eqv; simp
  rw [this]; exact q H1 (Ex.refl H1)⟩
theorem ok_law {f : Addr} {fd : FuncData} (F : Fun K "law" "law" s_law f fd) (T : Tx K mg w) (c_l_begin : Cal P w K mg base CX0 1 "_law_begin" (sp_begin K)) (c_l_draw : Cal P w K mg base CX0 1 "_law_draw" sp_draw) (c_l_steps : Cal P w K mg base CX0 2 "_law_steps" sp_steps) (c_l_make : Cal P w K mg base CX0 4 "_law_make" (sp_make K T.cPlan))
    (c_l_latest : Cal P w K mg base CX0 4 "_law_latest" (sp_llatest K)) (c_latest : Cal P w K mg base (L2.CX P w) 7 "latest" (sp_latest T.cPlan)) (c_l_like : Cal P w K mg base CX0 3 "_law_like" sp_like) (c_l_told : Cal P w K mg base CX0 8 "_law_told" (sp_told T)) (c_l_pace : Cal P w K mg base CX0 2 "_law_pace" (sp_lpace K))
    (c_l_full : Cal P w K mg base CX0 4 "_law_full" (sp_lfull K)) (c_latest_by : Cal P w K mg base (L2.CX P w) 8 "latest_by" (sp_lby T.cPlan)) :
    FnOk P w K mg base CX0 9 f fd ["_law_script"] (spLaw K) := by
  refine F.ok sc_law (fun vs H Q E h => ?_) (fun cdv A outer s H vs Q E hr h => ?_)
  · obtain ⟨a, ns, rfl, _⟩ := h; rfl
  · obtain ⟨a, ns, rfl, hs, hl, k⟩ := h
    refine ⟨_, (pss_cons (ps_set (i := 1) sc_law.nd rfl (Or.inl rfl) (pe_cx c_l_begin hr (by decide) (by rfl) pass0 (pa_cons (pv 0) pa_nil)))
          (pss_cons (ps_set (i := 2) sc_law.nd rfl (Or.inl rfl) (pe_lst (pa_cons (pe_cx c_l_steps hr (by decide) (by rfl) pass0 (pa_cons (pv 1) (pa_cons pe_int (pa_cons pe_int pa_nil)))) (pa_cons (pe_cx c_l_steps hr (by decide) (by rfl) pass0 (pa_cons (pv 1) (pa_cons pe_int (pa_cons pe_int pa_nil)))) pa_nil))))
          (pss_cons (ps_set (i := 3) sc_law.nd rfl (Or.inl rfl) (pe_lst (pa_cons (pe_cx c_l_steps hr (by decide) (by rfl) pass0 (pa_cons (pv 1) (pa_cons pe_int (pa_cons pe_int pa_nil)))) (pa_cons (pe_cx c_l_steps hr (by decide) (by rfl) pass0 (pa_cons (pv 1) (pa_cons pe_int (pa_cons pe_int pa_nil)))) pa_nil))))
          (Evl.pss_cut (ps_if (pt_cmpR op_eq (pe_cx c_l_draw hr (by decide) (by rfl) pass0 (pa_cons (pv 1) (pa_cons pe_int pa_nil))) pe_int (nomark _))
            (pss_cons (ps_asg (pe_ix ix_list (pe_lst (pa_cons pe_str (pa_cons pe_str (pa_cons pe_str (pa_cons pe_str (pa_cons pe_str pa_nil)))))) (pe_cx c_l_draw hr (by decide) (by rfl) pass0 (pa_cons (pv 1) (pa_cons pe_int pa_nil))) (fun _ _ => rfl)) (pg_sub (pv 2) pe_int set_list))
            (pss_cons (ps_asg (pe_ix ix_list (pe_lst (pa_cons pe_str (pa_cons pe_str (pa_cons pe_str (pa_cons pe_str pa_nil))))) (pe_cx c_l_draw hr (by decide) (by rfl) pass0 (pa_cons (pv 1) (pa_cons pe_int pa_nil))) (fun _ _ => rfl)) (pg_sub (pv 3) pe_int set_list))
            pss_nil))
            pss_nil)
          (pss_cons (ps_set (i := 4) sc_law.nd rfl (Or.inl rfl) (pe_op op_sub (pe_cx c_l_draw hr (by decide) (by rfl) pass0 (pa_cons (pv 1) (pa_cons pe_int pa_nil))) pe_int))
          (pss_cons (ps_par (i := 5) (j := 6) rfl sc_law.nd rfl rfl (by decide) rfl rfl (pa_cons (pe_cx c_l_make hr (by decide) (by rfl) pass0 (pa_cons (pv 2) pa_nil)) (pa_cons (pe_cx c_l_make hr (by decide) (by rfl) pass0 (pa_cons (pv 3) pa_nil)) pa_nil)) rfl)
          (pss_cons (ps_for PassesOwn.never rfl (pi_list (pe_lst (pa_cons pe_int (pa_cons (pe_op op_add pe_int (pe_cx c_l_draw hr (by decide) (by rfl) pass0 (pa_cons (pv 1) (pa_cons pe_int pa_nil)))) (pa_cons (pe_op op_add pe_int (pe_cx c_l_draw hr (by decide) (by rfl) pass0 (pa_cons (pv 1) (pa_cons pe_int pa_nil)))) pa_nil))))) (pg_name (i := 7) sc_law.nd rfl (Or.inl rfl))
            (pss_cons (ps_set (i := 8) sc_law.nd rfl (Or.inl rfl) (pe_cx c_l_latest hr (by decide) (by rfl) pass0 (pa_cons (pv 2) (pa_cons (pv 3) (pa_cons (pv 7) (pa_cons (pv 4) pa_nil))))))
            (pss_cons (ps_if (pt_not (pt_val (pe_cx c_l_like hr (by decide) (by rfl) pass0 (pa_cons (pe_cx c_latest hr (by decide) (by rfl) passL (pa_cons (pv 5) (pa_cons (pv 6) (pa_cons (pv 7) (pa_cons (pv 4) pa_nil))))) (pa_cons (pv 8) pa_nil)))))
              (pss_cons (ps_ret pe_bl)
              pss_nil)
              pss_nil)
            pss_nil)))
          (pss_cons (ps_set (i := 9) sc_law.nd rfl (Or.inl rfl) (pe_cx c_l_told hr (by decide) (by rfl) pass0 (pa_cons (pv 5) (pa_cons (pv 6) (pa_cons (pv 4) pa_nil)))))
          (pss_cons (ps_asg (pe_cx c_l_pace hr (by decide) (by rfl) pass0 (pa_cons (pv 2) (pa_cons (pv 3) pa_nil))) (pg_tup rfl (pgs_cons (pg_name (i := 10) sc_law.nd rfl (Or.inl rfl)) (pgs_cons (pg_name (i := 11) sc_law.nd rfl (Or.inl rfl)) pgs_nil))))
          (pss_cons (ps_if (pt_cmpR op_eq (pv 11) pe_int (nomark _))
            (pss_cons (ps_ret (pe_cmpR (op_eqD hr.units) (pv 9) pe_str (nomark _)))
            pss_nil)
            pss_nil)
          (pss_cons (ps_if (pt_not (pt_val (pe_cx c_l_full hr (by decide) (by rfl) pass0 (pa_cons (pv 2) (pa_cons (pv 3) (pa_cons (pv 4) pa_nil))))))
            (pss_cons (ps_ret (pe_cmpR (op_eqD hr.units) (pv 9) pe_str (nomark _)))
            pss_nil)
            pss_nil)
          (pss_cons (ps_set (i := 11) sc_law.nd rfl (Or.inl rfl) (pe_callB call_abs (by rfl) T.n_abs b_abs (pa_cons (pv 11) pa_nil)))
          (pss_cons (ps_set (i := 12) sc_law.nd rfl (Or.inl rfl) (pe_ix ix_tup (pv 9) pe_int (fun _ _ => rfl)))
          (pss_cons (ps_if (PW.pt (pw_or (pt_not (pt_val (pe_cx c_l_like hr (by decide) (by rfl) pass0 (pa_cons (pe_slice sl_tup (pv 9) (po_some pe_int) po_none) (pa_cons (pe_tup (pa_cons (pv 10) (pa_cons (pv 11) pa_nil))) pa_nil))))) (pw_or1 (pt_cmpR op_lt (pv 12) pe_int (nomark _)))))
            (pss_cons (ps_ret pe_bl)
            pss_nil)
            pss_nil)
          (pss_cons (ps_for PassesOwn.never rfl (pi_range1 rfl T.n_range (pa_cons pe_int pa_nil)) (pg_name (i := 13) sc_law.nd rfl (Or.inl rfl))
            (pss_cons (ps_set (i := 7) sc_law.nd rfl (Or.inl rfl) (pe_op op_add (pe_op op_add (pv 12) (pv 13)) (pe_ix ix_list (pe_lst (pa_cons pe_int (pa_cons pe_int (pa_cons pe_int pa_nil)))) (pe_op op_mod (pv 13) pe_int) (fun _ _ => rfl))))
            (pss_cons (ps_set (i := 8) sc_law.nd rfl (Or.inl rfl) (pe_cx c_l_latest hr (by decide) (by rfl) pass0 (pa_cons (pv 2) (pa_cons (pv 3) (pa_cons (pv 7) (pa_cons (pv 4) pa_nil))))))
            (pss_cons (ps_if (pt_cmpR op_ne (pe_cx c_l_latest hr (by decide) (by rfl) pass0 (pa_cons (pv 2) (pa_cons (pv 3) (pa_cons (pe_op op_add (pv 7) (pv 11)) (pa_cons (pv 4) pa_nil))))) (pe_op op_add (pv 8) (pv 10)) (nomark _))
              (pss_cons (ps_ret pe_bl)
              pss_nil)
              pss_nil)
            (pss_cons (ps_if (pt_cmpR op_ne (pe_cx c_latest_by hr (by decide) (by rfl) passL (pa_cons (pv 5) (pa_cons (pv 6) (pa_cons (pv 4) (pa_cons (pv 7) pa_nil))))) (pv 8) (nomark _))
              (pss_cons (ps_ret pe_bl)
              pss_nil)
              pss_nil)
            pss_nil)))))
          (Evl.pss_cut (ps_if (pt_cmpR op_gt (pv 12) pe_int (nomark _))
            (pss_cons (ps_set (i := 8) sc_law.nd rfl (Or.inl rfl) (pe_cx c_l_latest hr (by decide) (by rfl) pass0 (pa_cons (pv 2) (pa_cons (pv 3) (pa_cons (pe_op op_sub (pv 12) pe_int) (pa_cons (pv 4) pa_nil))))))
            (pss_cons (ps_if (pt_cmpR op_eq (pe_cx c_l_latest hr (by decide) (by rfl) pass0 (pa_cons (pv 2) (pa_cons (pv 3) (pa_cons (pe_op op_add (pe_op op_sub (pv 12) pe_int) (pv 11)) (pa_cons (pv 4) pa_nil))))) (pe_op op_add (pv 8) (pv 10)) (nomark _))
              (pss_cons (ps_ret pe_bl)
              pss_nil)
              pss_nil)
            (pss_cons (ps_if (pt_cmpR op_ne (pe_cx c_latest_by hr (by decide) (by rfl) passL (pa_cons (pv 5) (pa_cons (pv 6) (pa_cons (pv 4) (pa_cons (pe_op op_sub (pv 12) pe_int) pa_nil))))) (pv 8) (nomark _))
              (pss_cons (ps_ret pe_bl)
              pss_nil)
              pss_nil)
            pss_nil)))
            pss_nil)
          (pss_cons (ps_set (i := 14) sc_law.nd rfl (Or.inl rfl) (pe_op op_add (pe_op op_add (pv 12) (pe_cx c_l_draw hr (by decide) (by rfl) pass0 (pa_cons (pv 1) (pa_cons pe_int pa_nil)))) pe_int))
          (pss_cons (ps_ret (pe_cmpR op_eq (pe_cx c_latest_by hr (by decide) (by rfl) passL (pa_cons (pv 5) (pa_cons (pv 6) (pa_cons (pv 4) (pa_cons (pe_op op_add (pv 14) (pv 11)) pa_nil))))) (pe_op op_add (pe_cx c_latest_by hr (by decide) (by rfl) passL (pa_cons (pv 5) (pa_cons (pv 6) (pa_cons (pv 4) (pa_cons (pv 14) pa_nil))))) (pv 10)) (nomark _)))
          pss_nil)))))))))))))))))), Run.start (σ := [some (.ref a), none, none, none, none, none, none, none, none, none, none, none, none, none, none]) rfl ?_⟩
    refine run_begin rfl hs hl fun dd l G _ dw => ?_
    refine rd_asg (ed_parts 0 2 1 3 dw rfl (by decide) (by decide) (by decide) (by decide) (by decide)) ?_
    rintro v G1 ⟨p0, ⟨a1, rfl, ha1, rfl⟩, okp0, l1, l2⟩ _ dw1
    refine rd_asg (ed_parts 0 2 1 2 dw1 rfl (by decide) (by decide) (by decide) (by decide) (by decide)) ?_
    rintro v G2 ⟨q0, ⟨a2, rfl, ha2, rfl⟩, okq0, l3, l4⟩ e12 dw2
    have hla1 : l ≠ a1 := fun e => by obtain ⟨ns, h1, _⟩ := dw.lst; rw [e, ha1] at h1; cases h1
    have hla2 : l ≠ a2 := fun e => by obtain ⟨ns, h1, _⟩ := dw1.lst; rw [e, ha2] at h1; cases h1
    have h12 : a2 ≠ a1 := fun e => by rw [e, upd_same] at ha2; cases ha2
    have s1 : (upd (upd G a1 (.lst [.str (S p0.h), .str (S p0.r)])) a2 (.lst [.str (S q0.h), .str (S q0.r)])) a1 = some (.lst [.str (S p0.h), .str (S p0.r)]) := by rw [upd_ne (Ne.symm h12), upd_same]
    have s2 : (upd (upd G a1 (.lst [.str (S p0.h), .str (S p0.r)])) a2 (.lst [.str (S q0.h), .str (S q0.r)])) a2 = some (.lst [.str (S q0.h), .str (S q0.r)]) := upd_same
    generalize upd (upd G a1 (.lst [.str (S p0.h), .str (S p0.r)])) a2 (.lst [.str (S q0.h), .str (S q0.r)]) = G2 at *
    refine rd_cutX (fun σ' G' => σ' = [some (.ref a), some (.ref dd), some (.ref a1), some (.ref a2), none, none, none, none, none, none, none, none, none, none, none] ∧ ∃ p q : Pl, PartsAt K G' a1 p ∧ POk p ∧ p.h.length ≤ 2 ∧ p.r.length ≤ 3 ∧ PartsAt K G' a2 q ∧ POk q ∧ q.h.length ≤ 2 ∧ q.r.length ≤ 2) ?_ ?_
    · refine rd_ifEO (ed_tst dw2 rfl (by decide) (by decide)) (fun v G' h => h.2) ?_ ?_
      · rintro G6 ⟨rfl, _⟩ _ dw6
        refine rd_setP (k := 1) (ed_pick (n := 5) dw6 (el_lst (ea_cons ev_c (ea4 ev_c ev_c ev_c ev_c)) (by show 5 ≤ 100000; decide)) rfl fun G7 _ w7 => ed_drawn (n := 5) w7 rfl (by decide) (by decide)) s1 hla1 rfl (by show 1 < 2; decide) ?_
        intro v G7 hv e7 dw7
        obtain ⟨m, rfl, sm, m1, m2⟩ := pick_txt (m := 3) (ms := [[102], [102, 102], [102, 115], [102, 102, 98], [98, 98, 115]]) (zs := ["f", "ff", "fs", "ffb", "bbs"]) (by decide +kernel) (by decide) hv
        have s3 : (upd G7 a1 (.lst [.str (S p0.h), .str (S m)])) a2 = some (.lst [.str (S q0.h), .str (S q0.r)]) := by rw [upd_ne h12]; exact e7 _ _ s2
        refine rd_setP (k := 1) (ed_pick (n := 4) dw7 (el_lst (ea4 ev_c ev_c ev_c ev_c) (by show 4 ≤ 100000; decide)) rfl fun G8 _ w8 => ed_drawn (n := 4) w8 rfl (by decide) (by decide)) s3 hla2 rfl (by show 1 < 2; decide) ?_
        intro v G8 hv e8 dw8
        obtain ⟨m', rfl, sm', m1', m2'⟩ := pick_txt (m := 2) (ms := [[115], [102, 98], [115, 98], [115, 102]]) (zs := ["s", "fb", "sb", "sf"]) (by decide +kernel) (by decide) hv
        have s4 : (upd G8 a2 (.lst [.str (S q0.h), .str (S m')])) a1 = some (.lst [.str (S p0.h), .str (S m)]) := by rw [upd_ne (Ne.symm h12)]; exact e8 _ _ upd_same
        exact rd_up rfl (Ex.refl _) fun o ho => ⟨_, o, ⟨rfl, opened (p := ⟨p0.h, m⟩) (q := ⟨q0.h, m'⟩) (sq_of s4) ⟨⟨okp0.ok.hl, m1, by show m.length ≤ 6; omega⟩, okp0.sh, sm⟩ l1 m2 (sq_of upd_same) ⟨⟨okq0.ok.hl, m1', by show m'.length ≤ 6; omega⟩, okq0.sh, sm'⟩ l3 m2'⟩, dw8, ho, rfl⟩
      · rintro G6 ⟨rfl, _⟩ _ dw6
        exact rd_up rfl (Ex.refl _) fun o ho => ⟨_, o, ⟨rfl, opened (sq_of s1) okp0 l1 l2 (sq_of s2) okq0 l3 l4⟩, dw6, ho, rfl⟩
    rintro σ' G3 ⟨rfl, p, q, hp, okp, k1, k2, hq, okq, k3, k4⟩ dw3
    refine rd_asg (R := fun v G' => G3 = G' ∧ ∃ d : Int, v = .int d ∧ d.natAbs ≤ 4) (ed_opL (ed_callP dw3 (ea2 (ev_var rfl) ev_c) (use_draw dw3 (by decide) (by decide))) (fun _ _ _ _ _ => ev_c) ?_) ?_
    · rintro x G' ⟨j, rfl, hj, rfl⟩ _ _
      exact ⟨_, rv_I0, rfl, _, rfl, by omega⟩
    rintro v G9 ⟨e9, d, rfl, hd⟩ _ _
    obtain rfl := e9
    refine rd_par (eda_2makes (K := K) dw3 rfl rfl hp okp hq okq) ?_
    rintro vs G4 ⟨x1, x2, rfl, hx1, hx2⟩ e4 dw4
    refine ⟨_, _, rfl, ?_⟩
    have hp : PartsAt K G4 a1 p := ex_l e4 hp
    have hq : PartsAt K G4 a2 q := ex_l e4 hq
    have grsc : ∀ n, ScV (grV p q n d) := fun n => by
      unfold grV
      split
      · exact .inr (.inl ⟨_, rfl⟩)
      · exact .inl rfl
    -- latest for three numbers of places
    refine rd_forX (X := X3) (ed_three dw4 rfl) (fun i σ' => ∃ v7 v8, σ' = [some (.ref a), some (.ref dd), some (.ref a1), some (.ref a2), some (.int d), some (.ref x1), some (.ref x2), v7, v8, none, none, none, none, none, none]) ?_
    intro z xs G5 hX hz e45 dw5
    have hp := ex_l e45 hp
    have hq := ex_l e45 hq
    have hx1 := hx1.mono e45
    have hx2 := hx2.mono e45
    refine ⟨⟨_, _, rfl⟩, ?_, ?_⟩
    · rintro i x σ' hi hx ⟨v7, v8, rfl⟩
      obtain ⟨n, rfl, hn0, hn⟩ := hX.item hx
      have hs := law_small k1 k2 k3 k4 hd (n := n) (by omega)
      refine rd_asgP dw5 (ev_call0 (ea4 (ev_var rfl) (ev_var rfl) (ev_var rfl) (ev_var rfl)) (use_llatest hp okp.ok hq okq.ok hn0 (by omega) hs)) ?_
      refine rd_if (b := false) dw5 (et_is (et_not (et_B (ev_call0 (ea2 (ev_call0 (ea4 (ev_var rfl) (ev_var rfl) (ev_var rfl) (ev_var rfl)) (use_latest hx1 okp hx2 okq hn0 (by omega) (by omega))) (ev_var rfl)) (use_like (.inl ⟨rfl, grsc n⟩))))) rfl) (fun h => nomatch h) fun _ => rd_end ?_
      exact rd_up rfl (Ex.refl _) fun o ho => ⟨⟨_, _, rfl⟩, o, ho, rfl⟩
    rintro σ' ⟨v7, v8, rfl⟩
    have strg : PyData.strOk ("gain" : Str) = true := by decide +kernel
    have strn : PyData.strOk ("never" : Str) = true := by decide +kernel
    by_cases hg : gain p q = 0
    · refine rd_run dw5 ?_
      refine run_asg (ev_call0 (ea3 (ev_var rfl) (ev_var rfl) (ev_var rfl)) (use_toldG hx1 okp hx2 okq (by omega) hg)) ?_
      refine run_unp2 (eu_call (ea2 (ev_var rfl) (ev_var rfl)) (use_lpace hp okp.ok hq okq.ok)) ?_
      refine run_if (b := true) (et_is (et_test (ev_op (ev_var rfl) ev_c (rv_eq rfl))) (by rw [hg]; exact decide_eq_true rfl)) (fun _ => ?_) fun h => nomatch h
      exact run_ret (v := .bl true) (ev_op (ev_var rfl) ev_c (rv_eqDS strg)) fun H2 _ => k H2
    have hgd : decide (V.int (gain p q) = V.int 0) = false := decide_eq_false fun e => hg (by injection e)
    cases hf : fullD p q d with
    | false =>
      refine rd_run dw5 ?_
      refine run_asg (ev_call0 (ea3 (ev_var rfl) (ev_var rfl) (ev_var rfl)) (use_toldN hx1 okp hx2 okq (by omega) hg hf)) ?_
      refine run_unp2 (eu_call (ea2 (ev_var rfl) (ev_var rfl)) (use_lpace hp okp.ok hq okq.ok)) ?_
      refine run_if (b := false) (et_is (et_test (ev_op (ev_var rfl) ev_c (rv_eq rfl))) hgd) (fun h => nomatch h) fun _ => run_end ?_
      refine run_if (b := true) (et_is (et_not (et_B (ev_call0 (ea3 (ev_var rfl) (ev_var rfl) (ev_var rfl)) (use_lfull hp okp.ok hq okq.ok hg (by omega))))) (by rw [hf]; rfl)) (fun _ => ?_) fun h => nomatch h
      exact run_ret (v := .bl true) (ev_op (ev_var rfl) ev_c (rv_eqDS strn)) fun H2 _ => k H2
    | true =>
      have o1 := okp.ok
      have o2 := okq.ok
      obtain ⟨sa, sb, _⟩ := start_spec (fo_per o1.r0 o2.r0 d) hg (full_ef hg hf)
      obtain ⟨s1, _, s3⟩ := st_le o1 o2 (d := d) (by omega) hg hf
      have fs := far_small o1 o2 k1 k2 k3 k4 hd hg
      have g72 := gain_abs o1 o2
      have sa : ∀ n, stL p q d ≤ n → grP p q d (n + (gain p q).natAbs) = grP p q d n + ((lcmP p q : Nat) : Int) := sa
      have sb : 1 < stL p q d → grP p q d (stL p q d - 1 + (gain p q).natAbs) ≠ grP p q d (stL p q d - 1) + ((lcmP p q : Nat) : Int) := sb
      have gv : ∀ n, 0 < n → grV p q n d = .int (grP p q d n) := fun n hn => full_gr o1 o2 hg hf hn
      refine rd_asg (ed_u dw5 (eu_call (ea3 (ev_var rfl) (ev_var rfl) (ev_var rfl)) (use_toldP hx1 okp hx2 okq (by omega) hg hf))) ?_
      rintro v G6 ⟨y, rfl, hy, hyd, rfl⟩ e6 dw6
      have hyt : SqT K (upd G5 y (.tup [.int ((stL p q d : Nat) : Int), .int ((lcmP p q : Nat) : Int), .int ((gain p q).natAbs : Int)])) y [.int ((stL p q d : Nat) : Int), .int ((lcmP p q : Nat) : Int), .int ((gain p q).natAbs : Int)] := st_of upd_same
      have hp := ex_l e6 hp
      have hq := ex_l e6 hq
      have hx1 := hx1.mono e6
      have hx2 := hx2.mono e6
      generalize upd G5 y (.tup [.int ((stL p q d : Nat) : Int), .int ((lcmP p q : Nat) : Int), .int ((gain p q).natAbs : Int)]) = G6 at *
      refine rd_unp2 dw6 (eu_call (ea2 (ev_var rfl) (ev_var rfl)) (use_lpace hp okp.ok hq okq.ok)) ?_
      refine rd_if (b := false) dw6 (et_is (et_test (ev_op (ev_var rfl) ev_c (rv_eq rfl))) hgd) (fun h => nomatch h) fun _ => rd_end ?_
      refine rd_if (b := false) dw6 (et_is (et_not (et_B (ev_call0 (ea3 (ev_var rfl) (ev_var rfl) (ev_var rfl)) (use_lfull hp okp.ok hq okq.ok hg (by omega))))) (by rw [hf]; rfl)) (fun h => nomatch h) fun _ => rd_end ?_
      refine rd_asgP dw6 (ev_abs (ev_var rfl)) ?_
      refine rd_asgP dw6 (ev_op (ev_var rfl) ev_c (rv_ixT hyt rfl)) ?_
      have ecut : cutV [V.int ((stL p q d : Nat) : Int), .int ((lcmP p q : Nat) : Int), .int ((gain p q).natAbs : Int)] (some 1) none = [.int ((lcmP p q : Nat) : Int), .int ((gain p q).natAbs : Int)] := cutV_drop (k := 1) _ (by show 1 ≤ 3; decide)
      refine rd_if (b := false) dw6 (et_is (et_or (a := !true) (b := false) (et_not (et_B (ev_callN fun H1 e1 => (ega_UU (eu_slT (ev_var rfl) (eo_some ev_c) eo_none (ex_t e1 hyt) (fun h => by have h1 := h.1; simp [HT.sIx] at h1)) (eu_tup (ea2 (ev_var rfl) (ev_var rfl)) (by show 2 ≤ 100000; decide))).imp ?_))) fun _ => et_is (et_test (ev_op (ev_var rfl) ev_c rv_I0)) (decide_eq_false (by omega))) rfl) (fun h => nomatch h) fun _ => rd_end ?_
      · rintro vs H' ⟨e7, b1, b2, rfl, g1, g2⟩
        rw [ecut] at g1
        refine ⟨e7, use_like (.inr ⟨trivial, b1, b2, _, rfl, rfl, .inr ⟨g1, g2⟩, (by show 2 ≤ 1000; decide), ?_⟩)⟩
        intro v hv
        simp only [List.mem_cons, List.not_mem_nil, or_false] at hv
        rcases hv with rfl | rfl
        · exact .inr (.inl ⟨_, rfl⟩)
        · exact .inr (.inl ⟨_, rfl⟩)
      generalize stL p q d = s at *
      generalize hG : (gain p q).natAbs = g at *
      refine rd_rng1 (n := 12) dw6 (ea1 ev_c) (by decide) (by decide) (fun i σ' => ∃ v7 v8 v13, σ' = [some (.ref a), some (.ref dd), some (.ref a1), some (.ref a2), some (.int d), some (.ref x1), some (.ref x2), v7, v8, some (.ref y), some (.int ((lcmP p q : Nat) : Int)), some (.int (g : Int)), some (.int (s : Int)), v13, none]) ⟨_, _, _, rfl⟩ ?_ ?_
      · rintro i σ' hi ⟨v7, v8, v13, rfl⟩
        have hi : i < 12 := by omega
        obtain ⟨c, hc, ha⟩ : ∃ c : Nat, c ≤ 20 ∧ atI [V.int 0, .int 7, .int 20] ((i : Int) % 3) = some (.int (c : Int)) := by
          have : (i : Int) % 3 = 0 ∨ (i : Int) % 3 = 1 ∨ (i : Int) % 3 = 2 := by omega
          rcases this with h | h | h <;> rw [h]
          · exact ⟨0, by omega, at_nat (i := 0) _ rfl⟩
          · exact ⟨7, by omega, at_nat (i := 1) _ rfl⟩
          · exact ⟨20, by omega, at_nat (i := 2) _ rfl⟩
        refine rd_asgP (v := .int ((s + i + c : Nat) : Int)) dw6 (ev_is (ev_op (ev_op (ev_var rfl) (ev_var rfl) rv_I0) (ev_ixNL (el_lst (ea3 ev_c ev_c ev_c) (by show 3 ≤ 100000; decide)) (ev_op (ev_var rfl) ev_c (rv_I (by decide))) ha) rv_I0) (by congr 1)) ?_
        generalize hn : s + i + c = n
        have hn0 : 0 < n := by omega
        refine rd_asgP dw6 (ev_is (ev_call0 (ea4 (ev_var rfl) (ev_var rfl) (ev_var rfl) (ev_var rfl)) (use_llatest hp okp.ok hq okq.ok hn0 (by omega) (law_small k1 k2 k3 k4 hd (by omega)))) (gv n hn0)) ?_
        refine rd_if (b := false) dw6 (et_is (et_test (ev_op (ev_is (ev_call0 (ea4 (ev_var rfl) (ev_var rfl) (ev_is (w := .int ((n + g : Nat) : Int)) (ev_op (ev_var rfl) (ev_var rfl) rv_I0) (by congr 1)) (ev_var rfl)) (use_llatest (n := n + g) hp okp.ok hq okq.ok (by omega) (by omega) (law_small k1 k2 k3 k4 hd (by omega)))) (gv (n + g) (by omega))) (ev_op (ev_var rfl) (ev_var rfl) rv_I0) (rv_ne rfl))) ?_) (fun h => nomatch h) fun _ => rd_end ?_
        · rw [sa n (by omega), decide_eq_true rfl]; rfl
        refine rd_if (b := false) dw6 (et_test (ev_op (ev_call0 (ea4 (ev_var rfl) (ev_var rfl) (ev_var rfl) (ev_var rfl)) (use_lby hx1 okp hx2 okq (by omega) hg hf hn0)) (ev_var rfl) (rv_neSame rfl))) (fun h => nomatch h) fun _ => rd_end ?_
        exact rd_up rfl (Ex.refl _) fun o ho => ⟨⟨_, _, _, rfl⟩, o, ho, rfl⟩
      · rintro σ' ⟨v7, v8, v13, rfl⟩
        refine rd_cut (fun σ' => ∃ v8, σ' = [some (.ref a), some (.ref dd), some (.ref a1), some (.ref a2), some (.int d), some (.ref x1), some (.ref x2), v7, v8, some (.ref y), some (.int ((lcmP p q : Nat) : Int)), some (.int (g : Int)), some (.int (s : Int)), v13, none]) ?_ ?_
        · refine rd_ifO (b := decide ((s : Int) > 1)) dw6 (et_test (ev_op (ev_var rfl) ev_c rv_I0)) (fun hb => ?_) fun hb => rd_up rfl (Ex.refl _) fun o ho => ⟨⟨_, rfl⟩, o, ho, rfl⟩
          have hb := of_decide_eq_true hb
          have sb := sb (by omega)
          have em : ∀ {σ : L2.St} {H : Hp}, σ[12]? = some (some (.int (s : Int))) → Ev (tOp (rI0 fun i j => .int (i - j)) (tVar 12) (tC (.int 1))) σ H (.int ((s - 1 : Nat) : Int)) := fun h => ev_is (ev_op (ev_var h) ev_c rv_I0) (by congr 1; omega)
          refine rd_asgP dw6 (ev_is (ev_call0 (ea4 (ev_var rfl) (ev_var rfl) (em rfl) (ev_var rfl)) (use_llatest (n := s - 1) hp okp.ok hq okq.ok (by omega) (by omega) (law_small k1 k2 k3 k4 hd (by omega)))) (gv (s - 1) (by omega))) ?_
          refine rd_if (b := false) dw6 (et_is (et_test (ev_op (ev_is (ev_call0 (ea4 (ev_var rfl) (ev_var rfl) (ev_is (w := .int ((s - 1 + g : Nat) : Int)) (ev_op (em rfl) (ev_var rfl) rv_I0) (by congr 1)) (ev_var rfl)) (use_llatest (n := s - 1 + g) hp okp.ok hq okq.ok (by omega) (by omega) (law_small k1 k2 k3 k4 hd (by omega)))) (gv (s - 1 + g) (by omega))) (ev_op (ev_var rfl) (ev_var rfl) rv_I0) (rv_eq rfl))) (decide_eq_false fun e => sb (by injection e))) (fun h => nomatch h) fun _ => rd_end ?_
          refine rd_if (b := false) dw6 (et_test (ev_op (ev_call0 (ea4 (ev_var rfl) (ev_var rfl) (ev_var rfl) (em rfl)) (use_lby (n := s - 1) hx1 okp hx2 okq (by omega) hg hf (by omega))) (ev_var rfl) (rv_neSame rfl))) (fun h => nomatch h) fun _ => rd_end ?_
          exact rd_up rfl (Ex.refl _) fun o ho => ⟨⟨_, rfl⟩, o, ho, rfl⟩
        · rintro σ' ⟨v8, rfl⟩
          refine rd_asg (R := fun v G' => G6 = G' ∧ ∃ N : Nat, v = .int (N : Int) ∧ s ≤ N) (ed_opL (S := fun v G' => G6 = G' ∧ ∃ N : Nat, v = .int (N : Int) ∧ s ≤ N) (ed_opR dw6 (ev_var rfl) (ed_callP dw6 (ea2 (ev_var rfl) ev_c) (use_drawM dw6 (by decide) (by decide))) ?_) (fun _ _ _ _ _ => ev_c) ?_) ?_
          · rintro x G' ⟨j, rfl, hj, rfl⟩ _ _
            exact ⟨_, rv_I0, rfl, s + j, by congr 1, by omega⟩
          · rintro x G' ⟨e, N, rfl, hN⟩ _ _
            exact ⟨_, rv_I0, e, N + 98765432100000000000000000000, by congr 1, by omega⟩
          rintro v G9 ⟨e9, N, rfl, hN⟩ _ _
          obtain rfl := e9
          refine rd_run dw6 ?_
          refine run_ret (v := .bl true) (ev_is (ev_op (ev_call0 (ea4 (ev_var rfl) (ev_var rfl) (ev_var rfl) (ev_is (w := .int ((N + g : Nat) : Int)) (ev_op (ev_var rfl) (ev_var rfl) rv_I0) (by congr 1))) (use_lby (n := N + g) hx1 okp hx2 okq (by omega) hg hf (by omega))) (ev_op (ev_call0 (ea4 (ev_var rfl) (ev_var rfl) (ev_var rfl) (ev_var rfl)) (use_lby (n := N) hx1 okp hx2 okq (by omega) hg hf (by omega))) (ev_var rfl) rv_I0) (rv_eq rfl)) ?_) fun H2 _ => k H2
          rw [sa N hN, decide_eq_true rfl]
theorem all_mk {l : PySem.W.OpenLaw} {w : World} {K : PySem.W.Frag} {h : Heap} {mg : Str → Option Value} {fa : Addr} (X : K.In h) (G : h.Ns mainGlobals mg) (hfa : mg "law" = some (.ref fa))
    {aS cPlan cMeetError cBadPlan cBadCase cNoGain cNeverMeet f_is_whole f_check_size f_check_delay f_total f_Plan_way f_offset_at f_common f_Plan_drift f_pace f_steady f_all_rests f_last_time f_least_times f_is_full f_greatest_time f_latest f_check_pattern f_far_size f_first_times f_greatest_by f_least_start f_pattern f_latest_by f_are_steps f_Plan_init f_l_begin f_l_draw f_l_steps f_l_make f_l_way f_l_ways f_l_offsets f_l_common f_l_pace f_l_times f_l_like f_l_told f_l_latest f_l_full f_law : Addr} {t1 t2 t3 u1 u2 u3 : Tok} {nS : Nat} {tM : Tok} {oc_is_whole kV_is_whole dc_is_whole pm_is_whole cd_is_whole ct_is_whole : Value} {od_is_whole an_is_whole : Option Addr} {sl_is_whole : Array (Option Value)} {oc_check_size kV_check_size dc_check_size pm_check_size cd_check_size ct_check_size : Value} {od_check_size an_check_size : Option Addr} {sl_check_size : Array (Option Value)} {oc_check_delay kV_check_delay dc_check_delay pm_check_delay cd_check_delay ct_check_delay : Value} {od_check_delay an_check_delay : Option Addr} {sl_check_delay : Array (Option Value)} {oc_total kV_total dc_total pm_total cd_total ct_total : Value} {od_total an_total : Option Addr} {sl_total : Array (Option Value)} {oc_Plan_way kV_Plan_way dc_Plan_way pm_Plan_way cd_Plan_way ct_Plan_way : Value} {od_Plan_way an_Plan_way : Option Addr} {sl_Plan_way : Array (Option Value)} {oc_offset_at kV_offset_at dc_offset_at pm_offset_at cd_offset_at ct_offset_at : Value} {od_offset_at an_offset_at : Option Addr} {sl_offset_at : Array (Option Value)} {oc_common kV_common dc_common pm_common cd_common ct_common : Value} {od_common an_common : Option Addr} {sl_common : Array (Option Value)} {oc_Plan_drift kV_Plan_drift dc_Plan_drift pm_Plan_drift cd_Plan_drift ct_Plan_drift : Value} {od_Plan_drift an_Plan_drift : Option Addr} {sl_Plan_drift : Array (Option Value)} {oc_pace kV_pace dc_pace pm_pace cd_pace ct_pace : Value} {od_pace an_pace : Option Addr} {sl_pace : Array (Option Value)} {oc_steady kV_steady dc_steady pm_steady cd_steady ct_steady : Value} {od_steady an_steady : Option Addr} {sl_steady : Array (Option Value)} {oc_all_rests kV_all_rests dc_all_rests pm_all_rests cd_all_rests ct_all_rests : Value} {od_all_rests an_all_rests : Option Addr} {sl_all_rests : Array (Option Value)} {oc_last_time kV_last_time dc_last_time pm_last_time cd_last_time ct_last_time : Value} {od_last_time an_last_time : Option Addr} {sl_last_time : Array (Option Value)} {oc_least_times kV_least_times dc_least_times pm_least_times cd_least_times ct_least_times : Value} {od_least_times an_least_times : Option Addr} {sl_least_times : Array (Option Value)} {oc_is_full kV_is_full dc_is_full pm_is_full cd_is_full ct_is_full : Value} {od_is_full an_is_full : Option Addr} {sl_is_full : Array (Option Value)} {oc_greatest_time kV_greatest_time dc_greatest_time pm_greatest_time cd_greatest_time ct_greatest_time : Value} {od_greatest_time an_greatest_time : Option Addr} {sl_greatest_time : Array (Option Value)} {oc_latest kV_latest dc_latest pm_latest cd_latest ct_latest : Value} {od_latest an_latest : Option Addr} {sl_latest : Array (Option Value)} {oc_check_pattern kV_check_pattern dc_check_pattern pm_check_pattern cd_check_pattern ct_check_pattern : Value} {od_check_pattern an_check_pattern : Option Addr} {sl_check_pattern : Array (Option Value)} {oc_far_size kV_far_size dc_far_size pm_far_size cd_far_size ct_far_size : Value} {od_far_size an_far_size : Option Addr} {sl_far_size : Array (Option Value)} {oc_first_times kV_first_times dc_first_times pm_first_times cd_first_times ct_first_times : Value} {od_first_times an_first_times : Option Addr} {sl_first_times : Array (Option Value)} {oc_greatest_by kV_greatest_by dc_greatest_by pm_greatest_by cd_greatest_by ct_greatest_by : Value} {od_greatest_by an_greatest_by : Option Addr} {sl_greatest_by : Array (Option Value)} {oc_least_start kV_least_start dc_least_start pm_least_start cd_least_start ct_least_start : Value} {od_least_start an_least_start : Option Addr} {sl_least_start : Array (Option Value)} {oc_pattern kV_pattern dc_pattern pm_pattern cd_pattern ct_pattern : Value} {od_pattern an_pattern : Option Addr} {sl_pattern : Array (Option Value)} {oc_latest_by kV_latest_by dc_latest_by pm_latest_by cd_latest_by ct_latest_by : Value} {od_latest_by an_latest_by : Option Addr} {sl_latest_by : Array (Option Value)} {oc_are_steps kV_are_steps dc_are_steps pm_are_steps cd_are_steps ct_are_steps : Value} {od_are_steps an_are_steps : Option Addr} {sl_are_steps : Array (Option Value)} {oc_Plan_init kV_Plan_init dc_Plan_init pm_Plan_init cd_Plan_init ct_Plan_init : Value} {od_Plan_init an_Plan_init : Option Addr} {sl_Plan_init : Array (Option Value)} {oc_l_begin kV_l_begin dc_l_begin pm_l_begin cd_l_begin ct_l_begin : Value} {od_l_begin an_l_begin : Option Addr} {sl_l_begin : Array (Option Value)} {oc_l_draw kV_l_draw dc_l_draw pm_l_draw cd_l_draw ct_l_draw : Value} {od_l_draw an_l_draw : Option Addr} {sl_l_draw : Array (Option Value)} {oc_l_steps kV_l_steps dc_l_steps pm_l_steps cd_l_steps ct_l_steps : Value} {od_l_steps an_l_steps : Option Addr} {sl_l_steps : Array (Option Value)} {oc_l_make kV_l_make dc_l_make pm_l_make cd_l_make ct_l_make : Value} {od_l_make an_l_make : Option Addr} {sl_l_make : Array (Option Value)} {oc_l_way kV_l_way dc_l_way pm_l_way cd_l_way ct_l_way : Value} {od_l_way an_l_way : Option Addr} {sl_l_way : Array (Option Value)} {oc_l_ways kV_l_ways dc_l_ways pm_l_ways cd_l_ways ct_l_ways : Value} {od_l_ways an_l_ways : Option Addr} {sl_l_ways : Array (Option Value)} {oc_l_offsets kV_l_offsets dc_l_offsets pm_l_offsets cd_l_offsets ct_l_offsets : Value} {od_l_offsets an_l_offsets : Option Addr} {sl_l_offsets : Array (Option Value)} {oc_l_common kV_l_common dc_l_common pm_l_common cd_l_common ct_l_common : Value} {od_l_common an_l_common : Option Addr} {sl_l_common : Array (Option Value)} {oc_l_pace kV_l_pace dc_l_pace pm_l_pace cd_l_pace ct_l_pace : Value} {od_l_pace an_l_pace : Option Addr} {sl_l_pace : Array (Option Value)} {oc_l_times kV_l_times dc_l_times pm_l_times cd_l_times ct_l_times : Value} {od_l_times an_l_times : Option Addr} {sl_l_times : Array (Option Value)} {oc_l_like kV_l_like dc_l_like pm_l_like cd_l_like ct_l_like : Value} {od_l_like an_l_like : Option Addr} {sl_l_like : Array (Option Value)} {oc_l_told kV_l_told dc_l_told pm_l_told cd_l_told ct_l_told : Value} {od_l_told an_l_told : Option Addr} {sl_l_told : Array (Option Value)} {oc_l_latest kV_l_latest dc_l_latest pm_l_latest cd_l_latest ct_l_latest : Value} {od_l_latest an_l_latest : Option Addr} {sl_l_latest : Array (Option Value)} {oc_l_full kV_l_full dc_l_full pm_l_full cd_l_full ct_l_full : Value} {od_l_full an_l_full : Option Addr} {sl_l_full : Array (Option Value)} {oc_law kV_law dc_law pm_law cd_law ct_law : Value} {od_law an_law : Option Addr} {sl_law : Array (Option Value)}
    (z_isinstance : PySem.W.nsIn K mainGlobals "isinstance" = some none)
    (z_len : PySem.W.nsIn K mainGlobals "len" = some none)
    (z_abs : PySem.W.nsIn K mainGlobals "abs" = some none)
    (z_max : PySem.W.nsIn K mainGlobals "max" = some none)
    (z_min : PySem.W.nsIn K mainGlobals "min" = some none)
    (z_sum : PySem.W.nsIn K mainGlobals "sum" = some none)
    (z_all : PySem.W.nsIn K mainGlobals "all" = some none)
    (z_sorted : PySem.W.nsIn K mainGlobals "sorted" = some none)
    (z_int : PySem.W.nsIn K mainGlobals "int" = some none)
    (z_bool : PySem.W.nsIn K mainGlobals "bool" = some none)
    (z_str : PySem.W.nsIn K mainGlobals "str" = some none)
    (z_list : PySem.W.nsIn K mainGlobals "list" = some none)
    (z_dict : PySem.W.nsIn K mainGlobals "dict" = some none)
    (z_tuple : PySem.W.nsIn K mainGlobals "tuple" = some none)
    (z_set : PySem.W.nsIn K mainGlobals "set" = some none)
    (z_range : PySem.W.nsIn K mainGlobals "range" = some none)
    (gS : PySem.W.nsIn K mainGlobals "STEPS" = some (some (.ref aS)))
    (lS : K.lookup aS = some ⟨.type "dict", none, .dict #[⟨PyData.keyHash w.params "f", .str "f" t1, .int 1 u1⟩, ⟨PyData.keyHash w.params "b", .str "b" t2, .int (-1) u2⟩, ⟨PyData.keyHash w.params "s", .str "s" t3, .int 0 u3⟩] nS, #[]⟩)
    (wS : (aS == sysModules) = false)
    (gM : PySem.W.nsIn K mainGlobals "MOST" = some (some (.int 6 tM)))
    (gPlan : PySem.W.nsIn K mainGlobals "Plan" = some (some (.ref cPlan)))
    (pgPlan : PySem.W.plainGet K cPlan Str.empty = true)
    (hdPlan : PySem.W.hasDictIn K cPlan = true)
    (poPlan : PySem.W.plainOver K cPlan = true)
    (saPlan : PySem.W.findIn K (.ref cPlan) "__setattr__" = some (some (.builtin "object.__setattr__")))
    (mkPlan : PySem.W.makesIn K cPlan = true)
    (kcPlan : PySem.W.keepIn K (.ref cPlan) = true)
    (nPlanhead : PySem.W.findIn K (.ref cPlan) "head" = some none)
    (nPlanring : PySem.W.findIn K (.ref cPlan) "ring" = some none)
    (isPlan : PySem.W.findIn K (.ref cPlan) "__class__" = some (some (.builtin "object.__class__")))
    (mrPlan : PySem.W.mroIn K cPlan (.type "object") = some true)
    (spc : PySem.W.specialIn K (.builtin "object.__class__") "__get__" = some (some (.builtin "getset_descriptor.__get__")))
    (tks : PySem.W.takesIn K (.builtin "object.__class__") = some true)
    (gMeetError : PySem.W.nsIn K mainGlobals "MeetError" = some (some (.ref cMeetError)))
    (xMeetError : PySem.W.excIn K cMeetError [.type "ValueError", .type "Exception", .type "BaseException", .type "object"] "ValueError.__new__" = true)
    (kMeetError : PySem.W.keepIn K (.ref cMeetError) = true)
    (bMeetError : PySem.W.subIn K (.ref cMeetError) (.type "BaseException") = some true)
    (tMeetError : PySem.W.typeIn K (.ref cMeetError) = some (.type "type"))
    (gBadPlan : PySem.W.nsIn K mainGlobals "BadPlan" = some (some (.ref cBadPlan)))
    (xBadPlan : PySem.W.excIn K cBadPlan [.type "ValueError", .type "Exception", .type "BaseException", .type "object"] "ValueError.__new__" = true)
    (kBadPlan : PySem.W.keepIn K (.ref cBadPlan) = true)
    (bBadPlan : PySem.W.subIn K (.ref cBadPlan) (.type "BaseException") = some true)
    (tBadPlan : PySem.W.typeIn K (.ref cBadPlan) = some (.type "type"))
    (gBadCase : PySem.W.nsIn K mainGlobals "BadCase" = some (some (.ref cBadCase)))
    (xBadCase : PySem.W.excIn K cBadCase [.type "ValueError", .type "Exception", .type "BaseException", .type "object"] "ValueError.__new__" = true)
    (kBadCase : PySem.W.keepIn K (.ref cBadCase) = true)
    (bBadCase : PySem.W.subIn K (.ref cBadCase) (.type "BaseException") = some true)
    (tBadCase : PySem.W.typeIn K (.ref cBadCase) = some (.type "type"))
    (gNoGain : PySem.W.nsIn K mainGlobals "NoGain" = some (some (.ref cNoGain)))
    (xNoGain : PySem.W.excIn K cNoGain [.type "ValueError", .type "Exception", .type "BaseException", .type "object"] "ValueError.__new__" = true)
    (kNoGain : PySem.W.keepIn K (.ref cNoGain) = true)
    (bNoGain : PySem.W.subIn K (.ref cNoGain) (.type "BaseException") = some true)
    (tNoGain : PySem.W.typeIn K (.ref cNoGain) = some (.type "type"))
    (gNeverMeet : PySem.W.nsIn K mainGlobals "NeverMeet" = some (some (.ref cNeverMeet)))
    (xNeverMeet : PySem.W.excIn K cNeverMeet [.type "ValueError", .type "Exception", .type "BaseException", .type "object"] "ValueError.__new__" = true)
    (kNeverMeet : PySem.W.keepIn K (.ref cNeverMeet) = true)
    (bNeverMeet : PySem.W.subIn K (.ref cNeverMeet) (.type "BaseException") = some true)
    (tNeverMeet : PySem.W.typeIn K (.ref cNeverMeet) = some (.type "type"))
    (mGG : PySem.W.exmOne K (.ref cNoGain) (.ref cNoGain) = some true)
    (mVG : PySem.W.exmOne K (.ref cNeverMeet) (.ref cNoGain) = some false)
    (mVV : PySem.W.exmOne K (.ref cNeverMeet) (.ref cNeverMeet) = some true)
    (a_is_whole : PySem.W.nsIn K mainGlobals "is_whole" = some (some (.ref f_is_whole)))
    (l_is_whole : K.lookup f_is_whole = some ⟨oc_is_whole, od_is_whole, .func (PySem.W.fnOf "is_whole" "is_whole" (defArgs s_is_whole) (defBody s_is_whole) (defScope s_is_whole) .none kV_is_whole dc_is_whole pm_is_whole an_is_whole cd_is_whole ct_is_whole), sl_is_whole⟩)
    (e_is_whole : PySem.W.codeIn K cd_is_whole "is_whole" = true)
    (k_is_whole : PySem.W.keepIn K (.ref f_is_whole) = true)
    (a_check_size : PySem.W.nsIn K mainGlobals "check_size" = some (some (.ref f_check_size)))
    (l_check_size : K.lookup f_check_size = some ⟨oc_check_size, od_check_size, .func (PySem.W.fnOf "check_size" "check_size" (defArgs s_check_size) (defBody s_check_size) (defScope s_check_size) .none kV_check_size dc_check_size pm_check_size an_check_size cd_check_size ct_check_size), sl_check_size⟩)
    (e_check_size : PySem.W.codeIn K cd_check_size "check_size" = true)
    (k_check_size : PySem.W.keepIn K (.ref f_check_size) = true)
    (a_check_delay : PySem.W.nsIn K mainGlobals "check_delay" = some (some (.ref f_check_delay)))
    (l_check_delay : K.lookup f_check_delay = some ⟨oc_check_delay, od_check_delay, .func (PySem.W.fnOf "check_delay" "check_delay" (defArgs s_check_delay) (defBody s_check_delay) (defScope s_check_delay) .none kV_check_delay dc_check_delay pm_check_delay an_check_delay cd_check_delay ct_check_delay), sl_check_delay⟩)
    (e_check_delay : PySem.W.codeIn K cd_check_delay "check_delay" = true)
    (k_check_delay : PySem.W.keepIn K (.ref f_check_delay) = true)
    (a_total : PySem.W.nsIn K mainGlobals "total" = some (some (.ref f_total)))
    (l_total : K.lookup f_total = some ⟨oc_total, od_total, .func (PySem.W.fnOf "total" "total" (defArgs s_total) (defBody s_total) (defScope s_total) .none kV_total dc_total pm_total an_total cd_total ct_total), sl_total⟩)
    (e_total : PySem.W.codeIn K cd_total "total" = true)
    (k_total : PySem.W.keepIn K (.ref f_total) = true)
    (a_Plan_way : PySem.W.findIn K (.ref cPlan) "way" = some (some (.ref f_Plan_way)))
    (i_Plan_way : PySem.W.isFn K (.ref f_Plan_way) = true)
    (l_Plan_way : K.lookup f_Plan_way = some ⟨oc_Plan_way, od_Plan_way, .func (PySem.W.fnOf "way" "Plan.way" (defArgs s_Plan_way) (defBody s_Plan_way) (defScope s_Plan_way) .none kV_Plan_way dc_Plan_way pm_Plan_way an_Plan_way cd_Plan_way ct_Plan_way), sl_Plan_way⟩)
    (e_Plan_way : PySem.W.codeIn K cd_Plan_way "Plan.way" = true)
    (k_Plan_way : PySem.W.keepIn K (.ref f_Plan_way) = true)
    (a_offset_at : PySem.W.nsIn K mainGlobals "offset_at" = some (some (.ref f_offset_at)))
    (l_offset_at : K.lookup f_offset_at = some ⟨oc_offset_at, od_offset_at, .func (PySem.W.fnOf "offset_at" "offset_at" (defArgs s_offset_at) (defBody s_offset_at) (defScope s_offset_at) .none kV_offset_at dc_offset_at pm_offset_at an_offset_at cd_offset_at ct_offset_at), sl_offset_at⟩)
    (e_offset_at : PySem.W.codeIn K cd_offset_at "offset_at" = true)
    (k_offset_at : PySem.W.keepIn K (.ref f_offset_at) = true)
    (a_common : PySem.W.nsIn K mainGlobals "common" = some (some (.ref f_common)))
    (l_common : K.lookup f_common = some ⟨oc_common, od_common, .func (PySem.W.fnOf "common" "common" (defArgs s_common) (defBody s_common) (defScope s_common) .none kV_common dc_common pm_common an_common cd_common ct_common), sl_common⟩)
    (e_common : PySem.W.codeIn K cd_common "common" = true)
    (k_common : PySem.W.keepIn K (.ref f_common) = true)
    (a_Plan_drift : PySem.W.findIn K (.ref cPlan) "drift" = some (some (.ref f_Plan_drift)))
    (i_Plan_drift : PySem.W.isFn K (.ref f_Plan_drift) = true)
    (l_Plan_drift : K.lookup f_Plan_drift = some ⟨oc_Plan_drift, od_Plan_drift, .func (PySem.W.fnOf "drift" "Plan.drift" (defArgs s_Plan_drift) (defBody s_Plan_drift) (defScope s_Plan_drift) .none kV_Plan_drift dc_Plan_drift pm_Plan_drift an_Plan_drift cd_Plan_drift ct_Plan_drift), sl_Plan_drift⟩)
    (e_Plan_drift : PySem.W.codeIn K cd_Plan_drift "Plan.drift" = true)
    (k_Plan_drift : PySem.W.keepIn K (.ref f_Plan_drift) = true)
    (a_pace : PySem.W.nsIn K mainGlobals "pace" = some (some (.ref f_pace)))
    (l_pace : K.lookup f_pace = some ⟨oc_pace, od_pace, .func (PySem.W.fnOf "pace" "pace" (defArgs s_pace) (defBody s_pace) (defScope s_pace) .none kV_pace dc_pace pm_pace an_pace cd_pace ct_pace), sl_pace⟩)
    (e_pace : PySem.W.codeIn K cd_pace "pace" = true)
    (k_pace : PySem.W.keepIn K (.ref f_pace) = true)
    (a_steady : PySem.W.nsIn K mainGlobals "steady" = some (some (.ref f_steady)))
    (l_steady : K.lookup f_steady = some ⟨oc_steady, od_steady, .func (PySem.W.fnOf "steady" "steady" (defArgs s_steady) (defBody s_steady) (defScope s_steady) .none kV_steady dc_steady pm_steady an_steady cd_steady ct_steady), sl_steady⟩)
    (e_steady : PySem.W.codeIn K cd_steady "steady" = true)
    (k_steady : PySem.W.keepIn K (.ref f_steady) = true)
    (a_all_rests : PySem.W.nsIn K mainGlobals "all_rests" = some (some (.ref f_all_rests)))
    (l_all_rests : K.lookup f_all_rests = some ⟨oc_all_rests, od_all_rests, .func (PySem.W.fnOf "all_rests" "all_rests" (defArgs s_all_rests) (defBody s_all_rests) (defScope s_all_rests) .none kV_all_rests dc_all_rests pm_all_rests an_all_rests cd_all_rests ct_all_rests), sl_all_rests⟩)
    (e_all_rests : PySem.W.codeIn K cd_all_rests "all_rests" = true)
    (k_all_rests : PySem.W.keepIn K (.ref f_all_rests) = true)
    (a_last_time : PySem.W.nsIn K mainGlobals "last_time" = some (some (.ref f_last_time)))
    (l_last_time : K.lookup f_last_time = some ⟨oc_last_time, od_last_time, .func (PySem.W.fnOf "last_time" "last_time" (defArgs s_last_time) (defBody s_last_time) (defScope s_last_time) .none kV_last_time dc_last_time pm_last_time an_last_time cd_last_time ct_last_time), sl_last_time⟩)
    (e_last_time : PySem.W.codeIn K cd_last_time "last_time" = true)
    (k_last_time : PySem.W.keepIn K (.ref f_last_time) = true)
    (a_least_times : PySem.W.nsIn K mainGlobals "least_times" = some (some (.ref f_least_times)))
    (l_least_times : K.lookup f_least_times = some ⟨oc_least_times, od_least_times, .func (PySem.W.fnOf "least_times" "least_times" (defArgs s_least_times) (defBody s_least_times) (defScope s_least_times) .none kV_least_times dc_least_times pm_least_times an_least_times cd_least_times ct_least_times), sl_least_times⟩)
    (e_least_times : PySem.W.codeIn K cd_least_times "least_times" = true)
    (k_least_times : PySem.W.keepIn K (.ref f_least_times) = true)
    (a_is_full : PySem.W.nsIn K mainGlobals "is_full" = some (some (.ref f_is_full)))
    (l_is_full : K.lookup f_is_full = some ⟨oc_is_full, od_is_full, .func (PySem.W.fnOf "is_full" "is_full" (defArgs s_is_full) (defBody s_is_full) (defScope s_is_full) .none kV_is_full dc_is_full pm_is_full an_is_full cd_is_full ct_is_full), sl_is_full⟩)
    (e_is_full : PySem.W.codeIn K cd_is_full "is_full" = true)
    (k_is_full : PySem.W.keepIn K (.ref f_is_full) = true)
    (a_greatest_time : PySem.W.nsIn K mainGlobals "greatest_time" = some (some (.ref f_greatest_time)))
    (l_greatest_time : K.lookup f_greatest_time = some ⟨oc_greatest_time, od_greatest_time, .func (PySem.W.fnOf "greatest_time" "greatest_time" (defArgs s_greatest_time) (defBody s_greatest_time) (defScope s_greatest_time) .none kV_greatest_time dc_greatest_time pm_greatest_time an_greatest_time cd_greatest_time ct_greatest_time), sl_greatest_time⟩)
    (e_greatest_time : PySem.W.codeIn K cd_greatest_time "greatest_time" = true)
    (k_greatest_time : PySem.W.keepIn K (.ref f_greatest_time) = true)
    (a_latest : PySem.W.nsIn K mainGlobals "latest" = some (some (.ref f_latest)))
    (l_latest : K.lookup f_latest = some ⟨oc_latest, od_latest, .func (PySem.W.fnOf "latest" "latest" (defArgs s_latest) (defBody s_latest) (defScope s_latest) .none kV_latest dc_latest pm_latest an_latest cd_latest ct_latest), sl_latest⟩)
    (e_latest : PySem.W.codeIn K cd_latest "latest" = true)
    (k_latest : PySem.W.keepIn K (.ref f_latest) = true)
    (a_check_pattern : PySem.W.nsIn K mainGlobals "check_pattern" = some (some (.ref f_check_pattern)))
    (l_check_pattern : K.lookup f_check_pattern = some ⟨oc_check_pattern, od_check_pattern, .func (PySem.W.fnOf "check_pattern" "check_pattern" (defArgs s_check_pattern) (defBody s_check_pattern) (defScope s_check_pattern) .none kV_check_pattern dc_check_pattern pm_check_pattern an_check_pattern cd_check_pattern ct_check_pattern), sl_check_pattern⟩)
    (e_check_pattern : PySem.W.codeIn K cd_check_pattern "check_pattern" = true)
    (k_check_pattern : PySem.W.keepIn K (.ref f_check_pattern) = true)
    (a_far_size : PySem.W.nsIn K mainGlobals "far_size" = some (some (.ref f_far_size)))
    (l_far_size : K.lookup f_far_size = some ⟨oc_far_size, od_far_size, .func (PySem.W.fnOf "far_size" "far_size" (defArgs s_far_size) (defBody s_far_size) (defScope s_far_size) .none kV_far_size dc_far_size pm_far_size an_far_size cd_far_size ct_far_size), sl_far_size⟩)
    (e_far_size : PySem.W.codeIn K cd_far_size "far_size" = true)
    (k_far_size : PySem.W.keepIn K (.ref f_far_size) = true)
    (a_first_times : PySem.W.nsIn K mainGlobals "first_times" = some (some (.ref f_first_times)))
    (l_first_times : K.lookup f_first_times = some ⟨oc_first_times, od_first_times, .func (PySem.W.fnOf "first_times" "first_times" (defArgs s_first_times) (defBody s_first_times) (defScope s_first_times) .none kV_first_times dc_first_times pm_first_times an_first_times cd_first_times ct_first_times), sl_first_times⟩)
    (e_first_times : PySem.W.codeIn K cd_first_times "first_times" = true)
    (k_first_times : PySem.W.keepIn K (.ref f_first_times) = true)
    (a_greatest_by : PySem.W.nsIn K mainGlobals "greatest_by" = some (some (.ref f_greatest_by)))
    (l_greatest_by : K.lookup f_greatest_by = some ⟨oc_greatest_by, od_greatest_by, .func (PySem.W.fnOf "greatest_by" "greatest_by" (defArgs s_greatest_by) (defBody s_greatest_by) (defScope s_greatest_by) .none kV_greatest_by dc_greatest_by pm_greatest_by an_greatest_by cd_greatest_by ct_greatest_by), sl_greatest_by⟩)
    (e_greatest_by : PySem.W.codeIn K cd_greatest_by "greatest_by" = true)
    (k_greatest_by : PySem.W.keepIn K (.ref f_greatest_by) = true)
    (a_least_start : PySem.W.nsIn K mainGlobals "least_start" = some (some (.ref f_least_start)))
    (l_least_start : K.lookup f_least_start = some ⟨oc_least_start, od_least_start, .func (PySem.W.fnOf "least_start" "least_start" (defArgs s_least_start) (defBody s_least_start) (defScope s_least_start) .none kV_least_start dc_least_start pm_least_start an_least_start cd_least_start ct_least_start), sl_least_start⟩)
    (e_least_start : PySem.W.codeIn K cd_least_start "least_start" = true)
    (k_least_start : PySem.W.keepIn K (.ref f_least_start) = true)
    (a_pattern : PySem.W.nsIn K mainGlobals "pattern" = some (some (.ref f_pattern)))
    (l_pattern : K.lookup f_pattern = some ⟨oc_pattern, od_pattern, .func (PySem.W.fnOf "pattern" "pattern" (defArgs s_pattern) (defBody s_pattern) (defScope s_pattern) .none kV_pattern dc_pattern pm_pattern an_pattern cd_pattern ct_pattern), sl_pattern⟩)
    (e_pattern : PySem.W.codeIn K cd_pattern "pattern" = true)
    (k_pattern : PySem.W.keepIn K (.ref f_pattern) = true)
    (a_latest_by : PySem.W.nsIn K mainGlobals "latest_by" = some (some (.ref f_latest_by)))
    (l_latest_by : K.lookup f_latest_by = some ⟨oc_latest_by, od_latest_by, .func (PySem.W.fnOf "latest_by" "latest_by" (defArgs s_latest_by) (defBody s_latest_by) (defScope s_latest_by) .none kV_latest_by dc_latest_by pm_latest_by an_latest_by cd_latest_by ct_latest_by), sl_latest_by⟩)
    (e_latest_by : PySem.W.codeIn K cd_latest_by "latest_by" = true)
    (k_latest_by : PySem.W.keepIn K (.ref f_latest_by) = true)
    (a_are_steps : PySem.W.nsIn K mainGlobals "are_steps" = some (some (.ref f_are_steps)))
    (l_are_steps : K.lookup f_are_steps = some ⟨oc_are_steps, od_are_steps, .func (PySem.W.fnOf "are_steps" "are_steps" (defArgs s_are_steps) (defBody s_are_steps) (defScope s_are_steps) .none kV_are_steps dc_are_steps pm_are_steps an_are_steps cd_are_steps ct_are_steps), sl_are_steps⟩)
    (e_are_steps : PySem.W.codeIn K cd_are_steps "are_steps" = true)
    (k_are_steps : PySem.W.keepIn K (.ref f_are_steps) = true)
    (a_Plan_init : PySem.W.findIn K (.ref cPlan) "__init__" = some (some (.ref f_Plan_init)))
    (i_Plan_init : PySem.W.isFn K (.ref f_Plan_init) = true)
    (l_Plan_init : K.lookup f_Plan_init = some ⟨oc_Plan_init, od_Plan_init, .func (PySem.W.fnOf "__init__" "Plan.__init__" (defArgs s_Plan_init) (defBody s_Plan_init) (defScope s_Plan_init) .none kV_Plan_init dc_Plan_init pm_Plan_init an_Plan_init cd_Plan_init ct_Plan_init), sl_Plan_init⟩)
    (e_Plan_init : PySem.W.codeIn K cd_Plan_init "Plan.__init__" = true)
    (k_Plan_init : PySem.W.keepIn K (.ref f_Plan_init) = true)
    (a_l_begin : PySem.W.nsIn K mainGlobals "_law_begin" = some (some (.ref f_l_begin)))
    (l_l_begin : K.lookup f_l_begin = some ⟨oc_l_begin, od_l_begin, .func (PySem.W.fnOf "_law_begin" "_law_begin" (defArgs s_l_begin) (defBody s_l_begin) (defScope s_l_begin) .none kV_l_begin dc_l_begin pm_l_begin an_l_begin cd_l_begin ct_l_begin), sl_l_begin⟩)
    (e_l_begin : PySem.W.codeIn K cd_l_begin "_law_begin" = true)
    (k_l_begin : PySem.W.keepIn K (.ref f_l_begin) = true)
    (a_l_draw : PySem.W.nsIn K mainGlobals "_law_draw" = some (some (.ref f_l_draw)))
    (l_l_draw : K.lookup f_l_draw = some ⟨oc_l_draw, od_l_draw, .func (PySem.W.fnOf "_law_draw" "_law_draw" (defArgs s_l_draw) (defBody s_l_draw) (defScope s_l_draw) .none kV_l_draw dc_l_draw pm_l_draw an_l_draw cd_l_draw ct_l_draw), sl_l_draw⟩)
    (e_l_draw : PySem.W.codeIn K cd_l_draw "_law_draw" = true)
    (k_l_draw : PySem.W.keepIn K (.ref f_l_draw) = true)
    (a_l_steps : PySem.W.nsIn K mainGlobals "_law_steps" = some (some (.ref f_l_steps)))
    (l_l_steps : K.lookup f_l_steps = some ⟨oc_l_steps, od_l_steps, .func (PySem.W.fnOf "_law_steps" "_law_steps" (defArgs s_l_steps) (defBody s_l_steps) (defScope s_l_steps) .none kV_l_steps dc_l_steps pm_l_steps an_l_steps cd_l_steps ct_l_steps), sl_l_steps⟩)
    (e_l_steps : PySem.W.codeIn K cd_l_steps "_law_steps" = true)
    (k_l_steps : PySem.W.keepIn K (.ref f_l_steps) = true)
    (a_l_make : PySem.W.nsIn K mainGlobals "_law_make" = some (some (.ref f_l_make)))
    (l_l_make : K.lookup f_l_make = some ⟨oc_l_make, od_l_make, .func (PySem.W.fnOf "_law_make" "_law_make" (defArgs s_l_make) (defBody s_l_make) (defScope s_l_make) .none kV_l_make dc_l_make pm_l_make an_l_make cd_l_make ct_l_make), sl_l_make⟩)
    (e_l_make : PySem.W.codeIn K cd_l_make "_law_make" = true)
    (k_l_make : PySem.W.keepIn K (.ref f_l_make) = true)
    (a_l_way : PySem.W.nsIn K mainGlobals "_law_way" = some (some (.ref f_l_way)))
    (l_l_way : K.lookup f_l_way = some ⟨oc_l_way, od_l_way, .func (PySem.W.fnOf "_law_way" "_law_way" (defArgs s_l_way) (defBody s_l_way) (defScope s_l_way) .none kV_l_way dc_l_way pm_l_way an_l_way cd_l_way ct_l_way), sl_l_way⟩)
    (e_l_way : PySem.W.codeIn K cd_l_way "_law_way" = true)
    (k_l_way : PySem.W.keepIn K (.ref f_l_way) = true)
    (a_l_ways : PySem.W.nsIn K mainGlobals "_law_ways" = some (some (.ref f_l_ways)))
    (l_l_ways : K.lookup f_l_ways = some ⟨oc_l_ways, od_l_ways, .func (PySem.W.fnOf "_law_ways" "_law_ways" (defArgs s_l_ways) (defBody s_l_ways) (defScope s_l_ways) .none kV_l_ways dc_l_ways pm_l_ways an_l_ways cd_l_ways ct_l_ways), sl_l_ways⟩)
    (e_l_ways : PySem.W.codeIn K cd_l_ways "_law_ways" = true)
    (k_l_ways : PySem.W.keepIn K (.ref f_l_ways) = true)
    (a_l_offsets : PySem.W.nsIn K mainGlobals "_law_offsets" = some (some (.ref f_l_offsets)))
    (l_l_offsets : K.lookup f_l_offsets = some ⟨oc_l_offsets, od_l_offsets, .func (PySem.W.fnOf "_law_offsets" "_law_offsets" (defArgs s_l_offsets) (defBody s_l_offsets) (defScope s_l_offsets) .none kV_l_offsets dc_l_offsets pm_l_offsets an_l_offsets cd_l_offsets ct_l_offsets), sl_l_offsets⟩)
    (e_l_offsets : PySem.W.codeIn K cd_l_offsets "_law_offsets" = true)
    (k_l_offsets : PySem.W.keepIn K (.ref f_l_offsets) = true)
    (a_l_common : PySem.W.nsIn K mainGlobals "_law_common" = some (some (.ref f_l_common)))
    (l_l_common : K.lookup f_l_common = some ⟨oc_l_common, od_l_common, .func (PySem.W.fnOf "_law_common" "_law_common" (defArgs s_l_common) (defBody s_l_common) (defScope s_l_common) .none kV_l_common dc_l_common pm_l_common an_l_common cd_l_common ct_l_common), sl_l_common⟩)
    (e_l_common : PySem.W.codeIn K cd_l_common "_law_common" = true)
    (k_l_common : PySem.W.keepIn K (.ref f_l_common) = true)
    (a_l_pace : PySem.W.nsIn K mainGlobals "_law_pace" = some (some (.ref f_l_pace)))
    (l_l_pace : K.lookup f_l_pace = some ⟨oc_l_pace, od_l_pace, .func (PySem.W.fnOf "_law_pace" "_law_pace" (defArgs s_l_pace) (defBody s_l_pace) (defScope s_l_pace) .none kV_l_pace dc_l_pace pm_l_pace an_l_pace cd_l_pace ct_l_pace), sl_l_pace⟩)
    (e_l_pace : PySem.W.codeIn K cd_l_pace "_law_pace" = true)
    (k_l_pace : PySem.W.keepIn K (.ref f_l_pace) = true)
    (a_l_times : PySem.W.nsIn K mainGlobals "_law_times" = some (some (.ref f_l_times)))
    (l_l_times : K.lookup f_l_times = some ⟨oc_l_times, od_l_times, .func (PySem.W.fnOf "_law_times" "_law_times" (defArgs s_l_times) (defBody s_l_times) (defScope s_l_times) .none kV_l_times dc_l_times pm_l_times an_l_times cd_l_times ct_l_times), sl_l_times⟩)
    (e_l_times : PySem.W.codeIn K cd_l_times "_law_times" = true)
    (k_l_times : PySem.W.keepIn K (.ref f_l_times) = true)
    (a_l_like : PySem.W.nsIn K mainGlobals "_law_like" = some (some (.ref f_l_like)))
    (l_l_like : K.lookup f_l_like = some ⟨oc_l_like, od_l_like, .func (PySem.W.fnOf "_law_like" "_law_like" (defArgs s_l_like) (defBody s_l_like) (defScope s_l_like) .none kV_l_like dc_l_like pm_l_like an_l_like cd_l_like ct_l_like), sl_l_like⟩)
    (e_l_like : PySem.W.codeIn K cd_l_like "_law_like" = true)
    (k_l_like : PySem.W.keepIn K (.ref f_l_like) = true)
    (a_l_told : PySem.W.nsIn K mainGlobals "_law_told" = some (some (.ref f_l_told)))
    (l_l_told : K.lookup f_l_told = some ⟨oc_l_told, od_l_told, .func (PySem.W.fnOf "_law_told" "_law_told" (defArgs s_l_told) (defBody s_l_told) (defScope s_l_told) .none kV_l_told dc_l_told pm_l_told an_l_told cd_l_told ct_l_told), sl_l_told⟩)
    (e_l_told : PySem.W.codeIn K cd_l_told "_law_told" = true)
    (k_l_told : PySem.W.keepIn K (.ref f_l_told) = true)
    (a_l_latest : PySem.W.nsIn K mainGlobals "_law_latest" = some (some (.ref f_l_latest)))
    (l_l_latest : K.lookup f_l_latest = some ⟨oc_l_latest, od_l_latest, .func (PySem.W.fnOf "_law_latest" "_law_latest" (defArgs s_l_latest) (defBody s_l_latest) (defScope s_l_latest) .none kV_l_latest dc_l_latest pm_l_latest an_l_latest cd_l_latest ct_l_latest), sl_l_latest⟩)
    (e_l_latest : PySem.W.codeIn K cd_l_latest "_law_latest" = true)
    (k_l_latest : PySem.W.keepIn K (.ref f_l_latest) = true)
    (a_l_full : PySem.W.nsIn K mainGlobals "_law_full" = some (some (.ref f_l_full)))
    (l_l_full : K.lookup f_l_full = some ⟨oc_l_full, od_l_full, .func (PySem.W.fnOf "_law_full" "_law_full" (defArgs s_l_full) (defBody s_l_full) (defScope s_l_full) .none kV_l_full dc_l_full pm_l_full an_l_full cd_l_full ct_l_full), sl_l_full⟩)
    (e_l_full : PySem.W.codeIn K cd_l_full "_law_full" = true)
    (k_l_full : PySem.W.keepIn K (.ref f_l_full) = true)
    (a_law : PySem.W.nsIn K mainGlobals "law" = some (some (.ref f_law)))
    (l_law : K.lookup f_law = some ⟨oc_law, od_law, .func (PySem.W.fnOf "law" "law" (defArgs s_law) (defBody s_law) (defScope s_law) .none kV_law dc_law pm_law an_law cd_law ct_law), sl_law⟩)
    (e_law : PySem.W.codeIn K cd_law "law" = true)
    (k_law : PySem.W.keepIn K (.ref f_law) = true)
    : ∃ fd : FuncData, (∀ (s : Shared) (v : Value), BindsTo s fd ⟨[v], []⟩ [("_law_script", v)]) ∧ ∀ base : Heap, K.In base → base.Ns mainGlobals mg → FnOk l.prog w K mg base CX0 9 fa fd ["_law_script"] (spLaw K) := by
  have e := hfa.symm.trans (PySem.W.mg_of X G a_law)
  cases e
  let T : Tx K mg w := ⟨PySem.W.mg_none_of X G z_isinstance,
    PySem.W.mg_none_of X G z_len,
    PySem.W.mg_none_of X G z_abs,
    PySem.W.mg_none_of X G z_max,
    PySem.W.mg_none_of X G z_min,
    PySem.W.mg_none_of X G z_sum,
    PySem.W.mg_none_of X G z_all,
    PySem.W.mg_none_of X G z_sorted,
    PySem.W.mg_none_of X G z_int,
    PySem.W.mg_none_of X G z_bool,
    PySem.W.mg_none_of X G z_str,
    PySem.W.mg_none_of X G z_list,
    PySem.W.mg_none_of X G z_dict,
    PySem.W.mg_none_of X G z_tuple,
    PySem.W.mg_none_of X G z_set,
    PySem.W.mg_none_of X G z_range,
    aS,
    PySem.W.mg_of X G gS,
    ⟨⟨t1, t2, t3, u1, u2, u3, nS, lS⟩, wS⟩,
    ⟨_, PySem.W.mg_of X G gM, ⟨_, rfl⟩⟩,
    cPlan,
    PySem.W.mg_of X G gPlan,
    ⟨pgPlan, hdPlan, poPlan, saPlan⟩,
    nPlanhead,
    nPlanring,
    isPlan,
    mrPlan,
    spc,
    tks,
    cMeetError,
    PySem.W.mg_of X G gMeetError,
    xMeetError,
    kMeetError,
    bMeetError,
    tMeetError,
    cBadPlan,
    PySem.W.mg_of X G gBadPlan,
    xBadPlan,
    kBadPlan,
    bBadPlan,
    tBadPlan,
    cBadCase,
    PySem.W.mg_of X G gBadCase,
    xBadCase,
    kBadCase,
    bBadCase,
    tBadCase,
    cNoGain,
    PySem.W.mg_of X G gNoGain,
    xNoGain,
    kNoGain,
    bNoGain,
    tNoGain,
    cNeverMeet,
    PySem.W.mg_of X G gNeverMeet,
    xNeverMeet,
    kNeverMeet,
    bNeverMeet,
    tNeverMeet,
    mGG,
    mVG,
    mVV⟩
  have F_is_whole := fun_mk (st := s_is_whole) l_is_whole e_is_whole k_is_whole
  have B_is_whole := F_is_whole.binds (ps := ["thing"]) fun _ _ _ _ _ _ us hl => match us, hl with | [_], _ => rfl
  have F_check_size := fun_mk (st := s_check_size) l_check_size e_check_size k_check_size
  have B_check_size := F_check_size.binds (ps := ["n"]) fun _ _ _ _ _ _ us hl => match us, hl with | [_], _ => rfl
  have F_check_delay := fun_mk (st := s_check_delay) l_check_delay e_check_delay k_check_delay
  have B_check_delay := F_check_delay.binds (ps := ["d"]) fun _ _ _ _ _ _ us hl => match us, hl with | [_], _ => rfl
  have F_total := fun_mk (st := s_total) l_total e_total k_total
  have B_total := F_total.binds (ps := ["steps"]) fun _ _ _ _ _ _ us hl => match us, hl with | [_], _ => rfl
  have F_Plan_way := fun_mk (st := s_Plan_way) l_Plan_way e_Plan_way k_Plan_way
  have B_Plan_way := F_Plan_way.binds (ps := ["self", "t"]) fun _ _ _ _ _ _ us hl => match us, hl with | [_, _], _ => rfl
  have F_offset_at := fun_mk (st := s_offset_at) l_offset_at e_offset_at k_offset_at
  have B_offset_at := F_offset_at.binds (ps := ["one", "two", "d", "t"]) fun _ _ _ _ _ _ us hl => match us, hl with | [_, _, _, _], _ => rfl
  have F_common := fun_mk (st := s_common) l_common e_common k_common
  have B_common := F_common.binds (ps := ["one", "other"]) fun _ _ _ _ _ _ us hl => match us, hl with | [_, _], _ => rfl
  have F_Plan_drift := fun_mk (st := s_Plan_drift) l_Plan_drift e_Plan_drift k_Plan_drift
  have B_Plan_drift := F_Plan_drift.binds (ps := ["self"]) fun _ _ _ _ _ _ us hl => match us, hl with | [_], _ => rfl
  have F_pace := fun_mk (st := s_pace) l_pace e_pace k_pace
  have B_pace := F_pace.binds (ps := ["one", "two"]) fun _ _ _ _ _ _ us hl => match us, hl with | [_, _], _ => rfl
  have F_steady := fun_mk (st := s_steady) l_steady e_steady k_steady
  have B_steady := F_steady.binds (ps := ["one", "two", "d"]) fun _ _ _ _ _ _ us hl => match us, hl with | [_, _, _], _ => rfl
  have F_all_rests := fun_mk (st := s_all_rests) l_all_rests e_all_rests k_all_rests
  have B_all_rests := F_all_rests.binds (ps := ["one", "two", "d"]) fun _ _ _ _ _ _ us hl => match us, hl with | [_, _, _], _ => rfl
  have F_last_time := fun_mk (st := s_last_time) l_last_time e_last_time k_last_time
  have B_last_time := F_last_time.binds (ps := ["one", "two", "n", "d"]) fun _ _ _ _ _ _ us hl => match us, hl with | [_, _, _, _], _ => rfl
  have F_least_times := fun_mk (st := s_least_times) l_least_times e_least_times k_least_times
  have B_least_times := F_least_times.binds (ps := ["one", "two", "n", "d"]) fun _ _ _ _ _ _ us hl => match us, hl with | [_, _, _, _], _ => rfl
  have F_is_full := fun_mk (st := s_is_full) l_is_full e_is_full k_is_full
  have B_is_full := F_is_full.binds (ps := ["one", "two", "d"]) fun _ _ _ _ _ _ us hl => match us, hl with | [_, _, _], _ => rfl
  have F_greatest_time := fun_mk (st := s_greatest_time) l_greatest_time e_greatest_time k_greatest_time
  have B_greatest_time := F_greatest_time.binds (ps := ["one", "two", "n", "d"]) fun _ _ _ _ _ _ us hl => match us, hl with | [_, _, _, _], _ => rfl
  have F_latest := fun_mk (st := s_latest) l_latest e_latest k_latest
  have B_latest := F_latest.binds (ps := ["one", "two", "n", "d"]) fun _ _ _ _ _ _ us hl => match us, hl with | [_, _, _, _], _ => rfl
  have F_check_pattern := fun_mk (st := s_check_pattern) l_check_pattern e_check_pattern k_check_pattern
  have B_check_pattern := F_check_pattern.binds (ps := ["one", "two", "d"]) fun _ _ _ _ _ _ us hl => match us, hl with | [_, _, _], _ => rfl
  have F_far_size := fun_mk (st := s_far_size) l_far_size e_far_size k_far_size
  have B_far_size := F_far_size.binds (ps := ["one", "two", "d"]) fun _ _ _ _ _ _ us hl => match us, hl with | [_, _, _], _ => rfl
  have F_first_times := fun_mk (st := s_first_times) l_first_times e_first_times k_first_times
  have B_first_times := F_first_times.binds (ps := ["one", "two", "d", "most"]) fun _ _ _ _ _ _ us hl => match us, hl with | [_, _, _, _], _ => rfl
  have F_greatest_by := fun_mk (st := s_greatest_by) l_greatest_by e_greatest_by k_greatest_by
  have B_greatest_by := F_greatest_by.binds (ps := ["times", "n"]) fun _ _ _ _ _ _ us hl => match us, hl with | [_, _], _ => rfl
  have F_least_start := fun_mk (st := s_least_start) l_least_start e_least_start k_least_start
  have B_least_start := F_least_start.binds (ps := ["one", "two", "d"]) fun _ _ _ _ _ _ us hl => match us, hl with | [_, _, _], _ => rfl
  have F_pattern := fun_mk (st := s_pattern) l_pattern e_pattern k_pattern
  have B_pattern := F_pattern.binds (ps := ["one", "two", "d"]) fun _ _ _ _ _ _ us hl => match us, hl with | [_, _, _], _ => rfl
  have F_latest_by := fun_mk (st := s_latest_by) l_latest_by e_latest_by k_latest_by
  have B_latest_by := F_latest_by.binds (ps := ["one", "two", "d", "n"]) fun _ _ _ _ _ _ us hl => match us, hl with | [_, _, _, _], _ => rfl
  have F_are_steps := fun_mk (st := s_are_steps) l_are_steps e_are_steps k_are_steps
  have B_are_steps := F_are_steps.binds (ps := ["thing", "least"]) fun _ _ _ _ _ _ us hl => match us, hl with | [_, _], _ => rfl
  have F_Plan_init := fun_mk (st := s_Plan_init) l_Plan_init e_Plan_init k_Plan_init
  have B_Plan_init := F_Plan_init.binds (ps := ["self", "head", "ring"]) fun _ _ _ _ _ _ us hl => match us, hl with | [_, _, _], _ => rfl
  have F_l_begin := fun_mk (st := s_l_begin) l_l_begin e_l_begin k_l_begin
  have B_l_begin := F_l_begin.binds (ps := ["_law_script"]) fun _ _ _ _ _ _ us hl => match us, hl with | [_], _ => rfl
  have F_l_draw := fun_mk (st := s_l_draw) l_l_draw e_l_draw k_l_draw
  have B_l_draw := F_l_draw.binds (ps := ["_law_draws", "_law_size"]) fun _ _ _ _ _ _ us hl => match us, hl with | [_, _], _ => rfl
  have F_l_steps := fun_mk (st := s_l_steps) l_l_steps e_l_steps k_l_steps
  have B_l_steps := F_l_steps.binds (ps := ["_law_draws", "_law_least", "_law_most"]) fun _ _ _ _ _ _ us hl => match us, hl with | [_, _, _], _ => rfl
  have F_l_make := fun_mk (st := s_l_make) l_l_make e_l_make k_l_make
  have B_l_make := F_l_make.binds (ps := ["_law_parts_here"]) fun _ _ _ _ _ _ us hl => match us, hl with | [_], _ => rfl
  have F_l_way := fun_mk (st := s_l_way) l_l_way e_l_way k_l_way
  have B_l_way := F_l_way.binds (ps := ["_law_parts_here", "_law_t"]) fun _ _ _ _ _ _ us hl => match us, hl with | [_, _], _ => rfl
  have F_l_ways := fun_mk (st := s_l_ways) l_l_ways e_l_ways k_l_ways
  have B_l_ways := F_l_ways.binds (ps := ["_law_parts_here", "_law_most"]) fun _ _ _ _ _ _ us hl => match us, hl with | [_, _], _ => rfl
  have F_l_offsets := fun_mk (st := s_l_offsets) l_l_offsets e_l_offsets k_l_offsets
  have B_l_offsets := F_l_offsets.binds (ps := ["_law_one", "_law_two", "_law_d", "_law_most"]) fun _ _ _ _ _ _ us hl => match us, hl with | [_, _, _, _], _ => rfl
  have F_l_common := fun_mk (st := s_l_common) l_l_common e_l_common k_l_common
  have B_l_common := F_l_common.binds (ps := ["_law_one", "_law_other"]) fun _ _ _ _ _ _ us hl => match us, hl with | [_, _], _ => rfl
  have F_l_pace := fun_mk (st := s_l_pace) l_l_pace e_l_pace k_l_pace
  have B_l_pace := F_l_pace.binds (ps := ["_law_one", "_law_two"]) fun _ _ _ _ _ _ us hl => match us, hl with | [_, _], _ => rfl
  have F_l_times := fun_mk (st := s_l_times) l_l_times e_l_times k_l_times
  have B_l_times := F_l_times.binds (ps := ["_law_one", "_law_two", "_law_n", "_law_d"]) fun _ _ _ _ _ _ us hl => match us, hl with | [_, _, _, _], _ => rfl
  have F_l_like := fun_mk (st := s_l_like) l_l_like e_l_like k_l_like
  have B_l_like := F_l_like.binds (ps := ["_law_actual", "_law_due"]) fun _ _ _ _ _ _ us hl => match us, hl with | [_, _], _ => rfl
  have F_l_told := fun_mk (st := s_l_told) l_l_told e_l_told k_l_told
  have B_l_told := F_l_told.binds (ps := ["_law_one", "_law_two", "_law_d"]) fun _ _ _ _ _ _ us hl => match us, hl with | [_, _, _], _ => rfl
  have F_l_latest := fun_mk (st := s_l_latest) l_l_latest e_l_latest k_l_latest
  have B_l_latest := F_l_latest.binds (ps := ["_law_one", "_law_two", "_law_n", "_law_d"]) fun _ _ _ _ _ _ us hl => match us, hl with | [_, _, _, _], _ => rfl
  have F_l_full := fun_mk (st := s_l_full) l_l_full e_l_full k_l_full
  have B_l_full := F_l_full.binds (ps := ["_law_one", "_law_two", "_law_d"]) fun _ _ _ _ _ _ us hl => match us, hl with | [_, _, _], _ => rfl
  exact ⟨PySem.W.fnOf "law" "law" (defArgs s_law) (defBody s_law) (defScope s_law) .none kV_law dc_law pm_law an_law cd_law ct_law, fun s v => .of_eq rfl, fun base _ _ => by
    have o_is_whole := ok_is_whole (P := l.prog) (base := base) F_is_whole T 
    have c_is_whole : Cal _ _ _ _ _ _ _ _ _ := ⟨_, _, _, o_is_whole, PySem.W.mg_of X G a_is_whole, k_is_whole, B_is_whole⟩
    have o_check_size := ok_check_size (P := l.prog) (base := base) F_check_size T c_is_whole
    have c_check_size : Cal _ _ _ _ _ _ _ _ _ := ⟨_, _, _, o_check_size, PySem.W.mg_of X G a_check_size, k_check_size, B_check_size⟩
    have o_check_delay := ok_check_delay (P := l.prog) (base := base) F_check_delay T c_is_whole
    have c_check_delay : Cal _ _ _ _ _ _ _ _ _ := ⟨_, _, _, o_check_delay, PySem.W.mg_of X G a_check_delay, k_check_delay, B_check_delay⟩
    have o_total := ok_total (P := l.prog) (base := base) F_total T 
    have c_total : Cal _ _ _ _ _ _ _ _ _ := ⟨_, _, _, o_total, PySem.W.mg_of X G a_total, k_total, B_total⟩
    have o_Plan_way := ok_Plan_way (P := l.prog) (base := base) F_Plan_way T c_total
    have m_Plan_way : Mth _ _ _ _ _ _ _ _ _ _ := ⟨_, _, _, T.clPlan, ⟨a_Plan_way, i_Plan_way, k_Plan_way⟩, o_Plan_way, B_Plan_way⟩
    have o_offset_at := ok_offset_at (P := l.prog) (base := base) F_offset_at T m_Plan_way
    have c_offset_at : Cal _ _ _ _ _ _ _ _ _ := ⟨_, _, _, o_offset_at, PySem.W.mg_of X G a_offset_at, k_offset_at, B_offset_at⟩
    have o_common := ok_common (P := l.prog) (base := base) F_common T 
    have c_common : Cal _ _ _ _ _ _ _ _ _ := ⟨_, _, _, o_common, PySem.W.mg_of X G a_common, k_common, B_common⟩
    have o_Plan_drift := ok_Plan_drift (P := l.prog) (base := base) F_Plan_drift T c_total
    have m_Plan_drift : Mth _ _ _ _ _ _ _ _ _ _ := ⟨_, _, _, T.clPlan, ⟨a_Plan_drift, i_Plan_drift, k_Plan_drift⟩, o_Plan_drift, B_Plan_drift⟩
    have o_pace := ok_pace (P := l.prog) (base := base) F_pace T c_common m_Plan_drift
    have c_pace : Cal _ _ _ _ _ _ _ _ _ := ⟨_, _, _, o_pace, PySem.W.mg_of X G a_pace, k_pace, B_pace⟩
    have o_steady := ok_steady (P := l.prog) (base := base) F_steady T 
    have c_steady : Cal _ _ _ _ _ _ _ _ _ := ⟨_, _, _, o_steady, PySem.W.mg_of X G a_steady, k_steady, B_steady⟩
    have o_all_rests := ok_all_rests (P := l.prog) (base := base) F_all_rests T c_pace c_steady c_offset_at
    have c_all_rests : Cal _ _ _ _ _ _ _ _ _ := ⟨_, _, _, o_all_rests, PySem.W.mg_of X G a_all_rests, k_all_rests, B_all_rests⟩
    have o_last_time := ok_last_time (P := l.prog) (base := base) F_last_time T c_steady c_pace
    have c_last_time : Cal _ _ _ _ _ _ _ _ _ := ⟨_, _, _, o_last_time, PySem.W.mg_of X G a_last_time, k_last_time, B_last_time⟩
    have o_least_times := ok_least_times (P := l.prog) (base := base) F_least_times T c_last_time c_offset_at
    have c_least_times : Cal _ _ _ _ _ _ _ _ _ := ⟨_, _, _, o_least_times, PySem.W.mg_of X G a_least_times, k_least_times, B_least_times⟩
    have o_is_full := ok_is_full (P := l.prog) (base := base) F_is_full T c_all_rests c_pace
    have c_is_full : Cal _ _ _ _ _ _ _ _ _ := ⟨_, _, _, o_is_full, PySem.W.mg_of X G a_is_full, k_is_full, B_is_full⟩
    have o_greatest_time := ok_greatest_time (P := l.prog) (base := base) F_greatest_time T c_least_times
    have c_greatest_time : Cal _ _ _ _ _ _ _ _ _ := ⟨_, _, _, o_greatest_time, PySem.W.mg_of X G a_greatest_time, k_greatest_time, B_greatest_time⟩
    have o_latest := ok_latest (P := l.prog) (base := base) F_latest T c_check_size c_check_delay c_greatest_time
    have c_latest : Cal _ _ _ _ _ _ _ _ _ := ⟨_, _, _, o_latest, PySem.W.mg_of X G a_latest, k_latest, B_latest⟩
    have o_check_pattern := ok_check_pattern (P := l.prog) (base := base) F_check_pattern T c_check_delay c_pace c_is_full
    have c_check_pattern : Cal _ _ _ _ _ _ _ _ _ := ⟨_, _, _, o_check_pattern, PySem.W.mg_of X G a_check_pattern, k_check_pattern, B_check_pattern⟩
    have o_far_size := ok_far_size (P := l.prog) (base := base) F_far_size T c_pace c_steady c_offset_at
    have c_far_size : Cal _ _ _ _ _ _ _ _ _ := ⟨_, _, _, o_far_size, PySem.W.mg_of X G a_far_size, k_far_size, B_far_size⟩
    have o_first_times := ok_first_times (P := l.prog) (base := base) F_first_times T c_offset_at
    have c_first_times : Cal _ _ _ _ _ _ _ _ _ := ⟨_, _, _, o_first_times, PySem.W.mg_of X G a_first_times, k_first_times, B_first_times⟩
    have o_greatest_by := ok_greatest_by (P := l.prog) (base := base) F_greatest_by T 
    have c_greatest_by : Cal _ _ _ _ _ _ _ _ _ := ⟨_, _, _, o_greatest_by, PySem.W.mg_of X G a_greatest_by, k_greatest_by, B_greatest_by⟩
    have o_least_start := ok_least_start (P := l.prog) (base := base) F_least_start T c_pace c_far_size c_steady c_first_times c_greatest_by
    have c_least_start : Cal _ _ _ _ _ _ _ _ _ := ⟨_, _, _, o_least_start, PySem.W.mg_of X G a_least_start, k_least_start, B_least_start⟩
    have o_pattern := ok_pattern (P := l.prog) (base := base) F_pattern T c_check_pattern c_pace c_least_start
    have c_pattern : Cal _ _ _ _ _ _ _ _ _ := ⟨_, _, _, o_pattern, PySem.W.mg_of X G a_pattern, k_pattern, B_pattern⟩
    have o_latest_by := ok_latest_by (P := l.prog) (base := base) F_latest_by T c_check_size c_pattern c_greatest_time
    have c_latest_by : Cal _ _ _ _ _ _ _ _ _ := ⟨_, _, _, o_latest_by, PySem.W.mg_of X G a_latest_by, k_latest_by, B_latest_by⟩
    have o_are_steps := ok_are_steps (P := l.prog) (base := base) F_are_steps T 
    have c_are_steps : Cal _ _ _ _ _ _ _ _ _ := ⟨_, _, _, o_are_steps, PySem.W.mg_of X G a_are_steps, k_are_steps, B_are_steps⟩
    have o_Plan_init := ok_Plan_init (P := l.prog) (base := base) F_Plan_init T c_are_steps
    have k_Plan : Mak _ _ _ _ _ _ _ _ _ _ := ⟨_, _, _, ⟨mkPlan, a_Plan_init, i_Plan_init, kcPlan⟩, o_Plan_init, PySem.W.mg_of X G gPlan, B_Plan_init⟩
    have o_l_begin := ok_l_begin (P := l.prog) (base := base) F_l_begin T 
    have c_l_begin : Cal _ _ _ _ _ _ _ _ _ := ⟨_, _, _, o_l_begin, PySem.W.mg_of X G a_l_begin, k_l_begin, B_l_begin⟩
    have o_l_draw := ok_l_draw (P := l.prog) (base := base) F_l_draw T 
    have c_l_draw : Cal _ _ _ _ _ _ _ _ _ := ⟨_, _, _, o_l_draw, PySem.W.mg_of X G a_l_draw, k_l_draw, B_l_draw⟩
    have o_l_steps := ok_l_steps (P := l.prog) (base := base) F_l_steps T c_l_draw
    have c_l_steps : Cal _ _ _ _ _ _ _ _ _ := ⟨_, _, _, o_l_steps, PySem.W.mg_of X G a_l_steps, k_l_steps, B_l_steps⟩
    have o_l_make := ok_l_make (P := l.prog) (base := base) F_l_make T k_Plan
    have c_l_make : Cal _ _ _ _ _ _ _ _ _ := ⟨_, _, _, o_l_make, PySem.W.mg_of X G a_l_make, k_l_make, B_l_make⟩
    have o_l_way := ok_l_way (P := l.prog) (base := base) F_l_way T 
    have c_l_way : Cal _ _ _ _ _ _ _ _ _ := ⟨_, _, _, o_l_way, PySem.W.mg_of X G a_l_way, k_l_way, B_l_way⟩
    have o_l_ways := ok_l_ways (P := l.prog) (base := base) F_l_ways T 
    have c_l_ways : Cal _ _ _ _ _ _ _ _ _ := ⟨_, _, _, o_l_ways, PySem.W.mg_of X G a_l_ways, k_l_ways, B_l_ways⟩
    have o_l_offsets := ok_l_offsets (P := l.prog) (base := base) F_l_offsets T c_l_ways
    have c_l_offsets : Cal _ _ _ _ _ _ _ _ _ := ⟨_, _, _, o_l_offsets, PySem.W.mg_of X G a_l_offsets, k_l_offsets, B_l_offsets⟩
    have o_l_common := ok_l_common (P := l.prog) (base := base) F_l_common T 
    have c_l_common : Cal _ _ _ _ _ _ _ _ _ := ⟨_, _, _, o_l_common, PySem.W.mg_of X G a_l_common, k_l_common, B_l_common⟩
    have o_l_pace := ok_l_pace (P := l.prog) (base := base) F_l_pace T c_l_common c_l_way
    have c_l_pace : Cal _ _ _ _ _ _ _ _ _ := ⟨_, _, _, o_l_pace, PySem.W.mg_of X G a_l_pace, k_l_pace, B_l_pace⟩
    have o_l_times := ok_l_times (P := l.prog) (base := base) F_l_times T c_l_pace c_l_offsets
    have c_l_times : Cal _ _ _ _ _ _ _ _ _ := ⟨_, _, _, o_l_times, PySem.W.mg_of X G a_l_times, k_l_times, B_l_times⟩
    have o_l_like := ok_l_like (P := l.prog) (base := base) F_l_like T (PySem.W.mg_of X G a_l_like) k_l_like B_l_like
    have c_l_like : Cal _ _ _ _ _ _ _ _ _ := ⟨_, _, _, o_l_like, PySem.W.mg_of X G a_l_like, k_l_like, B_l_like⟩
    have o_l_told := ok_l_told (P := l.prog) (base := base) F_l_told T c_pattern
    have c_l_told : Cal _ _ _ _ _ _ _ _ _ := ⟨_, _, _, o_l_told, PySem.W.mg_of X G a_l_told, k_l_told, B_l_told⟩
    have o_l_latest := ok_l_latest (P := l.prog) (base := base) F_l_latest T c_l_times
    have c_l_latest : Cal _ _ _ _ _ _ _ _ _ := ⟨_, _, _, o_l_latest, PySem.W.mg_of X G a_l_latest, k_l_latest, B_l_latest⟩
    have o_l_full := ok_l_full (P := l.prog) (base := base) F_l_full T c_l_pace c_l_offsets
    have c_l_full : Cal _ _ _ _ _ _ _ _ _ := ⟨_, _, _, o_l_full, PySem.W.mg_of X G a_l_full, k_l_full, B_l_full⟩
    exact ok_law (fun_mk (st := s_law) l_law e_law k_law) T c_l_begin c_l_draw c_l_steps c_l_make c_l_latest c_latest c_l_like c_l_told c_l_pace c_l_full c_latest_by⟩
theorem walk {l : PySem.W.OpenLaw} {q : Program} {loose : List Str} {XP : (Str → Option Value) → Heap → Prop} {YP : World → Heap → Prop} {d : DefRec} {K : Params → PySem.W.Frag} (hn : l.most = some 63) (hdf : d.params.defaults = [])
    (hY : ∀ (w : World) (h : Heap), YP w h → (K w.params).In h)
    (F : ∀ (w : World) (mg : Str → Option Value) (fa : Addr) (h : Heap), (K w.params).In h → h.Ns mainGlobals mg → mg d.name = some (.ref fa) →
      ∃ fd : FuncData, (∀ (s : Shared) (u : Value), BindsTo s fd ⟨[u], []⟩ [("_law_script", u)]) ∧ ∀ base : Heap, (K w.params).In base → base.Ns mainGlobals mg → FnOk l.prog w (K w.params) mg base CX0 9 fa fd ["_law_script"] (spLaw (K w.params))) :
    PySem.W.WalkO q loose XP YP l.row.toRowW d [] (fun f vs => PySem.call f vs) :=
  L2.walk_of (n := 63) (k := 9) (x := "_law_script") (CX := fun _ => CX0) (sp := fun w => spLaw (K w.params)) hn (by decide) hdf ⟨rfl, by decide, by decide⟩ hY F (fun _ _ a ns hl _ hS => ⟨a, ns, rfl, hS, hl, fun _ => rfl⟩) fun _ _ _ _ _ z => z
end
end Lw
open PySem PySem.W PyProof.Rows in
set_option maxRecDepth 100000 in
set_option maxHeartbeats 0 in
theorem PySem.Challenge.cw_meetwalks_k04_whole_longest_times_holds : PySem.Challenge.rw_meetwalks_k04_whole_longest_times.Holds := by
  w_on; o_law; k_head; (case hw => w_witness2)
  k_fill
  refine Lw.walk (l := PySem.Challenge.rw_meetwalks_k04_whole_longest_times) rfl rfl (fun w h Y => PySem.W.kIn_of Y) ?F
  case F =>
    intro w mg fa h KX G hmg
    refine' Lw.all_mk KX G hmg ?z_isinstance ?z_len ?z_abs ?z_max ?z_min ?z_sum ?z_all ?z_sorted ?z_int ?z_bool ?z_str ?z_list ?z_dict ?z_tuple ?z_set ?z_range ?gS ?lS ?wS ?gM ?gPlan ?pgPlan ?hdPlan ?poPlan ?saPlan ?mkPlan ?kcPlan ?nPlanhead ?nPlanring ?isPlan ?mrPlan ?spc ?tks ?gMeetError ?xMeetError ?kMeetError ?bMeetError ?tMeetError ?gBadPlan ?xBadPlan ?kBadPlan ?bBadPlan ?tBadPlan ?gBadCase ?xBadCase ?kBadCase ?bBadCase ?tBadCase ?gNoGain ?xNoGain ?kNoGain ?bNoGain ?tNoGain ?gNeverMeet ?xNeverMeet ?kNeverMeet ?bNeverMeet ?tNeverMeet ?mGG ?mVG ?mVV ?a_is_whole ?l_is_whole ?e_is_whole ?k_is_whole ?a_check_size ?l_check_size ?e_check_size ?k_check_size ?a_check_delay ?l_check_delay ?e_check_delay ?k_check_delay ?a_total ?l_total ?e_total ?k_total ?a_Plan_way ?i_Plan_way ?l_Plan_way ?e_Plan_way ?k_Plan_way ?a_offset_at ?l_offset_at ?e_offset_at ?k_offset_at ?a_common ?l_common ?e_common ?k_common ?a_Plan_drift ?i_Plan_drift ?l_Plan_drift ?e_Plan_drift ?k_Plan_drift ?a_pace ?l_pace ?e_pace ?k_pace ?a_steady ?l_steady ?e_steady ?k_steady ?a_all_rests ?l_all_rests ?e_all_rests ?k_all_rests ?a_last_time ?l_last_time ?e_last_time ?k_last_time ?a_least_times ?l_least_times ?e_least_times ?k_least_times ?a_is_full ?l_is_full ?e_is_full ?k_is_full ?a_greatest_time ?l_greatest_time ?e_greatest_time ?k_greatest_time ?a_latest ?l_latest ?e_latest ?k_latest ?a_check_pattern ?l_check_pattern ?e_check_pattern ?k_check_pattern ?a_far_size ?l_far_size ?e_far_size ?k_far_size ?a_first_times ?l_first_times ?e_first_times ?k_first_times ?a_greatest_by ?l_greatest_by ?e_greatest_by ?k_greatest_by ?a_least_start ?l_least_start ?e_least_start ?k_least_start ?a_pattern ?l_pattern ?e_pattern ?k_pattern ?a_latest_by ?l_latest_by ?e_latest_by ?k_latest_by ?a_are_steps ?l_are_steps ?e_are_steps ?k_are_steps ?a_Plan_init ?i_Plan_init ?l_Plan_init ?e_Plan_init ?k_Plan_init ?a_l_begin ?l_l_begin ?e_l_begin ?k_l_begin ?a_l_draw ?l_l_draw ?e_l_draw ?k_l_draw ?a_l_steps ?l_l_steps ?e_l_steps ?k_l_steps ?a_l_make ?l_l_make ?e_l_make ?k_l_make ?a_l_way ?l_l_way ?e_l_way ?k_l_way ?a_l_ways ?l_l_ways ?e_l_ways ?k_l_ways ?a_l_offsets ?l_l_offsets ?e_l_offsets ?k_l_offsets ?a_l_common ?l_l_common ?e_l_common ?k_l_common ?a_l_pace ?l_l_pace ?e_l_pace ?k_l_pace ?a_l_times ?l_l_times ?e_l_times ?k_l_times ?a_l_like ?l_l_like ?e_l_like ?k_l_like ?a_l_told ?l_l_told ?e_l_told ?k_l_told ?a_l_latest ?l_l_latest ?e_l_latest ?k_l_latest ?a_l_full ?l_l_full ?e_l_full ?k_l_full ?a_law ?l_law ?e_law ?k_law
    (case z_isinstance => k_is)
    (case z_len => k_is)
    (case z_abs => k_is)
    (case z_max => k_is)
    (case z_min => k_is)
    (case z_sum => k_is)
    (case z_all => k_is)
    (case z_sorted => k_is)
    (case z_int => k_is)
    (case z_bool => k_is)
    (case z_str => k_is)
    (case z_list => k_is)
    (case z_dict => k_is)
    (case z_tuple => k_is)
    (case z_set => k_is)
    (case z_range => k_is)
    (case gS => k_is)
    (case lS => k_is)
    (case wS => rfl)
    (case gM => k_is)
    (case gPlan => k_is)
    (case pgPlan => k_is)
    (case hdPlan => k_is)
    (case poPlan => k_is)
    (case saPlan => k_is)
    (case mkPlan => k_is)
    (case kcPlan => k_is)
    (case nPlanhead => k_is)
    (case nPlanring => k_is)
    (case isPlan => k_is)
    (case mrPlan => k_is)
    (case spc => k_is)
    (case tks => k_is)
    (case gMeetError => k_is)
    (case xMeetError => k_exc)
    (case kMeetError => k_is)
    (case bMeetError => k_is)
    (case tMeetError => k_is)
    (case gBadPlan => k_is)
    (case xBadPlan => k_exc)
    (case kBadPlan => k_is)
    (case bBadPlan => k_is)
    (case tBadPlan => k_is)
    (case gBadCase => k_is)
    (case xBadCase => k_exc)
    (case kBadCase => k_is)
    (case bBadCase => k_is)
    (case tBadCase => k_is)
    (case gNoGain => k_is)
    (case xNoGain => k_exc)
    (case kNoGain => k_is)
    (case bNoGain => k_is)
    (case tNoGain => k_is)
    (case gNeverMeet => k_is)
    (case xNeverMeet => k_exc)
    (case kNeverMeet => k_is)
    (case bNeverMeet => k_is)
    (case tNeverMeet => k_is)
    (case mGG => kts_exm)
    (case mVG => kts_exm)
    (case mVV => kts_exm)
    (case a_is_whole => k_is)
    (case l_is_whole => k_is)
    (case e_is_whole => k_is)
    (case k_is_whole => k_is)
    (case a_check_size => k_is)
    (case l_check_size => k_is)
    (case e_check_size => k_is)
    (case k_check_size => k_is)
    (case a_check_delay => k_is)
    (case l_check_delay => k_is)
    (case e_check_delay => k_is)
    (case k_check_delay => k_is)
    (case a_total => k_is)
    (case l_total => k_is)
    (case e_total => k_is)
    (case k_total => k_is)
    (case a_Plan_way => k_is)
    (case i_Plan_way => k_is)
    (case l_Plan_way => k_is)
    (case e_Plan_way => k_is)
    (case k_Plan_way => k_is)
    (case a_offset_at => k_is)
    (case l_offset_at => k_is)
    (case e_offset_at => k_is)
    (case k_offset_at => k_is)
    (case a_common => k_is)
    (case l_common => k_is)
    (case e_common => k_is)
    (case k_common => k_is)
    (case a_Plan_drift => k_is)
    (case i_Plan_drift => k_is)
    (case l_Plan_drift => k_is)
    (case e_Plan_drift => k_is)
    (case k_Plan_drift => k_is)
    (case a_pace => k_is)
    (case l_pace => k_is)
    (case e_pace => k_is)
    (case k_pace => k_is)
    (case a_steady => k_is)
    (case l_steady => k_is)
    (case e_steady => k_is)
    (case k_steady => k_is)
    (case a_all_rests => k_is)
    (case l_all_rests => k_is)
    (case e_all_rests => k_is)
    (case k_all_rests => k_is)
    (case a_last_time => k_is)
    (case l_last_time => k_is)
    (case e_last_time => k_is)
    (case k_last_time => k_is)
    (case a_least_times => k_is)
    (case l_least_times => k_is)
    (case e_least_times => k_is)
    (case k_least_times => k_is)
    (case a_is_full => k_is)
    (case l_is_full => k_is)
    (case e_is_full => k_is)
    (case k_is_full => k_is)
    (case a_greatest_time => k_is)
    (case l_greatest_time => k_is)
    (case e_greatest_time => k_is)
    (case k_greatest_time => k_is)
    (case a_latest => k_is)
    (case l_latest => k_is)
    (case e_latest => k_is)
    (case k_latest => k_is)
    (case a_check_pattern => k_is)
    (case l_check_pattern => k_is)
    (case e_check_pattern => k_is)
    (case k_check_pattern => k_is)
    (case a_far_size => k_is)
    (case l_far_size => k_is)
    (case e_far_size => k_is)
    (case k_far_size => k_is)
    (case a_first_times => k_is)
    (case l_first_times => k_is)
    (case e_first_times => k_is)
    (case k_first_times => k_is)
    (case a_greatest_by => k_is)
    (case l_greatest_by => k_is)
    (case e_greatest_by => k_is)
    (case k_greatest_by => k_is)
    (case a_least_start => k_is)
    (case l_least_start => k_is)
    (case e_least_start => k_is)
    (case k_least_start => k_is)
    (case a_pattern => k_is)
    (case l_pattern => k_is)
    (case e_pattern => k_is)
    (case k_pattern => k_is)
    (case a_latest_by => k_is)
    (case l_latest_by => k_is)
    (case e_latest_by => k_is)
    (case k_latest_by => k_is)
    (case a_are_steps => k_is)
    (case l_are_steps => k_is)
    (case e_are_steps => k_is)
    (case k_are_steps => k_is)
    (case a_Plan_init => k_is)
    (case i_Plan_init => k_is)
    (case l_Plan_init => k_is)
    (case e_Plan_init => k_is)
    (case k_Plan_init => k_is)
    (case a_l_begin => k_is)
    (case l_l_begin => k_is)
    (case e_l_begin => k_is)
    (case k_l_begin => k_is)
    (case a_l_draw => k_is)
    (case l_l_draw => k_is)
    (case e_l_draw => k_is)
    (case k_l_draw => k_is)
    (case a_l_steps => k_is)
    (case l_l_steps => k_is)
    (case e_l_steps => k_is)
    (case k_l_steps => k_is)
    (case a_l_make => k_is)
    (case l_l_make => k_is)
    (case e_l_make => k_is)
    (case k_l_make => k_is)
    (case a_l_way => k_is)
    (case l_l_way => k_is)
    (case e_l_way => k_is)
    (case k_l_way => k_is)
    (case a_l_ways => k_is)
    (case l_l_ways => k_is)
    (case e_l_ways => k_is)
    (case k_l_ways => k_is)
    (case a_l_offsets => k_is)
    (case l_l_offsets => k_is)
    (case e_l_offsets => k_is)
    (case k_l_offsets => k_is)
    (case a_l_common => k_is)
    (case l_l_common => k_is)
    (case e_l_common => k_is)
    (case k_l_common => k_is)
    (case a_l_pace => k_is)
    (case l_l_pace => k_is)
    (case e_l_pace => k_is)
    (case k_l_pace => k_is)
    (case a_l_times => k_is)
    (case l_l_times => k_is)
    (case e_l_times => k_is)
    (case k_l_times => k_is)
    (case a_l_like => k_is)
    (case l_l_like => k_is)
    (case e_l_like => k_is)
    (case k_l_like => k_is)
    (case a_l_told => k_is)
    (case l_l_told => k_is)
    (case e_l_told => k_is)
    (case k_l_told => k_is)
    (case a_l_latest => k_is)
    (case l_l_latest => k_is)
    (case e_l_latest => k_is)
    (case k_l_latest => k_is)
    (case a_l_full => k_is)
    (case l_l_full => k_is)
    (case e_l_full => k_is)
    (case k_l_full => k_is)
    (case a_law => k_is)
    (case l_law => k_is)
    (case e_law => k_is)
    (case k_law => k_is)
