import PyProof.Rows.All
import Wide.All
import OpenK.AllK
import Wide.FinOn
import HandS.ForMost
import HandS.More
import HandS.Wide
import HandS.Gcd
import HandS.Zip
import HandS.Defaults
import HandS.IsInst
import HandS.Walk
import PySem.Challenge.RW_meanhold_k12_whole_first_gains_and_leads
set_option linter.all false
set_option autoImplicit false
namespace Mh
/-! ### sums -/
def sm : Nat → (Nat → Rat) → Rat
  | 0, _ => 0
  | n + 1, f => sm n f + f n
theorem sm_congr {n : Nat} {f g : Nat → Rat} (h : ∀ j, j < n → f j = g j) : sm n f = sm n g := by
  induction n with
  | zero => rfl
  | succ n ih => show sm n f + f n = sm n g + g n; rw [ih (fun j hj => h j (by omega)), h n (by omega)]
theorem sm_add (n : Nat) (f g : Nat → Rat) : sm n (fun j => f j + g j) = sm n f + sm n g := by
  induction n with
  | zero => simp [sm, Rat.add_zero]
  | succ n ih => simp only [sm]; rw [ih]; grind
theorem sm_sub (n : Nat) (f g : Nat → Rat) : sm n (fun j => f j - g j) = sm n f - sm n g := by
  induction n with
  | zero => simp [sm]; try grind
  | succ n ih => simp only [sm]; rw [ih]; grind
theorem sm_mul (n : Nat) (c : Rat) (f : Nat → Rat) : sm n (fun j => c * f j) = c * sm n f := by
  induction n with
  | zero => simp [sm]
  | succ n ih => simp only [sm]; rw [ih]; grind
theorem sm_mulr (n : Nat) (c : Rat) (f : Nat → Rat) : sm n (fun j => f j * c) = sm n f * c := by
  induction n with
  | zero => simp [sm]
  | succ n ih => simp only [sm]; rw [ih]; grind
theorem sm_zero {n : Nat} {f : Nat → Rat} (h : ∀ j, j < n → f j = 0) : sm n f = 0 := by
  induction n with
  | zero => rfl
  | succ n ih => simp only [sm]; rw [ih (fun j hj => h j (by omega)), h n (by omega)]; grind
theorem sm_one {n : Nat} {f : Nat → Rat} {k : Nat} (hk : k < n) (h : ∀ j, j < n → j ≠ k → f j = 0) : sm n f = f k := by
  induction n with
  | zero => omega
  | succ n ih =>
    simp only [sm]
    by_cases e : k = n
    · subst e; rw [sm_zero (fun j hj => h j (by omega) (by omega))]; grind
    · rw [ih (by omega) (fun j hj => h j (by omega)), h n (by omega) (by omega)]; grind
theorem sm_swap (n m : Nat) (f : Nat → Nat → Rat) : sm n (fun i => sm m (fun j => f i j)) = sm m (fun j => sm n (fun i => f i j)) := by
  induction n with
  | zero => simp only [sm]; rw [sm_zero]; intro _ _; rfl
  | succ n ih => simp only [sm]; rw [ih, ← sm_add]
theorem sm_le {n : Nat} {f g : Nat → Rat} (h : ∀ j, j < n → f j ≤ g j) : sm n f ≤ sm n g := by
  induction n with
  | zero => exact Rat.le_refl
  | succ n ih => simp only [sm]; have := ih (fun j hj => h j (by omega)); have := h n (by omega); grind
/-! ### rows and their solutions -/
/-- every row, met by x, its bound (column n) t times -/
def Sat (t : Rat) (M : Nat → Nat → Rat) (n : Nat) (x : Nat → Rat) : Prop := ∀ i, i < n → sm n (fun j => M i j * x j) = t * M i n
def Triv (M : Nat → Nat → Rat) (n : Nat) : Prop := ∀ v, Sat 0 M n v → ∀ j, j < n → v j = 0
/-- two rows change places -/
def swp (c p : Nat) (M : Nat → Nat → Rat) : Nat → Nat → Rat := fun i => if i = c then M p else if i = p then M c else M i
/-- the row c, with 1 at the column c -/
def nrm (c : Nat) (M : Nat → Nat → Rat) : Nat → Rat := fun j => (1 / M c c) * M c j
def stp (c p : Nat) (M : Nat → Nat → Rat) : Nat → Nat → Rat := fun i j =>
  if i = c then nrm c (swp c p M) j else swp c p M i j - swp c p M i c * nrm c (swp c p M) j
theorem swp_c (c p : Nat) (M : Nat → Nat → Rat) : swp c p M c = M p := by unfold swp; rw [if_pos rfl]
theorem stp_sat {t : Rat} {n c p : Nat} {M : Nat → Nat → Rat} {x : Nat → Rat} (hc : c < n) (hp : p < n) (hM : M p c ≠ 0) (h : Sat t (stp c p M) n x) : Sat t M n x := by
  have hcc : swp c p M c c ≠ 0 := by rw [swp_c]; exact hM
  have h1 : sm n (fun j => swp c p M c j * x j) = t * swp c p M c n := by
    have e := h c hc
    have e1 : ∀ j, stp c p M c j = nrm c (swp c p M) j := fun j => by unfold stp; rw [if_pos rfl]
    simp only [e1] at e
    unfold nrm at e
    have e2 : sm n (fun j => 1 / swp c p M c c * swp c p M c j * x j) = (1 / swp c p M c c) * sm n (fun j => swp c p M c j * x j) := by
      rw [← sm_mul]; exact sm_congr fun j _ => by grind
    rw [e2] at e
    grind
  have h2 : ∀ i, i < n → sm n (fun j => swp c p M i j * x j) = t * swp c p M i n := by
    intro i hi
    by_cases e : i = c
    · subst e; exact h1
    · have q := h i hi
      have e1 : ∀ j, stp c p M i j = swp c p M i j - swp c p M i c * nrm c (swp c p M) j := fun j => by unfold stp; rw [if_neg e]
      simp only [e1] at q
      have e2 : sm n (fun j => (swp c p M i j - swp c p M i c * nrm c (swp c p M) j) * x j) = sm n (fun j => swp c p M i j * x j) - (swp c p M i c * (1 / swp c p M c c)) * sm n (fun j => swp c p M c j * x j) := by
        rw [← sm_mul, ← sm_sub]; exact sm_congr fun j _ => by unfold nrm; grind
      rw [e2, h1] at q
      unfold nrm at q
      grind
  intro i hi
  by_cases e : i = c
  · subst e
    by_cases e2 : i = p
    · subst e2; have := h2 i hi; rw [swp_c] at this; exact this
    · have := h2 p hp
      have e3 : swp i p M p = M i := by unfold swp; rw [if_neg (fun z => e2 z.symm), if_pos rfl]
      rw [e3] at this; exact this
  · by_cases e2 : i = p
    · subst e2; have := h2 c hc; rw [swp_c] at this; exact this
    · have := h2 i hi
      have e3 : swp c p M i = M i := by unfold swp; rw [if_neg e, if_neg e2]
      rw [e3] at this; exact this
theorem stp_triv {n c p : Nat} {M : Nat → Nat → Rat} (hc : c < n) (hp : p < n) (hM : M p c ≠ 0) (h : Triv M n) : Triv (stp c p M) n := fun v hv => h v (stp_sat hc hp hM hv)
/-- the first k columns are done -/
def Idc (k : Nat) (M : Nat → Nat → Rat) (n : Nat) : Prop := ∀ i, i < n → ∀ j, j < k → M i j = if i = j then 1 else 0
theorem stp_idc {n c p : Nat} {M : Nat → Nat → Rat} (hc : c < n) (hcp : c ≤ p) (hp : p < n) (hM : M p c ≠ 0) (h : Idc c M n) : Idc (c + 1) (stp c p M) n := by
  have hcc : swp c p M c c ≠ 0 := by rw [swp_c]; exact hM
  have hn : nrm c (swp c p M) c = 1 := by unfold nrm; grind
  intro i hi j hj
  by_cases ej : j = c
  · subst ej
    unfold stp
    by_cases ei : i = j
    · rw [if_pos ei, if_pos ei]; exact hn
    · rw [if_neg ei, if_neg ei, hn]; grind
  · have hj : j < c := by omega
    have r0 : nrm c (swp c p M) j = 0 := by
      unfold nrm; rw [swp_c, h p hp j hj, if_neg (by omega)]; grind
    unfold stp
    rw [r0]
    by_cases ei : i = c
    · rw [if_pos ei, if_neg (by omega)]
    · rw [if_neg ei]
      unfold swp
      rw [if_neg ei]
      by_cases ep : i = p
      · rw [if_pos ep, h c hc j hj, if_neg (by omega), if_neg (by omega)]; grind
      · rw [if_neg ep, h i hi j hj]; grind
theorem pivot {n c : Nat} {M : Nat → Nat → Rat} (hc : c < n) (h : Idc c M n) (ht : Triv M n) : ∃ p, c ≤ p ∧ p < n ∧ M p c ≠ 0 := by
  refine Classical.byContradiction fun hno => ?_
  have h0 : ∀ p, c ≤ p → p < n → M p c = 0 := fun p h1 h2 => Classical.byContradiction fun z => hno ⟨p, h1, h2, z⟩
  have hv : Sat 0 M n (fun j => if j < c then M j c else if j = c then -1 else 0) := by
    intro i hi
    have e0 : ∀ f : Nat → Rat, (0 : Rat) * f n = 0 := fun f => by grind
    rw [e0]
    by_cases hic : i < c
    · have e1 : ∀ j, j < n → (M i j * (if j < c then M j c else if j = c then -1 else 0)) = (if j = i then M i c else 0) + (if j = c then - M i c else 0) := by
        intro j hj
        by_cases a : j < c
        · rw [if_pos a, h i hi j a, if_neg (show ¬ j = c by omega)]
          by_cases b : j = i
          · subst b; rw [if_pos rfl, if_pos rfl]; grind
          · rw [if_neg (fun z => b z.symm), if_neg b]; grind
        · rw [if_neg a, if_neg (show ¬ j = i by omega)]
          by_cases b : j = c
          · rw [if_pos b, if_pos b, b]; grind
          · rw [if_neg b, if_neg b]; grind
      rw [sm_congr e1, sm_add, sm_one (k := i) hi (fun j _ z => if_neg z), sm_one (k := c) hc (fun j _ z => if_neg z), if_pos rfl, if_pos rfl]
      grind
    · refine sm_zero fun j hj => ?_
      show M i j * (if j < c then M j c else if j = c then -1 else 0) = 0
      by_cases a : j < c
      · rw [h i hi j a, if_neg (by omega)]; grind
      · rw [if_neg a]
        by_cases b : j = c
        · rw [b, h0 i (by omega) hi]; grind
        · rw [if_neg b]; grind
  have : (if c < c then M c c else if c = c then -1 else 0 : Rat) = 0 := ht _ hv c hc
  rw [if_neg (by omega), if_pos rfl] at this
  exact absurd this (by decide)
theorem idc_sat {n : Nat} {M : Nat → Nat → Rat} (h : Idc n M n) : Sat 1 M n (fun j => M j n) := by
  intro i hi
  rw [sm_one (k := i) hi (fun j hj z => by rw [h i hi j hj, if_neg (fun w => z w.symm)]; grind), h i hi i hi, if_pos rfl]

/-! ### sizes -/
/-- q is a part of E, N of them at most -/
def Bd (E N : Nat) (q : Rat) : Prop := ∃ z : Int, q * (E : Rat) = (z : Rat) ∧ z.natAbs ≤ N
def Sz (B : Nat) (q : Rat) : Prop := q.num.natAbs < 2 ^ B ∧ q.den < 2 ^ B
theorem rat_eq (q : Rat) : q * (q.den : Rat) = (q.num : Rat) := by
  have h : (q.num : Rat) / (q.den : Rat) = q := by rw [← Rat.mkRat_eq_div]; exact Rat.mkRat_self q
  have hd : (q.den : Rat) ≠ 0 := by
    intro e
    have : (q.den : Int) = 0 := by exact_mod_cast e
    exact q.den_nz (by omega)
  have h2 : q = (q.num : Rat) / (q.den : Rat) := h.symm
  grind
theorem cast_inj {a b : Int} (h : (a : Rat) = (b : Rat)) : a = b := by exact_mod_cast h
theorem frac_le {q : Rat} {z e : Int} (he : e ≠ 0) (h : q * (e : Rat) = (z : Rat)) : q.num.natAbs ≤ z.natAbs ∧ q.den ≤ e.natAbs := by
  have h1 := rat_eq q
  have h2 : q.num * e = z * (q.den : Int) := by
    apply cast_inj
    rw [Rat.intCast_mul, Rat.intCast_mul]
    have : ((q.den : Int) : Rat) = (q.den : Rat) := by exact_mod_cast rfl
    rw [this, ← h1, ← h]
    grind
  have hco : Nat.gcd q.num.natAbs q.den = 1 := q.reduced
  have h3 : q.num.natAbs * e.natAbs = z.natAbs * q.den := by
    have := congrArg Int.natAbs h2
    rw [Int.natAbs_mul, Int.natAbs_mul] at this
    simpa using this
  have d1 : q.den ∣ e.natAbs := by
    have : q.den ∣ q.num.natAbs * e.natAbs := ⟨z.natAbs, by rw [h3, Nat.mul_comm]⟩
    exact Nat.Coprime.dvd_of_dvd_mul_left (Nat.Coprime.symm hco) this
  obtain ⟨k, hk⟩ := d1
  have dp : 0 < q.den := Nat.pos_of_ne_zero q.den_nz
  have ep : 0 < e.natAbs := by omega
  have kp : 0 < k := by
    rcases Nat.eq_zero_or_pos k with z | z
    · rw [z, Nat.mul_zero] at hk; omega
    · exact z
  constructor
  · have : q.num.natAbs * k = z.natAbs := by
      rw [hk] at h3
      have h4 : q.den * (q.num.natAbs * k) = q.den * z.natAbs := by rw [Nat.mul_comm q.den z.natAbs, ← h3, Nat.mul_left_comm]
      exact Nat.eq_of_mul_eq_mul_left dp h4
    rw [← this]
    exact Nat.le_mul_of_pos_right _ kp
  · rw [hk]
    exact Nat.le_mul_of_pos_right _ kp
theorem Sz.of {q : Rat} {z e : Int} {B : Nat} (he : e ≠ 0) (h : q * (e : Rat) = (z : Rat)) (hz : z.natAbs < 2 ^ B) (hE : e.natAbs < 2 ^ B) : Sz B q := by
  have := frac_le he h
  exact ⟨Nat.lt_of_le_of_lt this.1 hz, Nat.lt_of_le_of_lt this.2 hE⟩
theorem Sz.mono {q : Rat} {a b : Nat} (h : Sz a q) (hab : a ≤ b) : Sz b q :=
  ⟨Nat.lt_of_lt_of_le h.1 (Nat.pow_le_pow_right (by decide) hab), Nat.lt_of_lt_of_le h.2 (Nat.pow_le_pow_right (by decide) hab)⟩
theorem Bd.sz {E N B : Nat} {q : Rat} (h : Bd E N q) (hE : 0 < E) (hN : N < 2 ^ B) (hB : E < 2 ^ B) : Sz B q := by
  obtain ⟨z, e, hz⟩ := h
  refine Sz.of (e := (E : Int)) (by omega) ?_ (Nat.lt_of_le_of_lt hz hN) (by simpa using hB)
  rw [← e]; exact_mod_cast rfl
theorem Bd.den {E N : Nat} {q : Rat} (h : Bd E N q) (hE : 0 < E) : q.den ≤ E := by
  obtain ⟨z, e, hz⟩ := h
  have := (frac_le (q := q) (z := z) (e := (E : Int)) (by omega) (by rw [← e]; exact_mod_cast rfl)).2
  simpa using this
theorem Bd.mono {E N N' : Nat} {q : Rat} (h : Bd E N q) (hN : N ≤ N') : Bd E N' q := by
  obtain ⟨z, e, hz⟩ := h
  exact ⟨z, e, Nat.le_trans hz hN⟩
theorem Bd.add {E N N' : Nat} {q r : Rat} (h : Bd E N q) (h' : Bd E N' r) : Bd E (N + N') (q + r) := by
  obtain ⟨z, e, hz⟩ := h
  obtain ⟨z', e', hz'⟩ := h'
  refine ⟨z + z', ?_, ?_⟩
  · rw [Rat.intCast_add, ← e, ← e']; grind
  · have := Int.natAbs_add_le z z'; omega
theorem Bd.neg {E N : Nat} {q : Rat} (h : Bd E N q) : Bd E N (-q) := by
  obtain ⟨z, e, hz⟩ := h
  refine ⟨-z, ?_, ?_⟩
  · rw [Rat.intCast_neg, ← e]; grind
  · omega
theorem Bd.sub {E N N' : Nat} {q r : Rat} (h : Bd E N q) (h' : Bd E N' r) : Bd E (N + N') (q - r) := by
  have : q - r = q + -r := by grind
  rw [this]; exact h.add h'.neg
theorem Bd.mul {E N E' N' : Nat} {q r : Rat} (h : Bd E N q) (h' : Bd E' N' r) : Bd (E * E') (N * N') (q * r) := by
  obtain ⟨z, e, hz⟩ := h
  obtain ⟨z', e', hz'⟩ := h'
  refine ⟨z * z', ?_, ?_⟩
  · rw [Rat.intCast_mul, ← e, ← e', Rat.natCast_mul]; grind
  · rw [Int.natAbs_mul]; exact Nat.mul_le_mul hz hz'
theorem Bd.up {E N : Nat} {q : Rat} (h : Bd E N q) (k : Nat) : Bd (E * k) (N * k) q := by
  obtain ⟨z, e, hz⟩ := h
  refine ⟨z * k, ?_, ?_⟩
  · rw [Rat.intCast_mul, ← e, Rat.natCast_mul]
    have : ((k : Int) : Rat) = (k : Rat) := by exact_mod_cast rfl
    rw [this]; grind
  · rw [Int.natAbs_mul]; simp only [Int.natAbs_natCast]; exact Nat.mul_le_mul_right _ hz
theorem Bd.zero (E N : Nat) : Bd E N 0 := ⟨0, by simp, by simp⟩
theorem Bd.int (z : Int) : Bd 1 z.natAbs (z : Rat) := ⟨z, by simp, Nat.le_refl _⟩
theorem Bd.self (q : Rat) : Bd q.den q.num.natAbs q := ⟨q.num, rat_eq q, Nat.le_refl _⟩
theorem Sz.mul {a b : Nat} {q r : Rat} (h : Sz a q) (h' : Sz b r) : Sz (a + b) (q * r) := by
  have e := (Bd.self q).mul (Bd.self r)
  refine e.sz (Nat.mul_pos (Nat.pos_of_ne_zero q.den_nz) (Nat.pos_of_ne_zero r.den_nz)) ?_ ?_
  · rw [Nat.pow_add]; exact Nat.mul_lt_mul'' h.1 h'.1
  · rw [Nat.pow_add]; exact Nat.mul_lt_mul'' h.2 h'.2
theorem Sz.inv {a : Nat} {q : Rat} (h : Sz a q) (h0 : q ≠ 0) : Sz a (1 / q) := by
  have e := rat_eq q
  have hn : q.num ≠ 0 := by
    intro z
    rw [z] at e
    have hd : (q.den : Rat) ≠ 0 := by
      intro e
      have : (q.den : Int) = 0 := by exact_mod_cast e
      exact q.den_nz (by omega)
    have : q * (q.den : Rat) = 0 := by rw [e]; rfl
    grind
  refine Sz.of (e := q.num) (z := q.den) hn ?_ (by simpa using h.2) h.1
  rw [← e]
  have : ((q.den : Int) : Rat) = (q.den : Rat) := by exact_mod_cast rfl
  rw [this]; grind
theorem Sz.neg {a : Nat} {q : Rat} (h : Sz a q) : Sz a (-q) := by
  refine ⟨?_, ?_⟩
  · rw [Rat.neg_num, Int.natAbs_neg]; exact h.1
  · rw [Rat.neg_den]; exact h.2
theorem Sz.zero {a : Nat} (h : 0 < a) : Sz a 0 := ⟨by show 0 < 2 ^ a; exact Nat.pow_pos (by decide), by show 1 < 2 ^ a; exact Nat.one_lt_two_pow (by omega)⟩
theorem Sz.one {a : Nat} (h : 0 < a) : Sz a 1 := ⟨by show 1 < 2 ^ a; exact Nat.one_lt_two_pow (by omega), by show 1 < 2 ^ a; exact Nat.one_lt_two_pow (by omega)⟩
end Mh
set_option linter.all false
set_option autoImplicit false
namespace Mh
structure Scd (u : Nat → Nat) (k n b sb y : Nat) (M : Nat → Nat → Rat) (s : Int) (g : Nat → Nat) (R : Nat → Nat → Int) : Prop where
  s0 : s ≠ 0
  sB : s.natAbs ≤ 2 ^ sb
  gp : ∀ i, i < n → 0 < g i ∧ g i ≤ 32
  g1 : ∀ i, i < k → g i = 1
  eq : ∀ i, i < n → ∀ j, j ≤ n → M i j * ((s : Rat) * (g i : Rat) * (u j : Rat)) = (R i j : Rat)
  rB : ∀ i, i < n → ∀ j, j < n → (R i j).natAbs ≤ 2 ^ b
  yB : ∀ i, i < n → (R i n).natAbs ≤ 2 ^ y
theorem nat_rat_ne {a : Nat} (h : 0 < a) : (a : Rat) ≠ 0 := by
  intro e
  have : a = 0 := by exact_mod_cast e
  omega
theorem int_rat_ne {a : Int} (h : a ≠ 0) : (a : Rat) ≠ 0 := by
  intro e
  exact h (by exact_mod_cast e)
theorem swp_scd {u : Nat → Nat} {c p n b sb y : Nat} {M : Nat → Nat → Rat} {s : Int} {g : Nat → Nat} {R : Nat → Nat → Int} (hc : c < n) (hcp : c ≤ p) (hp : p < n) (S : Scd u c n b sb y M s g R) :
    Scd u c n b sb y (swp c p M) s (fun i => if i = c then g p else if i = p then g c else g i) (fun i => if i = c then R p else if i = p then R c else R i) := by
  refine ⟨S.s0, S.sB, fun i hi => ?_, fun i hi => ?_, fun i hi j hj => ?_, fun i hi j hj => ?_, fun i hi => ?_⟩
  · show 0 < (if i = c then g p else if i = p then g c else g i) ∧ (if i = c then g p else if i = p then g c else g i) ≤ 32
    split
    · exact S.gp p hp
    · split
      · exact S.gp c hc
      · exact S.gp i hi
  · show (if i = c then g p else if i = p then g c else g i) = 1
    rw [if_neg (by omega), if_neg (by omega)]
    exact S.g1 i hi
  · show swp c p M i j * ((s : Rat) * ((if i = c then g p else if i = p then g c else g i : Nat) : Rat) * (u j : Rat)) = (((if i = c then R p else if i = p then R c else R i) j : Int) : Rat)
    unfold swp
    split
    · exact S.eq p hp j hj
    · split
      · exact S.eq c hc j hj
      · exact S.eq i hi j hj
  · show ((if i = c then R p else if i = p then R c else R i) j).natAbs ≤ _
    split
    · exact S.rB p hp j hj
    · split
      · exact S.rB c hc j hj
      · exact S.rB i hi j hj
  · show ((if i = c then R p else if i = p then R c else R i) n).natAbs ≤ _
    split
    · exact S.yB p hp
    · split
      · exact S.yB c hc
      · exact S.yB i hi
theorem natAbs_mul_le {a b : Int} {x y : Nat} (ha : a.natAbs ≤ 2 ^ x) (hb : b.natAbs ≤ 2 ^ y) : (a * b).natAbs ≤ 2 ^ (x + y) := by
  rw [Int.natAbs_mul, Nat.pow_add]; exact Nat.mul_le_mul ha hb
theorem two_le {x y : Nat} (h : x ≤ y) : 2 ^ x ≤ 2 ^ y := Nat.pow_le_pow_right (by decide) h
theorem cross_le {a b c d : Int} {x y : Nat} (ha : a.natAbs ≤ 2 ^ y) (hb : b.natAbs ≤ 2 ^ x) (hc : c.natAbs ≤ 2 ^ x) (hd : d.natAbs ≤ 2 ^ y) : (a * b - c * d).natAbs ≤ 2 ^ (y + x + 1) := by
  have h1 := natAbs_mul_le ha hb
  have h2 := natAbs_mul_le hc hd
  rw [Nat.add_comm x y] at h2
  have : (2 : Nat) ^ (y + x + 1) = 2 ^ (y + x) * 2 := by rw [Nat.pow_succ]
  omega
theorem stp_scd {u : Nat → Nat} {c p n b sb y : Nat} {M : Nat → Nat → Rat} {s : Int} {g : Nat → Nat} {R : Nat → Nat → Int} (hu : ∀ j, j < n → 0 < u j ∧ u j ≤ 32) (hE : 0 < u n) (hc : c < n) (hcp : c ≤ p) (hp : p < n) (hM : M p c ≠ 0) (hb : sb + 4 ≤ b)
    (S : Scd u c n b sb y M s g R) : ∃ s' g' R', Scd u (c + 1) n (2 * b + 1) (sb + b) (y + b + 1) (stp c p M) s' g' R' := by
  have S1 := swp_scd hc hcp hp S
  have hcc : swp c p M c c ≠ 0 := by rw [swp_c]; exact hM
  unfold stp
  generalize swp c p M = M1 at S1 hcc
  generalize (fun i => if i = c then g p else if i = p then g c else g i) = g1 at S1
  generalize (fun i => if i = c then R p else if i = p then R c else R i) = R1 at S1
  clear S hM
  have hs : (s : Rat) ≠ 0 := int_rat_ne S1.s0
  have hg : ∀ i, i < n → (g1 i : Rat) ≠ 0 := fun i hi => nat_rat_ne (S1.gp i hi).1
  have hur : ∀ j, j ≤ n → (u j : Rat) ≠ 0 := fun j hj => nat_rat_ne (by
    by_cases e : j = n
    · rw [e]; exact hE
    · exact (hu j (by omega)).1)
  have ecc := S1.eq c hc c (by omega)
  have hP : R1 c c ≠ 0 := by
    intro z
    rw [z] at ecc
    have h1 := hg c hc
    have h2 := hur c (by omega)
    have : M1 c c * ((s : Rat) * g1 c * u c) = 0 := by rw [ecc]; rfl
    rcases Rat.mul_eq_zero.mp this with z | z
    · exact hcc z
    · rcases Rat.mul_eq_zero.mp z with z | z
      · rcases Rat.mul_eq_zero.mp z with z | z
        · exact hs z
        · exact h1 z
      · exact h2 z
  refine ⟨s * R1 c c, fun i => if i = c then 1 else g1 i, fun i j => if i = c then R1 c j * ((u c : Int) * s) else R1 i j * R1 c c - R1 i c * R1 c j, ?_, ?_, ?_, ?_, ?_, ?_, ?_⟩
  · exact Int.mul_ne_zero S1.s0 hP
  · exact natAbs_mul_le S1.sB (S1.rB c hc c hc)
  · intro i hi
    show 0 < (if i = c then 1 else g1 i) ∧ (if i = c then 1 else g1 i) ≤ 32
    split
    · exact ⟨by decide, by decide⟩
    · exact S1.gp i hi
  · intro i hi
    show (if i = c then 1 else g1 i) = 1
    split
    · rfl
    · exact S1.g1 i (by omega)
  · intro i hi j hj
    have ecj := S1.eq c hc j hj
    have h1 := hg c hc
    have h2 := hur c (by omega)
    by_cases e : i = c
    · subst e
      simp only [if_pos]
      unfold nrm
      rw [Rat.intCast_mul, Rat.intCast_mul, Rat.intCast_mul, ← ecc, ← ecj]
      have : (((u i : Nat) : Int) : Rat) = (u i : Rat) := by exact_mod_cast rfl
      rw [this]
      have : ((1 : Nat) : Rat) = 1 := rfl
      rw [this]
      grind
    · simp only [if_neg e]
      have eij := S1.eq i hi j hj
      have eic := S1.eq i hi c (by omega)
      unfold nrm
      rw [Rat.intCast_mul, Rat.intCast_sub, Rat.intCast_mul, Rat.intCast_mul, ← ecc, ← ecj, ← eij, ← eic]
      grind
  · intro i hi j hj
    show (if i = c then R1 c j * ((u c : Int) * s) else R1 i j * R1 c c - R1 i c * R1 c j).natAbs ≤ _
    split
    · have hu1 : ((u c : Int)).natAbs ≤ 2 ^ 5 := by have := (hu c hc).2; simpa using this
      exact Nat.le_trans (natAbs_mul_le (S1.rB c hc j hj) (natAbs_mul_le hu1 S1.sB)) (two_le (by omega))
    · exact Nat.le_trans (cross_le (S1.rB i hi j hj) (S1.rB c hc c hc) (S1.rB i hi c hc) (S1.rB c hc j hj)) (two_le (by omega))
  · intro i hi
    show (if i = c then R1 c n * ((u c : Int) * s) else R1 i n * R1 c c - R1 i c * R1 c n).natAbs ≤ _
    split
    · have hu1 : ((u c : Int)).natAbs ≤ 2 ^ 5 := by have := (hu c hc).2; simpa using this
      exact Nat.le_trans (natAbs_mul_le (S1.yB c hc) (natAbs_mul_le hu1 S1.sB)) (two_le (by omega))
    · exact Nat.le_trans (cross_le (S1.yB i hi) (S1.rB c hc c hc) (S1.rB i hi c hc) (S1.yB c hc)) (two_le (by omega))
/-- what an entry's numbers stay below -/
theorem Scd.sz {u : Nat → Nat} {k n b sb y B : Nat} {M : Nat → Nat → Rat} {s : Int} {g : Nat → Nat} {R : Nat → Nat → Int} (S : Scd u k n b sb y M s g R) (hu : ∀ j, j ≤ n → 0 < u j ∧ u j ≤ 2 ^ B) (hb : b < sb + B + 6) (hy : y < sb + B + 6) {i j : Nat} (hi : i < n) (hj : j ≤ n) :
    Sz (sb + B + 6) (M i j) := by
  have e := S.eq i hi j hj
  have h1 := S.gp i hi
  have h2 := hu j hj
  refine Sz.of (e := s * ((g i : Nat) : Int) * ((u j : Nat) : Int)) (z := R i j) ?_ ?_ ?_ ?_
  · exact Int.mul_ne_zero (Int.mul_ne_zero S.s0 (by omega)) (by omega)
  · rw [← e, Rat.intCast_mul, Rat.intCast_mul]
    exact_mod_cast rfl
  · by_cases z : j = n
    · rw [z]; exact Nat.lt_of_le_of_lt (S.yB i hi) (Nat.pow_lt_pow_right (by decide) hy)
    · exact Nat.lt_of_le_of_lt (S.rB i hi j (by omega)) (Nat.pow_lt_pow_right (by decide) hb)
  · have g5 : (((g i : Nat) : Int)).natAbs ≤ 2 ^ 5 := by have := h1.2; simpa using this
    have uB : (((u j : Nat) : Int)).natAbs ≤ 2 ^ B := by have := h2.2; simpa using this
    exact Nat.lt_of_le_of_lt (natAbs_mul_le (natAbs_mul_le S.sB g5) uB) (Nat.pow_lt_pow_right (by decide) (by omega))
/-- the bits at the column k -/
def bt (k : Nat) : Nat := 6 * 2 ^ k - 1
def st (k : Nat) : Nat := 6 * (2 ^ k - 1)
theorem two_pos (k : Nat) : 1 ≤ 2 ^ k := Nat.one_le_two_pow
theorem bt_st (k : Nat) : st k + 4 ≤ bt k := by unfold bt st; have := two_pos k; omega
theorem bt_succ (k : Nat) : bt (k + 1) = 2 * bt k + 1 := by unfold bt; have := two_pos k; rw [Nat.pow_succ]; omega
theorem st_succ (k : Nat) : st k + bt k + 1 = st (k + 1) := by unfold bt st; have := two_pos k; rw [Nat.pow_succ]; omega
/-- the state of the rows at the column k: as far as it is solved, and how great it is -/
structure Ela (u : Nat → Nat) (y n k : Nat) (M : Nat → Nat → Rat) : Prop where
  id : Idc k M n
  tr : Triv M n
  sc : ∃ s g R, Scd u k n (bt k) (st k) (y + st k) M s g R
theorem Ela.next {u : Nat → Nat} {y n c p : Nat} {M : Nat → Nat → Rat} (A : Ela u y n c M) (hu : ∀ j, j < n → 0 < u j ∧ u j ≤ 32) (hE : 0 < u n) (hc : c < n) (hcp : c ≤ p) (hp : p < n) (hM : M p c ≠ 0) : Ela u y n (c + 1) (stp c p M) := by
  refine ⟨stp_idc hc hcp hp hM A.id, stp_triv hc hp hM A.tr, ?_⟩
  obtain ⟨s, g, R, S⟩ := A.sc
  obtain ⟨s', g', R', S'⟩ := stp_scd hu hE hc hcp hp hM (bt_st c) S
  have h := S'
  refine ⟨s', g', R', ⟨h.s0, Nat.le_trans h.sB (two_le ?_), h.gp, h.g1, h.eq, fun i hi j hj => Nat.le_trans (h.rB i hi j hj) (two_le ?_), fun i hi => Nat.le_trans (h.yB i hi) (two_le ?_)⟩⟩
  · have := st_succ c; omega
  · have := bt_succ c; omega
  · have := st_succ c; omega
theorem st_le {k : Nat} (h : k ≤ 6) : st k ≤ 63 * k := by
  have : k = 0 ∨ k = 1 ∨ k = 2 ∨ k = 3 ∨ k = 4 ∨ k = 5 ∨ k = 6 := by omega
  rcases this with rfl | rfl | rfl | rfl | rfl | rfl | rfl <;> decide
theorem bt_le {k : Nat} (h : k ≤ 6) : bt k ≤ 383 := by
  have : k = 0 ∨ k = 1 ∨ k = 2 ∨ k = 3 ∨ k = 4 ∨ k = 5 ∨ k = 6 := by omega
  rcases this with rfl | rfl | rfl | rfl | rfl | rfl | rfl <;> decide
theorem Ela.sz {u : Nat → Nat} {y n k : Nat} {M : Nat → Nat → Rat} (A : Ela u y n k M) (hn : n ≤ 6) (hk : k ≤ n) (hy : y ≤ 1500) (hu : ∀ j, j ≤ n → 0 < u j ∧ u j ≤ 2 ^ 1500) {i j : Nat} (hi : i < n) (hj : j ≤ n) : Sz 2000 (M i j) := by
  obtain ⟨s, g, R, S⟩ := A.sc
  have h1 := st_le (show k ≤ 6 by omega)
  have h2 := bt_le (show k ≤ 6 by omega)
  exact (S.sz (B := 1500) hu (by omega) (by omega) hi hj).mono (by omega)
/-- at the end: the last column solves, and is so great -/
theorem Ela.done {u : Nat → Nat} {y n : Nat} {M : Nat → Nat → Rat} (A : Ela u y n n M) (hn : n ≤ 6) (hE : 0 < u n) : ∃ D : Nat, 0 < D ∧ D ≤ 2 ^ (63 * n) ∧ ∀ i, i < n → Bd (D * u n) (2 ^ (y + 63 * n)) (M i n) := by
  obtain ⟨s, g, R, S⟩ := A.sc
  have h1 := st_le hn
  refine ⟨s.natAbs, by have := S.s0; omega, Nat.le_trans S.sB (two_le (by omega)), fun i hi => ?_⟩
  have e := S.eq i hi n (Nat.le_refl n)
  rw [S.g1 i hi] at e
  have : ((1 : Nat) : Rat) = 1 := rfl
  rw [this, Rat.mul_one] at e
  have hN := Nat.le_trans (S.yB i hi) (two_le (show y + st n ≤ y + 63 * n by omega))
  rcases Int.natAbs_eq s with z | z
  · refine ⟨R i n, ?_, hN⟩
    rw [← e, Rat.natCast_mul]
    have : ((s.natAbs : Nat) : Rat) = (s : Rat) := by
      have : (((s.natAbs : Nat) : Int) : Rat) = (s : Rat) := by rw [← z]
      rw [← this]; exact_mod_cast rfl
    rw [this]
  · refine ⟨-R i n, ?_, by rw [Int.natAbs_neg]; exact hN⟩
    rw [Rat.intCast_neg, ← e, Rat.natCast_mul]
    have : ((s.natAbs : Nat) : Rat) = -(s : Rat) := by
      have h : (((s.natAbs : Nat) : Int) : Rat) = -(s : Rat) := by
        have : ((s.natAbs : Nat) : Int) = -s := by omega
        rw [this, Rat.intCast_neg]
      rw [← h]; exact_mod_cast rfl
    rw [this]; grind
end Mh
set_option linter.all false
set_option autoImplicit false
namespace Mh
/-! ### chains -/
structure Ch where
  n : Nat
  gain : Nat → Rat
  brs : Nat → List (Rat × Nat)
def bm : List (Rat × Nat) → (Nat → Rat) → Rat
  | [], _ => 0
  | b :: r, f => b.1 * f b.2 + bm r f
structure Ch.Ok (C : Ch) : Prop where
  n0 : 0 < C.n
  pos : ∀ x, x < C.n → ∀ b ∈ C.brs x, 0 < b.1
  one : ∀ x, x < C.n → bm (C.brs x) (fun _ => 1) = 1
  tg : ∀ x, x < C.n → ∀ b ∈ C.brs x, b.2 < C.n
theorem bm_congr {l : List (Rat × Nat)} {f g : Nat → Rat} (h : ∀ b ∈ l, f b.2 = g b.2) : bm l f = bm l g := by
  induction l with
  | nil => rfl
  | cons b r ih =>
    simp only [bm]
    rw [h b List.mem_cons_self, ih fun c hc => h c (List.mem_cons_of_mem _ hc)]
theorem bm_add (l : List (Rat × Nat)) (f g : Nat → Rat) : bm l (fun t => f t + g t) = bm l f + bm l g := by
  induction l with
  | nil => simp only [bm]; grind
  | cons b r ih => simp only [bm]; rw [ih]; grind
theorem bm_mul (l : List (Rat × Nat)) (c : Rat) (f : Nat → Rat) : bm l (fun t => c * f t) = c * bm l f := by
  induction l with
  | nil => simp only [bm]; grind
  | cons b r ih => simp only [bm]; rw [ih]; grind
theorem bm_neg (l : List (Rat × Nat)) (f : Nat → Rat) : bm l (fun t => - f t) = - bm l f := by
  induction l with
  | nil => simp only [bm]; grind
  | cons b r ih => simp only [bm]; rw [ih]; grind
theorem bm_append (l r : List (Rat × Nat)) (f : Nat → Rat) : bm (l ++ r) f = bm l f + bm r f := by
  induction l with
  | nil => simp only [bm, List.nil_append]; grind
  | cons b l ih => simp only [bm, List.cons_append]; rw [ih]; grind
theorem bm_sm (l : List (Rat × Nat)) (k : Nat) (g : Nat → Nat → Rat) : bm l (fun t => sm k (fun j => g j t)) = sm k (fun j => bm l (g j)) := by
  induction l with
  | nil => simp only [bm]; rw [sm_zero]; intro _ _; rfl
  | cons b r ih => simp only [bm]; rw [ih, sm_add, sm_mul]
theorem bm_const (l : List (Rat × Nat)) (c : Rat) : bm l (fun _ => c) = c * bm l (fun _ => 1) := by
  rw [← bm_mul]; exact bm_congr fun b _ => by grind
theorem bm_le {l : List (Rat × Nat)} {f g : Nat → Rat} (hp : ∀ b ∈ l, 0 < b.1) (h : ∀ b ∈ l, f b.2 ≤ g b.2) : bm l f ≤ bm l g := by
  induction l with
  | nil => exact Rat.le_refl
  | cons b r ih =>
    simp only [bm]
    have h1 := ih (fun c hc => hp c (List.mem_cons_of_mem _ hc)) (fun c hc => h c (List.mem_cons_of_mem _ hc))
    have h2 := Rat.mul_le_mul_of_nonneg_left (h b List.mem_cons_self) (Rat.le_of_lt (hp b List.mem_cons_self))
    grind
theorem bm_eq_of {l : List (Rat × Nat)} {f : Nat → Rat} {m : Rat} (hp : ∀ b ∈ l, 0 < b.1) (h : ∀ b ∈ l, f b.2 ≤ m) (hs : m * bm l (fun _ => 1) ≤ bm l f) : ∀ b ∈ l, f b.2 = m := by
  induction l with
  | nil => intro b hb; cases hb
  | cons b r ih =>
    simp only [bm] at hs
    have hb0 := hp b List.mem_cons_self
    have hb1 := h b List.mem_cons_self
    have hp' : ∀ c ∈ r, 0 < c.1 := fun c hc => hp c (List.mem_cons_of_mem _ hc)
    have h' : ∀ c ∈ r, f c.2 ≤ m := fun c hc => h c (List.mem_cons_of_mem _ hc)
    have h1 : bm r f ≤ m * bm r (fun _ => 1) := by
      rw [← bm_const]; exact bm_le hp' h'
    have h2 := Rat.mul_le_mul_of_nonneg_left hb1 (Rat.le_of_lt hb0)
    have h3 : m * bm r (fun _ => 1) ≤ bm r f := by grind
    have h4 : b.1 * m ≤ b.1 * f b.2 := by grind
    have h5 : m ≤ f b.2 := Rat.le_of_mul_le_mul_left h4 hb0
    intro c hc
    rcases List.mem_cons.mp hc with e | hc
    · rw [e]; exact Rat.le_antisymm hb1 h5
    · exact ih hp' h' h3 c hc
inductive Reach (C : Ch) : Nat → Nat → Prop where
  | refl (x : Nat) : Reach C x x
  | step {x y : Nat} {b : Rat × Nat} : Reach C x y → b ∈ C.brs y → Reach C x b.2
theorem Reach.trans {C : Ch} {x y z : Nat} (h : Reach C x y) (h' : Reach C y z) : Reach C x z := by
  induction h' with
  | refl => exact h
  | step _ hb ih => exact ih.step hb
theorem Reach.lt {C : Ch} (ok : C.Ok) {x y : Nat} (h : Reach C x y) (hx : x < C.n) : y < C.n := by
  induction h with
  | refl => exact hx
  | step _ hb ih => exact ok.tg _ ih _ hb
theorem argmax {n : Nat} (hn : 0 < n) (V : Nat → Rat) : ∃ m, m < n ∧ ∀ x, x < n → V x ≤ V m := by
  induction n with
  | zero => omega
  | succ n ih =>
    by_cases h0 : n = 0
    · subst h0
      refine ⟨0, by omega, fun x hx => ?_⟩
      have : x = 0 := by omega
      rw [this]; exact Rat.le_refl
    · obtain ⟨m, hm, h⟩ := ih (by omega)
      by_cases hv : V m ≤ V n
      · refine ⟨n, by omega, fun x hx => ?_⟩
        by_cases e : x = n
        · rw [e]; exact Rat.le_refl
        · exact Rat.le_trans (h x (by omega)) hv
      · refine ⟨m, by omega, fun x hx => ?_⟩
        by_cases e : x = n
        · rw [e]; grind
        · exact h x (by omega)
theorem maxp {C : Ch} (ok : C.Ok) {S : Nat → Prop} {V : Nat → Rat} (h1 : ∀ x, x < C.n → S x → V x ≤ bm (C.brs x) V) (h0 : ∀ x, x < C.n → ¬ S x → V x ≤ 0)
    (hr : ∀ x, x < C.n → S x → ∃ y, Reach C x y ∧ ¬ S y) : ∀ x, x < C.n → V x ≤ 0 := by
  obtain ⟨m, hm, hmax⟩ := argmax ok.n0 V
  refine fun x hx => Rat.le_trans (hmax x hx) (Classical.byContradiction fun hno => ?_)
  have hpos : 0 < V m := by grind
  have hS : ∀ y, y < C.n → V y = V m → S y := fun y hy e => Classical.byContradiction fun z => by have := h0 y hy z; rw [e] at this; grind
  have key : ∀ y, Reach C m y → y < C.n ∧ V y = V m := by
    intro y r
    induction r with
    | refl => exact ⟨hm, rfl⟩
    | @step y b _ hb ih =>
      obtain ⟨hy, e⟩ := ih
      have h2 := h1 y hy (hS y hy e)
      refine ⟨ok.tg y hy b hb, bm_eq_of (f := V) (ok.pos y hy) (fun c hc => hmax c.2 (ok.tg y hy c hc)) ?_ b hb⟩
      rw [ok.one y hy, e] at *
      grind
  obtain ⟨y, r, ny⟩ := hr m hm (hS m hm rfl)
  exact ny (hS y (key y r).1 (key y r).2)
/-! ### the rows of met -/
/-- the sum of the chances of the branches to y -/
def cf (l : List (Rat × Nat)) (y : Nat) : Rat := bm l (fun t => if t = y then 1 else 0)
/-- the rows of met when the branches l i of each place p i are taken in -/
def mrow (k : Nat) (p : Nat → Nat) (kn ext : Nat → Rat) (l : List (Rat × Nat)) (i : Nat) : Nat → Rat := fun j =>
  if j < k then (if p j = p i then 1 else 0) - cf l (p j) else ext (p i) + bm l kn
def met (C : Ch) (k : Nat) (p : Nat → Nat) (kn ext : Nat → Rat) : Nat → Nat → Rat := fun i => mrow k p kn ext (C.brs (p i)) i
/-- numbers at the places p, and those that are known -/
def ful (k : Nat) (p : Nat → Nat) (kn x : Nat → Rat) : Nat → Rat := fun t => kn t + sm k (fun j => if t = p j then x j else 0)
theorem ful_bm (l : List (Rat × Nat)) (k : Nat) (p : Nat → Nat) (kn x : Nat → Rat) : bm l (ful k p kn x) = bm l kn + sm k (fun j => cf l (p j) * x j) := by
  unfold ful
  rw [bm_add, bm_sm]
  congr 1
  refine sm_congr fun j _ => ?_
  unfold cf
  rw [Rat.mul_comm, ← bm_mul]
  exact bm_congr fun b _ => by split <;> grind
theorem ful_at {k : Nat} {p : Nat → Nat} {kn x : Nat → Rat} (inj : ∀ i j, i < k → j < k → p i = p j → i = j) {i : Nat} (hi : i < k) (h0 : kn (p i) = 0) : ful k p kn x (p i) = x i := by
  unfold ful
  rw [h0, sm_one (k := i) hi (fun j hj z => if_neg fun e => z (inj i j hi hj e).symm), if_pos rfl]; grind
theorem ful_out {k : Nat} {p : Nat → Nat} {kn x : Nat → Rat} {t : Nat} (h : ∀ j, j < k → t ≠ p j) : ful k p kn x t = kn t := by
  unfold ful
  rw [sm_zero fun j hj => if_neg (h j hj)]; grind
theorem met_eq {C : Ch} {k : Nat} {p : Nat → Nat} {kn ext x : Nat → Rat} {t : Rat} (inj : ∀ i j, i < k → j < k → p i = p j → i = j) (h : Sat t (met C k p kn ext) k x) {i : Nat} (hi : i < k) :
    x i = t * (ext (p i) + bm (C.brs (p i)) kn) + sm k (fun j => cf (C.brs (p i)) (p j) * x j) := by
  have e := h i hi
  have e1 : sm k (fun j => met C k p kn ext i j * x j) = sm k (fun j => (if p j = p i then 1 else 0) * x j) - sm k (fun j => cf (C.brs (p i)) (p j) * x j) := by
    rw [← sm_sub]
    refine sm_congr fun j hj => ?_
    unfold met mrow; rw [if_pos hj]; grind
  have e2 : sm k (fun j => (if p j = p i then 1 else 0) * x j) = x i := by
    rw [sm_one (k := i) hi (fun j hj z => by rw [if_neg fun e => z (inj j i hj hi e)]; grind), if_pos rfl]; grind
  have e3 : met C k p kn ext i k = ext (p i) + bm (C.brs (p i)) kn := by unfold met mrow; rw [if_neg (by omega)]
  rw [e1, e2, e3] at e
  grind
theorem met_triv {C : Ch} (ok : C.Ok) {k : Nat} {p : Nat → Nat} {kn ext : Nat → Rat} (inj : ∀ i j, i < k → j < k → p i = p j → i = j) (hp : ∀ i, i < k → p i < C.n) (hr : ∀ i, i < k → ∃ y, Reach C (p i) y ∧ ∀ j, j < k → y ≠ p j) : Triv (met C k p kn ext) k := by
  intro v hv
  have hV : ∀ i, i < k → ful k p (fun _ => 0) v (p i) = bm (C.brs (p i)) (ful k p (fun _ => 0) v) := by
    intro i hi
    rw [ful_at inj hi rfl, ful_bm, met_eq inj hv hi, bm_const]; grind
  have hr' : ∀ x, x < C.n → (∃ i, i < k ∧ x = p i) → ∃ y, Reach C x y ∧ ¬ ∃ i, i < k ∧ y = p i := by
    rintro x hx ⟨i, hi, rfl⟩
    obtain ⟨y, r, hy⟩ := hr i hi
    exact ⟨y, r, fun ⟨j, hj, e⟩ => hy j hj e⟩
  have h1 := maxp ok (S := fun x => ∃ i, i < k ∧ x = p i) (V := ful k p (fun _ => 0) v) (by rintro x hx ⟨i, hi, rfl⟩; rw [← hV i hi]; exact Rat.le_refl)
    (fun x hx z => by rw [ful_out (fun j hj e => z ⟨j, hj, e⟩)]; exact Rat.le_refl) hr'
  have h2 := maxp ok (S := fun x => ∃ i, i < k ∧ x = p i) (V := fun x => - ful k p (fun _ => 0) v x) (by rintro x hx ⟨i, hi, rfl⟩; rw [bm_neg, ← hV i hi]; exact Rat.le_refl)
    (fun x hx z => by rw [ful_out (fun j hj e => z ⟨j, hj, e⟩)]; exact Rat.le_refl) hr'
  intro i hi
  have a := h1 (p i) (hp i hi)
  have b := h2 (p i) (hp i hi)
  simp only [ful_at (kn := fun _ => 0) (x := v) inj hi rfl] at a b
  grind
theorem met_sat {C : Ch} {k : Nat} {p : Nat → Nat} {kn ext x : Nat → Rat} (inj : ∀ i j, i < k → j < k → p i = p j → i = j) (h0 : ∀ i, i < k → kn (p i) = 0) (h : Sat 1 (met C k p kn ext) k x) :
    ∀ i, i < k → ful k p kn x (p i) = ext (p i) + bm (C.brs (p i)) (ful k p kn x) := by
  intro i hi
  rw [ful_at inj hi (h0 i hi), ful_bm, met_eq inj h hi]; grind
theorem sol_ex {n : Nat} {M : Nat → Nat → Rat} (h : Triv M n) : ∃ x, Sat 1 M n x := by
  have key : ∀ k, k ≤ n → ∃ M', Idc k M' n ∧ Triv M' n ∧ ∀ x, Sat 1 M' n x → Sat 1 M n x := by
    intro k
    induction k with
    | zero => intro _; exact ⟨M, fun _ _ j hj => by omega, h, fun _ z => z⟩
    | succ k ih =>
      intro hk
      obtain ⟨M', a, b, c⟩ := ih (by omega)
      obtain ⟨p, h1, h2, h3⟩ := pivot (by omega) a b
      exact ⟨stp k p M', stp_idc (by omega) h1 h2 h3 a, stp_triv (by omega) h2 h3 b, fun x z => c x (stp_sat (by omega) h2 h3 z)⟩
  obtain ⟨M', a, _, c⟩ := key n (Nat.le_refl n)
  exact ⟨_, c _ (idc_sat a)⟩
/-! ### a closed class -/
/-- the places p 0, .. of a closed class -/
structure Cls (C : Ch) (k : Nat) (p : Nat → Nat) : Prop where
  k0 : 0 < k
  inj : ∀ i j, i < k → j < k → p i = p j → i = j
  lt : ∀ i, i < k → p i < C.n
  cl : ∀ i, i < k → ∀ b ∈ C.brs (p i), ∃ j, j < k ∧ b.2 = p j
  rc : ∀ i j, i < k → j < k → Reach C (p i) (p j)
/-- the rows of shares_in -/
def shr (C : Ch) (k : Nat) (p : Nat → Nat) : Nat → Nat → Rat := fun i j =>
  if i = 0 then 1 else if j < k then (if p j = p i then -1 else 0) + cf (C.brs (p j)) (p i) else 0
/-- a row of numbers that is met by the places behind the first -/
def Sty (C : Ch) (k : Nat) (p : Nat → Nat) (v : Nat → Rat) : Prop := ∀ i, 0 < i → i < k → sm k (fun j => v j * cf (C.brs (p j)) (p i)) = v i
theorem shr_sty {C : Ch} {k : Nat} {p : Nat → Nat} {t : Rat} {v : Nat → Rat} (L : Cls C k p) (h : Sat t (shr C k p) k v) : sm k v = t ∧ Sty C k p v := by
  constructor
  · have e := h 0 L.k0
    have e1 : sm k (fun j => shr C k p 0 j * v j) = sm k v := sm_congr fun j _ => by unfold shr; rw [if_pos rfl]; grind
    rw [e1] at e
    rw [e]; unfold shr; rw [if_pos rfl]; grind
  · intro i h0 hi
    have e := h i hi
    have e1 : sm k (fun j => shr C k p i j * v j) = sm k (fun j => (if p j = p i then -1 else 0) * v j) + sm k (fun j => v j * cf (C.brs (p j)) (p i)) := by
      rw [← sm_add]
      refine sm_congr fun j hj => ?_
      unfold shr; rw [if_neg (by omega), if_pos hj]; grind
    have e2 : sm k (fun j => (if p j = p i then -1 else 0) * v j) = - v i := by
      rw [sm_one (k := i) hi (fun j hj z => by rw [if_neg fun e => z (L.inj j i hj hi e)]; grind), if_pos rfl]; grind
    have e3 : shr C k p i k = 0 := by unfold shr; rw [if_neg (by omega), if_neg (by omega)]
    rw [e1, e2, e3] at e
    grind
/-- what a row that is met says of numbers that are 0 at the first place -/
theorem Sty.key {C : Ch} {k : Nat} {p : Nat → Nat} {v F : Nat → Rat} (L : Cls C k p) (h : Sty C k p v) (hF : F (p 0) = 0) : sm k (fun j => v j * (bm (C.brs (p j)) F - F (p j))) = 0 := by
  have e1 : ∀ j, j < k → bm (C.brs (p j)) F = sm k (fun i => cf (C.brs (p j)) (p i) * F (p i)) := by
    intro j hj
    have : bm (C.brs (p j)) F = bm (C.brs (p j)) (ful k p (fun _ => 0) (fun i => F (p i))) := by
      refine bm_congr fun b hb => ?_
      obtain ⟨i, hi, e⟩ := L.cl j hj b hb
      rw [e, ful_at L.inj hi rfl]
    rw [this, ful_bm, bm_const]; grind
  have e2 : sm k (fun j => v j * bm (C.brs (p j)) F) = sm k (fun i => v i * F (p i)) := by
    have : sm k (fun j => v j * bm (C.brs (p j)) F) = sm k (fun j => sm k (fun i => v j * cf (C.brs (p j)) (p i) * F (p i))) := by
      refine sm_congr fun j hj => ?_
      rw [e1 j hj, ← sm_mul]; exact sm_congr fun i _ => by grind
    rw [this, sm_swap]
    refine sm_congr fun i hi => ?_
    rw [sm_mulr]
    by_cases z : i = 0
    · rw [z, hF]; grind
    · rw [h i (by omega) hi]
  have : sm k (fun j => v j * (bm (C.brs (p j)) F - F (p j))) = sm k (fun j => v j * bm (C.brs (p j)) F) - sm k (fun j => v j * F (p j)) := by
    rw [← sm_sub]; exact sm_congr fun j _ => by grind
  rw [this, e2]; grind
theorem sm_head {k : Nat} (h : 0 < k) (f : Nat → Rat) : sm k f = f 0 + sm (k - 1) (fun j => f (j + 1)) := by
  obtain ⟨m, rfl⟩ : ∃ m, k = m + 1 := ⟨k - 1, by omega⟩
  clear h
  induction m with
  | zero => show (0 : Rat) + f 0 = f 0 + 0; grind
  | succ m ih =>
    show sm (m + 1) f + f (m + 1) = f 0 + (sm m (fun j => f (j + 1)) + f (m + 1))
    rw [ih]
    show f 0 + sm m (fun j => f (j + 1)) + f (m + 1) = _
    grind
/-- the rows of the places behind the first, with 0 at the first -/
theorem Cls.tail_triv {C : Ch} (ok : C.Ok) {k : Nat} {p : Nat → Nat} (L : Cls C k p) {kn ext : Nat → Rat} : Triv (met C (k - 1) (fun i => p (i + 1)) kn ext) (k - 1) := by
  refine met_triv ok (fun i j hi hj e => ?_) (fun i hi => L.lt _ (by omega)) fun i hi => ⟨p 0, L.rc _ _ (by omega) L.k0, fun j hj e => ?_⟩
  · have := L.inj _ _ (by omega) (by omega) e; omega
  · have := L.inj _ _ L.k0 (by omega) e; omega
theorem Cls.test {C : Ch} (ok : C.Ok) {k : Nat} {p : Nat → Nat} (L : Cls C k p) (f : Nat → Rat) : ∃ F : Nat → Rat, F (p 0) = 0 ∧ (∀ i, 0 < i → i < k → F (p i) = f (p i) + bm (C.brs (p i)) F) ∧ ((∀ i, i < k → 0 ≤ f (p i)) → 0 ≤ bm (C.brs (p 0)) F) := by
  obtain ⟨x, hx⟩ := sol_ex (L.tail_triv ok (kn := fun _ => 0) (ext := f))
  have inj : ∀ i j, i < k - 1 → j < k - 1 → p (i + 1) = p (j + 1) → i = j := fun i j hi hj e => by have := L.inj _ _ (by omega) (by omega) e; omega
  have hs := met_sat inj (fun _ _ => rfl) hx
  refine ⟨ful (k - 1) (fun i => p (i + 1)) (fun _ => 0) x, ?_, ?_, ?_⟩
  · exact ful_out fun j hj e => by have := L.inj _ _ L.k0 (by omega) e; omega
  · intro i h0 hi
    have := hs (i - 1) (by omega)
    simp only [show i - 1 + 1 = i by omega] at this
    exact this
  · intro hf
    have h := maxp ok (S := fun x => ∃ i, i < k - 1 ∧ x = p (i + 1)) (V := fun y => - ful (k - 1) (fun i => p (i + 1)) (fun _ => 0) x y) ?_ ?_ ?_
    · have : bm (C.brs (p 0)) (fun _ => 0) ≤ bm (C.brs (p 0)) (ful (k - 1) (fun i => p (i + 1)) (fun _ => 0) x) := bm_le (ok.pos _ (L.lt 0 L.k0)) fun b hb => by
        have := h b.2 (ok.tg _ (L.lt 0 L.k0) b hb)
        grind
      rw [bm_const] at this
      grind
    · rintro y hy ⟨i, hi, rfl⟩
      rw [bm_neg, hs i hi]
      have := hf (i + 1) (by omega)
      grind
    · intro y hy z
      rw [ful_out (fun j hj e => z ⟨j, hj, e⟩)]; exact Rat.le_refl
    · rintro y hy ⟨i, hi, rfl⟩
      refine ⟨p 0, L.rc _ _ (by omega) L.k0, fun ⟨j, hj, e⟩ => ?_⟩
      have := L.inj _ _ L.k0 (by omega) e; omega
/-- with a test f: what the row's numbers weigh -/
theorem Sty.weigh {C : Ch} {k : Nat} {p : Nat → Nat} {v f F : Nat → Rat} (L : Cls C k p) (h : Sty C k p v) (hF : F (p 0) = 0) (hf : ∀ i, 0 < i → i < k → F (p i) = f (p i) + bm (C.brs (p i)) F) :
    v 0 * bm (C.brs (p 0)) F = sm (k - 1) (fun j => v (j + 1) * f (p (j + 1))) := by
  have e := h.key L hF
  rw [sm_head L.k0] at e
  have e2 : sm (k - 1) (fun j => v (j + 1) * (bm (C.brs (p (j + 1))) F - F (p (j + 1)))) = - sm (k - 1) (fun j => v (j + 1) * f (p (j + 1))) := by
    have : - sm (k - 1) (fun j => v (j + 1) * f (p (j + 1))) = sm (k - 1) (fun j => (-1) * (v (j + 1) * f (p (j + 1)))) := by rw [sm_mul]; grind
    rw [this]
    refine sm_congr fun j hj => ?_
    rw [hf (j + 1) (by omega) (by omega)]; grind
  rw [e2, hF] at e
  grind
theorem shr_triv {C : Ch} (ok : C.Ok) {k : Nat} {p : Nat → Nat} (L : Cls C k p) : Triv (shr C k p) k := by
  intro v hv
  obtain ⟨h0, hs⟩ := shr_sty L hv
  have z0 : v 0 = 0 := by
    obtain ⟨F, hF, hf, hp⟩ := L.test ok (fun _ => 1)
    have e := hs.weigh L (f := fun _ => 1) hF hf
    rw [sm_head L.k0] at h0
    have e1 : sm (k - 1) (fun j => v (j + 1) * 1) = sm (k - 1) (fun j => v (j + 1)) := sm_congr fun j _ => by grind
    rw [e1] at e
    have hw := hp (fun _ _ => by decide)
    have h2 : v 0 * (1 + bm (C.brs (p 0)) F) = 0 := by grind
    rcases Rat.mul_eq_zero.mp h2 with z | z
    · exact z
    · grind
  intro i hi
  by_cases e0 : i = 0
  · rw [e0]; exact z0
  · obtain ⟨F, hF, hf, hp⟩ := L.test ok (fun t => if t = p i then 1 else 0)
    have e := hs.weigh L (f := fun t => if t = p i then 1 else 0) hF hf
    rw [z0, sm_one (k := i - 1) (by omega) (fun j hj z => by rw [if_neg fun q => z (by have := L.inj _ _ (by omega) hi q; omega)]; grind), show i - 1 + 1 = i by omega, if_pos rfl] at e
    grind
theorem Sty.first {C : Ch} (ok : C.Ok) {k : Nat} {p : Nat → Nat} {v : Nat → Rat} (L : Cls C k p) (h : Sty C k p v) (h1 : sm k v = 1) : v 0 ≠ 0 := by
  obtain ⟨F, hF, hf, hp⟩ := L.test ok (fun _ => 1)
  have e := h.weigh L (f := fun _ => 1) hF hf
  have e1 : sm (k - 1) (fun j => v (j + 1) * 1) = sm (k - 1) (fun j => v (j + 1)) := sm_congr fun j _ => by grind
  rw [e1] at e
  rw [sm_head L.k0] at h1
  intro z
  rw [z] at e h1
  grind
/-- the gain of a class and numbers that are met behind its first place: they are met there, too -/
theorem Sty.lead {C : Ch} (ok : C.Ok) {k : Nat} {p : Nat → Nat} {v F : Nat → Rat} {g : Rat} (L : Cls C k p) (h : Sty C k p v) (h1 : sm k v = 1) (hg : g = sm k (fun j => v j * C.gain (p j))) (hF : F (p 0) = 0)
    (hf : ∀ i, 0 < i → i < k → F (p i) = (C.gain (p i) - g) + bm (C.brs (p i)) F) : ∀ i, i < k → g + F (p i) = C.gain (p i) + bm (C.brs (p i)) F := by
  intro i hi
  by_cases e0 : i = 0
  · subst e0
    have e := h.weigh L (f := fun t => C.gain t - g) hF hf
    have hv := h.first ok L h1
    rw [sm_head L.k0] at h1 hg
    have e1 : sm (k - 1) (fun j => v (j + 1) * (C.gain (p (j + 1)) - g)) = sm (k - 1) (fun j => v (j + 1) * C.gain (p (j + 1))) - sm (k - 1) (fun j => v (j + 1)) * g := by
      rw [← sm_mulr, ← sm_sub]; exact sm_congr fun j _ => by grind
    rw [e1] at e
    have e2 : v 0 * (bm (C.brs (p 0)) F + C.gain (p 0) - g) = 0 := by grind
    rcases Rat.mul_eq_zero.mp e2 with z | z
    · exact absurd z hv
    · rw [hF]; grind
  · rw [hf i (by omega) hi]; grind
/-! ### what the gains and leads say of the first steps -/
structure GH (C : Ch) (g h : Nat → Rat) : Prop where
  G : ∀ x, x < C.n → bm (C.brs x) g = g x
  H : ∀ x, x < C.n → g x + h x = C.gain x + bm (C.brs x) h
def told (C : Ch) : Nat → Nat → Rat
  | 0, _ => 0
  | m + 1, x => C.gain x + bm (C.brs x) (told C m)
def behind (C : Ch) (h : Nat → Rat) : Nat → Nat → Rat
  | 0, x => h x
  | m + 1, x => bm (C.brs x) (behind C h m)
theorem GH.told_eq {C : Ch} (ok : C.Ok) {g h : Nat → Rat} (A : GH C g h) : ∀ m x, x < C.n → told C m x = (m : Rat) * g x + h x - behind C h m x
  | 0, x, hx => by show (0 : Rat) = ((0 : Nat) : Rat) * g x + h x - h x; have : ((0 : Nat) : Rat) = 0 := rfl
                   rw [this]; grind
  | m + 1, x, hx => by
    have e : bm (C.brs x) (told C m) = bm (C.brs x) (fun y => (m : Rat) * g y + (h y + - behind C h m y)) := bm_congr fun b hb => by rw [A.told_eq ok m b.2 (ok.tg x hx b hb)]; grind
    show C.gain x + bm (C.brs x) (told C m) = ((m + 1 : Nat) : Rat) * g x + h x - bm (C.brs x) (behind C h m)
    rw [e, bm_add, bm_mul, bm_add, bm_neg, A.G x hx, Rat.natCast_add]
    have := A.H x hx
    have : ((1 : Nat) : Rat) = 1 := rfl
    rw [this]; grind
theorem behind_between {C : Ch} (ok : C.Ok) {h : Nat → Rat} {lo hi : Rat} (hl : ∀ x, x < C.n → lo ≤ h x) (hh : ∀ x, x < C.n → h x ≤ hi) : ∀ m x, x < C.n → lo ≤ behind C h m x ∧ behind C h m x ≤ hi
  | 0, x, hx => ⟨hl x hx, hh x hx⟩
  | m + 1, x, hx => by
    have h1 : bm (C.brs x) (fun _ => lo) ≤ bm (C.brs x) (behind C h m) := bm_le (ok.pos x hx) fun b hb => (behind_between ok hl hh m b.2 (ok.tg x hx b hb)).1
    have h2 : bm (C.brs x) (behind C h m) ≤ bm (C.brs x) (fun _ => hi) := bm_le (ok.pos x hx) fun b hb => (behind_between ok hl hh m b.2 (ok.tg x hx b hb)).2
    rw [bm_const, ok.one x hx] at h1 h2
    show lo ≤ bm (C.brs x) (behind C h m) ∧ bm (C.brs x) (behind C h m) ≤ hi
    grind
end Mh
set_option linter.all false
set_option autoImplicit false
namespace Mh
/-! ### how great the means are -/
/-- w: all chances at x are whole parts of it -/
structure Ch.Sized (C : Ch) (w : Nat → Nat) : Prop where
  n6 : C.n ≤ 6
  w0 : ∀ x, x < C.n → 0 < w x ∧ w x ≤ 24
  wt : ∀ x, x < C.n → ∀ b ∈ C.brs x, ∃ a : Nat, b.1 * (w x : Rat) = (a : Rat)
  gn : ∀ x, x < C.n → Bd 10 500 (C.gain x)
  bl : ∀ x, x < C.n → (C.brs x).length ≤ 6
theorem le_of_cast {a b : Nat} (h : (a : Rat) ≤ (b : Rat)) : a ≤ b := by exact_mod_cast h
theorem cast_le {a b : Nat} (h : a ≤ b) : (a : Rat) ≤ (b : Rat) := by exact_mod_cast h
theorem bm_bd {l : List (Rat × Nat)} {w E Y : Nat} {f : Nat → Rat} (hw : ∀ b ∈ l, ∃ a : Nat, b.1 * (w : Rat) = (a : Rat)) (hf : ∀ b ∈ l, Bd E Y (f b.2)) : ∃ A : Nat, bm l (fun _ => 1) * (w : Rat) = (A : Rat) ∧ Bd (w * E) (A * Y) (bm l f) := by
  induction l with
  | nil => exact ⟨0, by simp only [bm]; rw [Rat.zero_mul]; rfl, by simp only [bm]; exact .zero _ _⟩
  | cons b r ih =>
    obtain ⟨A, e, h⟩ := ih (fun c hc => hw c (List.mem_cons_of_mem _ hc)) (fun c hc => hf c (List.mem_cons_of_mem _ hc))
    obtain ⟨a, ea⟩ := hw b List.mem_cons_self
    refine ⟨a + A, ?_, ?_⟩
    · simp only [bm]; rw [Rat.natCast_add, ← ea, ← e]; grind
    · simp only [bm]
      have h1 : Bd w a b.1 := ⟨(a : Int), by rw [ea]; exact_mod_cast rfl, by simp⟩
      have := (h1.mul (hf b List.mem_cons_self)).add h
      rw [Nat.add_mul]; exact this
theorem Ch.Sized.mean {C : Ch} {w : Nat → Nat} (s : C.Sized w) (ok : C.Ok) {x E Y : Nat} {f : Nat → Rat} (hx : x < C.n) (hf : ∀ b ∈ C.brs x, Bd E Y (f b.2)) : Bd (w x * E) (w x * Y) (bm (C.brs x) f) := by
  obtain ⟨A, e, h⟩ := bm_bd (s.wt x hx) hf
  rw [ok.one x hx, Rat.one_mul] at e
  have : w x = A := by exact_mod_cast e
  rw [this] at h ⊢
  exact h
theorem cf_le {l : List (Rat × Nat)} (hp : ∀ b ∈ l, 0 < b.1) (h1 : bm l (fun _ => 1) = 1) (y : Nat) : 0 ≤ cf l y ∧ cf l y ≤ 1 := by
  constructor
  · have : bm l (fun _ => 0) ≤ cf l y := bm_le hp fun b hb => by split <;> grind
    rw [bm_const] at this; grind
  · have : cf l y ≤ bm l (fun _ => 1) := bm_le hp fun b hb => by split <;> grind
    rw [h1] at this; exact this
theorem int_of_le {q : Rat} {w : Nat} {z : Int} (h : q * (w : Rat) = (z : Rat)) (h1 : -1 ≤ q) (h2 : q ≤ 1) : z.natAbs ≤ w := by
  have hw : (0 : Rat) ≤ (w : Rat) := Rat.natCast_nonneg
  have a : (z : Rat) ≤ ((w : Int) : Rat) := by
    have e : ((w : Int) : Rat) = (w : Rat) := by exact_mod_cast rfl
    rw [← h, e]
    have := Rat.mul_le_mul_of_nonneg_right h2 hw
    grind
  have b : ((-(w : Int) : Int) : Rat) ≤ (z : Rat) := by
    have e : ((-(w : Int) : Int) : Rat) = -(w : Rat) := by rw [Rat.intCast_neg]; exact_mod_cast rfl
    rw [← h, e]
    have := Rat.mul_le_mul_of_nonneg_right h1 hw
    grind
  have a' := Rat.intCast_le_intCast.mp a
  have b' := Rat.intCast_le_intCast.mp b
  omega
/-- a factor of the rows, w times: a whole number -/
theorem fac_int {C : Ch} {w : Nat → Nat} (s : C.Sized w) (ok : C.Ok) {x y : Nat} (hx : x < C.n) {d : Rat} (hd : d = 0 ∨ d = 1) : ∃ z : Int, (d - cf (C.brs x) y) * (w x : Rat) = (z : Rat) ∧ z.natAbs ≤ 2 ^ 5 := by
  have h1 : Bd (w x * 1) (w x * 1) (cf (C.brs x) y) := s.mean ok hx fun b hb => by
    split
    · exact ⟨1, by rw [Rat.one_mul]; rfl, by decide⟩
    · exact .zero _ _
  rw [Nat.mul_one] at h1
  obtain ⟨z, e, _⟩ := h1
  have hc := cf_le (ok.pos x hx) (ok.one x hx) y
  have hw := s.w0 x hx
  rcases hd with rfl | rfl
  · have e2 : ((0 : Rat) - cf (C.brs x) y) * (w x : Rat) = ((-z : Int) : Rat) := by rw [Rat.intCast_neg, ← e]; grind
    exact ⟨-z, e2, Nat.le_trans (int_of_le e2 (by grind) (by grind)) (by omega)⟩
  · have e2 : ((1 : Rat) - cf (C.brs x) y) * (w x : Rat) = (((w x : Int) - z : Int) : Rat) := by
      rw [Rat.intCast_sub, ← e]
      have : (((w x : Nat) : Int) : Rat) = (w x : Rat) := by exact_mod_cast rfl
      rw [this]; grind
    exact ⟨_, e2, Nat.le_trans (int_of_le e2 (by grind) (by grind)) (by omega)⟩
theorem choose3 {n m : Nat} {Q : Nat → Nat → Int → Prop} (h : ∀ i, i < n → ∀ j, j < m → ∃ z, Q i j z) : ∃ R : Nat → Nat → Int, ∀ i, i < n → ∀ j, j < m → Q i j (R i j) := by
  refine ⟨fun i j => Classical.epsilon (fun z => Q i j z), fun i hi j hj => Classical.epsilon_spec (h i hi j hj)⟩
theorem met_ela {C : Ch} {w : Nat → Nat} (s : C.Sized w) (ok : C.Ok) {k : Nat} {p : Nat → Nat} {kn ext : Nat → Rat} {E y : Nat} (hp : ∀ i, i < k → p i < C.n) (ht : Triv (met C k p kn ext) k)
    (hx : ∀ i, i < k → Bd E (2 ^ y) (ext (p i))) (hk : ∀ t, t < C.n → Bd E (2 ^ y) (kn t)) : Ela (fun j => if j < k then 1 else E) (y + 6) k 0 (met C k p kn ext) := by
  refine ⟨fun i hi j hj => by omega, ht, ?_⟩
  have hR : ∀ i, i < k → ∀ j, j < k + 1 → ∃ z : Int, met C k p kn ext i j * ((w (p i) : Rat) * ((if j < k then 1 else E : Nat) : Rat)) = (z : Rat) ∧ (j < k → z.natAbs ≤ 2 ^ 5) ∧ (j = k → z.natAbs ≤ 2 ^ (y + 6)) := by
    intro i hi j hj
    by_cases h : j < k
    · obtain ⟨z, e, hz⟩ := fac_int s ok (y := p j) (hp i hi) (d := if p j = p i then 1 else 0) (by split; exact .inr rfl; exact .inl rfl)
      refine ⟨z, ?_, fun _ => hz, fun q => by omega⟩
      unfold met mrow
      rw [if_pos h, if_pos h, ← e]
      have : ((1 : Nat) : Rat) = 1 := rfl
      rw [this]; grind
    · have hw := s.w0 (p i) (hp i hi)
      have h1 := (hx i hi).up (w (p i))
      have h2 := s.mean ok (hp i hi) (f := kn) (fun b hb => hk b.2 (ok.tg _ (hp i hi) b hb))
      rw [Nat.mul_comm E] at h1
      obtain ⟨z, e, hz⟩ := h1.add h2
      refine ⟨z, ?_, fun q => absurd q h, fun _ => Nat.le_trans hz ?_⟩
      · unfold met mrow
        rw [if_neg h, if_neg h, ← e, Rat.natCast_mul]
      · rw [Nat.mul_comm (w (p i)), ← Nat.mul_add, Nat.pow_add]
        exact Nat.mul_le_mul_left _ (by omega)
  obtain ⟨R, hR⟩ := choose3 hR
  refine ⟨1, fun i => w (p i), R, by decide, by decide, fun i hi => ?_, fun i hi => by omega, fun i hi j hj => ?_, fun i hi j hj => ?_, fun i hi => ?_⟩
  · have := s.w0 (p i) (hp i hi); omega
  · have := (hR i hi j (by omega)).1
    rw [← this]
    have : ((1 : Int) : Rat) = 1 := rfl
    rw [this]; grind
  · exact (hR i hi j (by omega)).2.1 hj
  · exact (hR i hi k (by omega)).2.2 rfl
theorem shr_ela {C : Ch} {w : Nat → Nat} (s : C.Sized w) (ok : C.Ok) {k : Nat} {p : Nat → Nat} (L : Cls C k p) : Ela (fun j => if j < k then w (p j) else 1) 0 k 0 (shr C k p) := by
  refine ⟨fun i hi j hj => by omega, shr_triv ok L, ?_⟩
  have hR : ∀ i, i < k → ∀ j, j < k + 1 → ∃ z : Int, shr C k p i j * ((if j < k then w (p j) else 1 : Nat) : Rat) = (z : Rat) ∧ (j < k → z.natAbs ≤ 2 ^ 5) ∧ (j = k → z.natAbs ≤ 2 ^ 0) := by
    intro i hi j hj
    by_cases h : j < k
    · rw [if_pos h]
      unfold shr
      by_cases h0 : i = 0
      · rw [if_pos h0]
        have := s.w0 (p j) (L.lt j h)
        exact ⟨(w (p j) : Int), by rw [Rat.one_mul]; exact_mod_cast rfl, fun _ => by simp only [Int.natAbs_natCast]; omega, fun q => by omega⟩
      · rw [if_neg h0, if_pos h]
        obtain ⟨z, e, hz⟩ := fac_int s ok (y := p i) (L.lt j h) (d := if p j = p i then 1 else 0) (by split; exact .inr rfl; exact .inl rfl)
        refine ⟨-z, ?_, fun _ => by rw [Int.natAbs_neg]; exact hz, fun q => by omega⟩
        rw [Rat.intCast_neg, ← e]
        split <;> grind
    · rw [if_neg h]
      unfold shr
      by_cases h0 : i = 0
      · rw [if_pos h0]; exact ⟨1, by rw [Rat.one_mul]; rfl, fun q => absurd q h, fun _ => by decide⟩
      · rw [if_neg h0, if_neg h]; exact ⟨0, by rw [Rat.zero_mul]; rfl, fun q => absurd q h, fun _ => by decide⟩
  obtain ⟨R, hR⟩ := choose3 hR
  refine ⟨1, fun i => 1, R, by decide, by decide, fun i hi => by decide, fun i hi => rfl, fun i hi j hj => ?_, fun i hi j hj => ?_, fun i hi => ?_⟩
  · have := (hR i hi j (by omega)).1
    rw [← this]
    have : ((1 : Int) : Rat) = 1 := rfl
    have : ((1 : Nat) : Rat) = 1 := rfl
    grind
  · exact (hR i hi j (by omega)).2.1 hj
  · exact (hR i hi k (by omega)).2.2 rfl
theorem Bd.sm {E N : Nat} {k : Nat} {f : Nat → Rat} (h : ∀ j, j < k → Bd E N (f j)) : Bd E (k * N) (sm k f) := by
  induction k with
  | zero => simp only [Mh.sm]; exact .zero _ _
  | succ k ih =>
    have := (ih fun j hj => h j (by omega)).add (h k (by omega))
    rw [Nat.succ_mul]; exact this
/-! ### the classes of a chain -/
def at_ (l : List Nat) (i : Nat) : Nat := l.getD i 0
structure Clss (C : Ch) (cls : List (List Nat)) : Prop where
  each : ∀ cl ∈ cls, Cls C cl.length (at_ cl)
  nd : cls.flatten.Nodup
  rch : ∀ x, x < C.n → ∃ cl ∈ cls, ∃ y ∈ cl, Reach C x y
/-- the long gains: at the classes by shares, elsewhere by means -/
structure LG (C : Ch) (cls : List (List Nat)) (g : Nat → Rat) : Prop where
  G : ∀ x, x < C.n → bm (C.brs x) g = g x
  cl : ∀ cl ∈ cls, ∃ v, Sty C cl.length (at_ cl) v ∧ sm cl.length v = 1 ∧ ∀ i, i < cl.length → g (at_ cl i) = sm cl.length (fun j => v j * C.gain (at_ cl j))
theorem at_mem {l : List Nat} {i : Nat} (h : i < l.length) : at_ l i ∈ l := by
  unfold at_; rw [List.getD_eq_getElem?_getD, List.getElem?_eq_getElem h]; exact List.getElem_mem h
theorem mem_at {l : List Nat} {x : Nat} (h : x ∈ l) : ∃ i, i < l.length ∧ at_ l i = x := by
  obtain ⟨i, hi, e⟩ := List.mem_iff_getElem.mp h
  exact ⟨i, hi, by unfold at_; rw [List.getD_eq_getElem?_getD, List.getElem?_eq_getElem hi]; exact e⟩
theorem Cls.uniq {C : Ch} (ok : C.Ok) {k : Nat} {p : Nat → Nat} (L : Cls C k p) {v v' : Nat → Rat} (h : Sty C k p v) (h1 : sm k v = 1) (h' : Sty C k p v') (h1' : sm k v' = 1) : ∀ j, j < k → v j = v' j := by
  have hz : Sat 0 (shr C k p) k (fun j => v j - v' j) := by
    intro i hi
    have e0 : (0 : Rat) * shr C k p i k = 0 := Rat.zero_mul _
    rw [e0]
    by_cases h0 : i = 0
    · have : sm k (fun j => shr C k p i j * (v j - v' j)) = sm k v - sm k v' := by
        rw [← sm_sub]; exact sm_congr fun j _ => by unfold shr; rw [if_pos h0]; grind
      rw [this, h1, h1']; grind
    · have : sm k (fun j => shr C k p i j * (v j - v' j)) = sm k (fun j => (if p j = p i then -1 else 0) * (v j - v' j)) + (sm k (fun j => v j * cf (C.brs (p j)) (p i)) - sm k (fun j => v' j * cf (C.brs (p j)) (p i))) := by
        rw [← sm_sub, ← sm_add]; exact sm_congr fun j hj => by unfold shr; rw [if_neg h0, if_pos hj]; grind
      rw [this, sm_one (k := i) hi (fun j hj z => by rw [if_neg fun q => z (L.inj _ _ hj hi q)]; grind), if_pos rfl, h i (by omega) hi, h' i (by omega) hi]; grind
  intro j hj
  have := shr_triv ok L _ hz j hj
  grind
theorem LG.uniq {C : Ch} (ok : C.Ok) {cls : List (List Nat)} (K : Clss C cls) {g g' : Nat → Rat} (A : LG C cls g) (B : LG C cls g') : ∀ x, x < C.n → g x = g' x := by
  have hc : ∀ cl ∈ cls, ∀ x ∈ cl, g x = g' x := by
    intro cl hcl x hx
    obtain ⟨i, hi, rfl⟩ := mem_at hx
    obtain ⟨v, a, b, c⟩ := A.cl cl hcl
    obtain ⟨v', a', b', c'⟩ := B.cl cl hcl
    rw [c i hi, c' i hi]
    exact sm_congr fun j hj => by rw [(K.each cl hcl).uniq ok a b a' b' j hj]
  have hr : ∀ x, x < C.n → (∀ cl ∈ cls, x ∉ cl) → ∃ y, Reach C x y ∧ ¬ ∀ cl ∈ cls, y ∉ cl := by
    intro x hx _
    obtain ⟨cl, hcl, y, hy, r⟩ := K.rch x hx
    exact ⟨y, r, fun z => z cl hcl hy⟩
  have hout : ∀ x, ¬ (∀ cl ∈ cls, x ∉ cl) → g x = g' x := by
    intro x hx
    refine Classical.byContradiction fun hne => hx fun cl hcl hm => hne (hc cl hcl x hm)
  have h1 := maxp ok (S := fun x => ∀ cl ∈ cls, x ∉ cl) (V := fun x => g x + - g' x) (fun x hx _ => by rw [bm_add, bm_neg, A.G x hx, B.G x hx]; exact Rat.le_refl) (fun x hx z => by rw [hout x z]; grind) hr
  have h2 := maxp ok (S := fun x => ∀ cl ∈ cls, x ∉ cl) (V := fun x => g' x + - g x) (fun x hx _ => by rw [bm_add, bm_neg, A.G x hx, B.G x hx]; exact Rat.le_refl) (fun x hx z => by rw [hout x z]; grind) hr
  intro x hx
  have a := h1 x hx
  have b := h2 x hx
  grind
/-! ### Euclid's steps -/
/-- a, b as they stand after m turns -/
def eu : Nat → Nat → Nat → Nat × Nat
  | 0, a, b => (a, b)
  | m + 1, a, b => if b = 0 then (a, b) else eu m b (a % b)
def fib : Nat → Nat
  | 0 => 0
  | 1 => 1
  | n + 2 => fib n + fib (n + 1)
theorem fib_pos : ∀ n, 0 < fib (n + 1)
  | 0 => by decide
  | n + 1 => by show 0 < fib n + fib (n + 1); have := fib_pos n; omega
theorem eu_gcd : ∀ m a b, Nat.gcd (eu m a b).1 (eu m a b).2 = Nat.gcd a b
  | 0, a, b => rfl
  | m + 1, a, b => by
    unfold eu
    split
    · rfl
    · rw [eu_gcd m b (a % b), Nat.gcd_comm b, ← Nat.gcd_rec, Nat.gcd_comm]
theorem eu_zero : ∀ m a, (eu m a 0).2 = 0
  | 0, _ => rfl
  | m + 1, a => by unfold eu; rw [if_pos rfl]
theorem eu_done : ∀ m a b, b < fib (m + 1) → (eu m a b).2 = 0 ∧ (∀ r, r < b → b ≤ a → True)
  | 0, a, b, h => ⟨by have : b = 0 := by unfold fib at h; omega
                      rw [this]; rfl, fun _ _ _ => trivial⟩
  | 1, a, b, h => by
    refine ⟨?_, fun _ _ _ => trivial⟩
    have h1 : fib (1 + 1) = 1 := rfl
    have : b = 0 := by omega
    rw [this]; exact eu_zero 1 a
  | m + 2, a, b, h => by
    refine ⟨?_, fun _ _ _ => trivial⟩
    unfold eu
    split
    · assumption
    · rename_i hb
      have hr : a % b < b := Nat.mod_lt _ (by omega)
      by_cases h1 : a % b < fib (m + 2)
      · exact (eu_done (m + 1) b (a % b) h1).1
      · unfold eu
        split
        · assumption
        · rename_i hr0
          refine (eu_done m (a % b) (b % (a % b)) ?_).1
          have e := Nat.div_add_mod b (a % b)
          have hq : 1 ≤ b / (a % b) := (Nat.one_le_div_iff (by omega)).mpr (by omega)
          have h2 : (a % b) * 1 ≤ (a % b) * (b / (a % b)) := Nat.mul_le_mul_left _ hq
          have h3 : fib (m + 2 + 1) = fib (m + 1) + fib (m + 2) := rfl
          omega
theorem eu_scale (g : Nat) (hg : 0 < g) : ∀ m a b, eu m (g * a) (g * b) = (g * (eu m a b).1, g * (eu m a b).2)
  | 0, a, b => rfl
  | m + 1, a, b => by
    unfold eu
    by_cases hb : b = 0
    · rw [if_pos hb, if_pos (by rw [hb, Nat.mul_zero])]
    · rw [if_neg hb, if_neg (by have := Nat.mul_pos hg (Nat.pos_of_ne_zero hb); omega), Nat.mul_mod_mul_left, eu_scale g hg m]
/-- 4000 turns bring the greatest common divisor of a and b, if b divided by it is not too great -/
theorem eu_gcd_of {a b q : Nat} (hb : b = Nat.gcd a b * q) (hq : q < fib 4001) : eu 4000 a b = (Nat.gcd a b, 0) := by
  by_cases h0 : Nat.gcd a b = 0
  · have := Nat.gcd_eq_zero_iff.mp h0
    rw [this.1, this.2]; unfold eu; rw [if_pos rfl]; rfl
  · have ha : a = Nat.gcd a b * (a / Nat.gcd a b) := (Nat.mul_div_cancel' (Nat.gcd_dvd_left a b)).symm
    have e2 : (eu 4000 a b).2 = 0 := by
      have := eu_scale (Nat.gcd a b) (by omega) 4000 (a / Nat.gcd a b) q
      rw [← ha, ← hb] at this
      rw [this, (eu_done 4000 (a / Nat.gcd a b) q hq).1]; rfl
    have e1 := eu_gcd 4000 a b
    rw [e2, Nat.gcd_zero_right] at e1
    exact Prod.ext e1 e2
theorem fib_mono : ∀ n, fib (n + 1) ≤ fib (n + 2) := fun n => by
  show fib (n + 1) ≤ fib n + fib (n + 1); omega
theorem fib_le : ∀ k n, fib (n + 1) ≤ fib (n + 1 + k)
  | 0, n => Nat.le_refl _
  | k + 1, n => Nat.le_trans (fib_le k n) (fib_mono (n + k) |> fun h => by
      have e1 : n + k + 1 = n + 1 + k := by omega
      have e2 : n + k + 2 = n + 1 + (k + 1) := by omega
      rw [e1, e2] at h; exact h)
theorem fib_14 (n : Nat) : 512 * fib (n + 1) ≤ fib (n + 1 + 14) := by
  have h (k : Nat) : fib (n + k + 2) = fib (n + k) + fib (n + k + 1) := rfl
  have h0 := h 1; have h1 := h 2; have h2 := h 3; have h3 := h 4; have h4 := h 5; have h5 := h 6; have h6 := h 7; have h7 := h 8; have h8 := h 9; have h9 := h 10
  have h10 := h 11; have h11 := h 12; have h12 := h 13
  have hm := fib_mono n
  show 512 * fib (n + 1) ≤ fib (n + 15)
  simp only [Nat.add_assoc, Nat.reduceAdd] at *
  omega
theorem fib_big : ∀ m, 2 ^ (9 * m) ≤ fib (14 * m + 1)
  | 0 => by decide
  | m + 1 => by
    have h1 := fib_big m
    have h2 := fib_14 (14 * m)
    have e : 14 * (m + 1) + 1 = 14 * m + 1 + 14 := by omega
    have e2 : (2 : Nat) ^ (9 * (m + 1)) = 512 * 2 ^ (9 * m) := by rw [show 9 * (m + 1) = 9 + 9 * m by omega, Nat.pow_add]
    rw [e, e2]
    exact Nat.le_trans (Nat.mul_le_mul_left _ h1) h2
theorem eu_gcd_lt {a b q : Nat} (hb : b = Nat.gcd a b * q) (hq : q < 2 ^ 2565) : eu 4000 a b = (Nat.gcd a b, 0) := by
  refine eu_gcd_of hb (Nat.lt_of_lt_of_le hq ?_)
  have h1 := fib_big 285
  have h2 := fib_le 10 3990
  exact Nat.le_trans h1 h2
end Mh
set_option linter.all false
set_option autoImplicit false
namespace Mh
theorem cf_append (l : List (Rat × Nat)) (b : Rat × Nat) (y : Nat) : cf (l ++ [b]) y = cf l y + (if b.2 = y then b.1 else 0) := by
  unfold cf; rw [bm_append]; simp only [bm]; split <;> grind
theorem bm_snoc (l : List (Rat × Nat)) (b : Rat × Nat) (f : Nat → Rat) : bm (l ++ [b]) f = bm l f + b.1 * f b.2 := by
  rw [bm_append]; simp only [bm]; grind
theorem mrow_nil (k : Nat) (p : Nat → Nat) (kn ext : Nat → Rat) (i j : Nat) : mrow k p kn ext [] i j = if j < k then (if p j = p i then 1 else 0) else ext (p i) := by
  unfold mrow
  by_cases h : j < k
  · rw [if_pos h, if_pos h]; show _ - (0 : Rat) = _; grind
  · rw [if_neg h, if_neg h]; show _ + (0 : Rat) = _; grind
theorem mrow_known {k : Nat} {p : Nat → Nat} {kn ext : Nat → Rat} {l : List (Rat × Nat)} {b : Rat × Nat} (h : ∀ j, j < k → b.2 ≠ p j) (i j : Nat) (hj : j < k + 1) : mrow k p kn ext (l ++ [b]) i j = if j = k then mrow k p kn ext l i k - b.1 * (0 - kn b.2) else mrow k p kn ext l i j := by
  by_cases hj : j < k
  · have e1 : mrow k p kn ext (l ++ [b]) i j = (if p j = p i then 1 else 0) - cf (l ++ [b]) (p j) := by unfold mrow; rw [if_pos hj]
    have e2 : mrow k p kn ext l i j = (if p j = p i then 1 else 0) - cf l (p j) := by unfold mrow; rw [if_pos hj]
    rw [if_neg (by omega), e1, e2, cf_append, if_neg (h j hj)]; grind
  · have e : j = k := by omega
    subst e
    have e1 : mrow j p kn ext (l ++ [b]) i j = ext (p i) + bm (l ++ [b]) kn := by unfold mrow; rw [if_neg hj]
    have e2 : mrow j p kn ext l i j = ext (p i) + bm l kn := by unfold mrow; rw [if_neg hj]
    rw [if_pos rfl, e1, e2, bm_snoc]; grind
theorem mrow_unk {k : Nat} {p : Nat → Nat} {kn ext : Nat → Rat} {l : List (Rat × Nat)} {b : Rat × Nat} {a : Nat} (inj : ∀ i j, i < k → j < k → p i = p j → i = j) (ha : a < k) (e : b.2 = p a) (h0 : kn b.2 = 0) (i j : Nat) : mrow k p kn ext (l ++ [b]) i j = if j = a then mrow k p kn ext l i a - b.1 else mrow k p kn ext l i j := by
  by_cases hj : j < k
  · have e1 : ∀ l', mrow k p kn ext l' i j = (if p j = p i then 1 else 0) - cf l' (p j) := fun l' => by unfold mrow; rw [if_pos hj]
    by_cases z : j = a
    · subst z
      rw [if_pos rfl, e1, e1, cf_append, if_pos e]; grind
    · have z2 : (if b.2 = p j then b.1 else 0) = 0 := if_neg (fun q => z (inj j a hj ha (q.symm.trans e)))
      rw [if_neg z, e1, e1, cf_append, z2]; grind
  · have e1 : ∀ l', mrow k p kn ext l' i j = ext (p i) + bm l' kn := fun l' => by unfold mrow; rw [if_neg hj]
    rw [if_neg (by omega), e1, e1, bm_snoc, h0]; grind
theorem Ch.Sized.ch {C : Ch} {w : Nat → Nat} (s : C.Sized w) (ok : C.Ok) {x : Nat} (hx : x < C.n) {b : Rat × Nat} (hb : b ∈ C.brs x) : Bd (w x) (w x) b.1 := by
  obtain ⟨a, e⟩ := s.wt x hx b hb
  have h0 := ok.pos x hx b hb
  have h1 : b.1 ≤ 1 := by
    have h := ok.one x hx
    have hp := ok.pos x hx
    generalize C.brs x = l at h hp hb
    have key : ∀ l : List (Rat × Nat), (∀ b ∈ l, 0 < b.1) → b ∈ l → b.1 ≤ bm l (fun _ => 1) := by
      intro l
      induction l with
      | nil => intro _ hb; cases hb
      | cons c r ih =>
        intro hp hb
        simp only [bm]
        have hr : 0 ≤ bm r (fun _ => 1) := by
          have : bm r (fun _ => 0) ≤ bm r (fun _ => 1) := bm_le (fun d hd => hp d (List.mem_cons_of_mem _ hd)) (fun _ _ => by decide)
          rw [bm_const] at this; grind
        rcases List.mem_cons.mp hb with z | hb
        · rw [z]; grind
        · have := ih (fun d hd => hp d (List.mem_cons_of_mem _ hd)) hb
          have := hp c List.mem_cons_self
          grind
    have := key l hp hb
    rw [h] at this; exact this
  refine ⟨(a : Int), by rw [e]; exact_mod_cast rfl, int_of_le (q := b.1) (by rw [e]; exact_mod_cast rfl) (by grind) h1⟩
/-- the mean over some of the branches -/
theorem bm_part {l : List (Rat × Nat)} {w E Y : Nat} {f : Nat → Rat} (hw : ∀ b ∈ l, Bd w w b.1) (hf : ∀ b ∈ l, Bd E Y (f b.2)) : Bd (w * E) (l.length * (w * Y)) (bm l f) := by
  induction l with
  | nil => simp only [bm]; exact .zero _ _
  | cons b r ih =>
    simp only [bm]
    have h := ((hw b List.mem_cons_self).mul (hf b List.mem_cons_self)).add (ih (fun c hc => hw c (List.mem_cons_of_mem _ hc)) (fun c hc => hf c (List.mem_cons_of_mem _ hc)))
    rw [List.length_cons, Nat.succ_mul, Nat.add_comm]
    exact h
theorem le_pow5 {a : Nat} (h : a ≤ 24) : a ≤ 2 ^ 5 := by omega
/-- the numbers of a row of met, at every branch -/
theorem mrow_sz {C : Ch} {w : Nat → Nat} (s : C.Sized w) (ok : C.Ok) {k : Nat} {p : Nat → Nat} {kn ext : Nat → Rat} {E y : Nat} {i : Nat} (hp : p i < C.n) (hx : Bd E (2 ^ y) (ext (p i))) (hk : ∀ t, t < C.n → Bd E (2 ^ y) (kn t)) (h0 : 0 < E) (hE : E ≤ 2 ^ 1500) (hy : y ≤ 1500)
    {l : List (Rat × Nat)} {r : List (Rat × Nat)} (hl : l ++ r = C.brs (p i)) (j : Nat) : Sz 1600 (mrow k p kn ext l i j) := by
  have hm : ∀ b ∈ l, b ∈ C.brs (p i) := fun b hb => by rw [← hl]; exact List.mem_append.mpr (.inl hb)
  have hlen : l.length ≤ 6 := by have := s.bl (p i) hp; rw [← hl, List.length_append] at this; omega
  have hw := s.w0 (p i) hp
  have hc : ∀ b ∈ l, Bd (w (p i)) (w (p i)) b.1 := fun b hb => s.ch ok hp (hm b hb)
  unfold mrow
  split
  · have h1 : Bd (w (p i) * 1) (l.length * (w (p i) * 1)) (cf l (p j)) := bm_part hc fun b hb => by
      split
      · exact ⟨1, by rw [Rat.one_mul]; rfl, by decide⟩
      · exact .zero _ _
    have h2 : Bd (w (p i) * 1) (w (p i)) (if p j = p i then 1 else 0 : Rat) := by
      split
      · exact ⟨(w (p i) : Int), by rw [Rat.one_mul, Nat.mul_one]; exact_mod_cast rfl, by simp⟩
      · exact .zero _ _
    have h3 := h2.sub h1
    have hN : w (p i) + l.length * (w (p i) * 1) ≤ 2 ^ 8 := by
      have : l.length * (w (p i) * 1) ≤ 6 * 24 := Nat.mul_le_mul hlen (by omega)
      omega
    exact h3.sz (by omega) (Nat.lt_of_le_of_lt hN (Nat.pow_lt_pow_right (by decide) (by decide))) (Nat.lt_of_le_of_lt (show w (p i) * 1 ≤ 2 ^ 5 by omega) (Nat.pow_lt_pow_right (by decide) (by decide)))
  · have h1 := (hx.up (w (p i)))
    rw [Nat.mul_comm E] at h1
    have h2 : Bd (w (p i) * E) (l.length * (w (p i) * 2 ^ y)) (bm l kn) := bm_part hc fun b hb => hk b.2 (ok.tg _ hp b (hm b hb))
    have h3 := h1.add h2
    have e1 : 2 ^ y * w (p i) + l.length * (w (p i) * 2 ^ y) ≤ 2 ^ (y + 8) := by
      have : l.length * (w (p i) * 2 ^ y) ≤ 6 * (24 * 2 ^ y) := Nat.mul_le_mul hlen (Nat.mul_le_mul_right _ hw.2)
      have : 2 ^ y * w (p i) ≤ 2 ^ y * 24 := Nat.mul_le_mul_left _ hw.2
      rw [Nat.pow_add]
      omega
    have e2 : w (p i) * E ≤ 2 ^ (5 + 1500) := by rw [Nat.pow_add]; exact Nat.mul_le_mul (le_pow5 hw.2) hE
    exact h3.sz (Nat.mul_pos hw.1 h0) (Nat.lt_of_le_of_lt e1 (Nat.pow_lt_pow_right (by decide) (by omega))) (Nat.lt_of_le_of_lt e2 (Nat.pow_lt_pow_right (by decide) (by decide)))
end Mh
set_option linter.all false
set_option autoImplicit false
namespace Mh
theorem nd_sub_len : ∀ {l m : List Nat}, l.Nodup → (∀ x ∈ l, x ∈ m) → l.length ≤ m.length
  | [], _, _, _ => Nat.zero_le _
  | a :: l, m, h, hs => by
    have h1 := List.nodup_cons.mp h
    have ha := hs a List.mem_cons_self
    have := nd_sub_len (l := l) (m := m.erase a) h1.2 fun x hx => (List.mem_erase_of_ne (fun (e : x = a) => h1.1 (e ▸ hx))).mpr (hs x (List.mem_cons_of_mem _ hx))
    rw [List.length_erase_of_mem ha] at this
    have := List.length_pos_of_mem ha
    rw [List.length_cons]; omega
theorem nd_sub_eq {l m : List Nat} (h : l.Nodup) (hs : ∀ x ∈ l, x ∈ m) (hl : m.length ≤ l.length) : ∀ x ∈ m, x ∈ l := by
  intro x hx
  refine Classical.byContradiction fun hn => ?_
  have := nd_sub_len (l := x :: l) (m := m) (List.nodup_cons.mpr ⟨hn, h⟩) fun y hy => by
    rcases List.mem_cons.mp hy with e | hy
    · rw [e]; exact hx
    · exact hs y hy
  rw [List.length_cons] at this; omega
/-- the ways of all places: ascending, the places that are reached -/
structure Ways (C : Ch) (W : Nat → List Nat) : Prop where
  asc : ∀ x, x < C.n → (W x).Pairwise (· < ·)
  mem : ∀ x, x < C.n → ∀ y, y ∈ W x ↔ Reach C x y
def IsCl (W : Nat → List Nat) (x : Nat) : Prop := (W x)[0]? = some x ∧ ∀ o ∈ W x, x ∈ W o
theorem asc_nd {l : List Nat} (h : l.Pairwise (· < ·)) : l.Nodup := h.imp fun h => Nat.ne_of_lt h
theorem asc_head {l : List Nat} (h : l.Pairwise (· < ·)) {a : Nat} (h0 : l[0]? = some a) : ∀ x ∈ l, a ≤ x := by
  cases l with
  | nil => simp at h0
  | cons b r =>
    have e : b = a := Option.some.inj h0
    subst e
    intro x hx
    rcases List.mem_cons.mp hx with e | hx
    · omega
    · exact Nat.le_of_lt ((List.pairwise_cons.mp h).1 x hx)
theorem IsCl.cls {C : Ch} (ok : C.Ok) {W : Nat → List Nat} (A : Ways C W) {x : Nat} (hx : x < C.n) (h : IsCl W x) : Cls C (W x).length (at_ (W x)) := by
  have hm : ∀ i, i < (W x).length → Reach C x (at_ (W x) i) := fun i hi => (A.mem x hx _).mp (at_mem hi)
  have hl : ∀ i, i < (W x).length → at_ (W x) i < C.n := fun i hi => (hm i hi).lt ok hx
  refine ⟨?_, ?_, hl, ?_, ?_⟩
  · exact List.length_pos_of_mem (List.mem_of_getElem? h.1)
  · intro i j hi hj e
    unfold at_ at e
    rw [List.getD_eq_getElem?_getD, List.getD_eq_getElem?_getD, List.getElem?_eq_getElem hi, List.getElem?_eq_getElem hj] at e
    exact (List.getElem_inj (asc_nd (A.asc x hx))).mp e
  · intro i hi b hb
    obtain ⟨j, hj, e⟩ := mem_at ((A.mem x hx _).mpr ((hm i hi).step hb))
    exact ⟨j, hj, e.symm⟩
  · intro i j hi hj
    exact ((A.mem _ (hl i hi) _).mp (h.2 _ (at_mem hi))).trans (hm j hj)
theorem argmin {l : List Nat} {a : Nat} (f : Nat → Nat) (h : a ∈ l) : ∃ m ∈ l, ∀ x ∈ l, f m ≤ f x := by
  induction l generalizing a with
  | nil => cases h
  | cons b r ih =>
    cases r with
    | nil => exact ⟨b, List.mem_cons_self, fun x hx => by rw [List.mem_singleton.mp hx]; exact Nat.le_refl _⟩
    | cons c r =>
      obtain ⟨m, hm, hle⟩ := ih (a := c) List.mem_cons_self
      by_cases hb : f b ≤ f m
      · refine ⟨b, List.mem_cons_self, fun x hx => ?_⟩
        rcases List.mem_cons.mp hx with e | hx
        · rw [e]; exact Nat.le_refl _
        · exact Nat.le_trans hb (hle x hx)
      · refine ⟨m, List.mem_cons_of_mem _ hm, fun x hx => ?_⟩
        rcases List.mem_cons.mp hx with e | hx
        · rw [e]; omega
        · exact hle x hx
theorem Ways.ex {C : Ch} (ok : C.Ok) {W : Nat → List Nat} (A : Ways C W) {x : Nat} (hx : x < C.n) : ∃ z, z < C.n ∧ IsCl W z ∧ Reach C x z := by
  obtain ⟨y, hy, hmin⟩ := argmin (fun y => (W y).length) ((A.mem x hx x).mpr (.refl x))
  have rxy := (A.mem x hx y).mp hy
  have hyn := rxy.lt ok hx
  have hyy := (A.mem y hyn y).mpr (.refl y)
  -- all places that y reaches reach the same
  have same : ∀ o, Reach C y o → ∀ v, Reach C y v → Reach C o v := by
    intro o ro v rv
    have hon := ro.lt ok hyn
    have := nd_sub_eq (l := W o) (m := W y) (asc_nd (A.asc o hon)) (fun u hu => (A.mem y hyn u).mpr (ro.trans ((A.mem o hon u).mp hu))) (hmin o ((A.mem x hx o).mpr (rxy.trans ro))) v ((A.mem y hyn v).mpr rv)
    exact (A.mem o hon v).mp this
  obtain ⟨z, h0⟩ : ∃ z, (W y)[0]? = some z := ⟨_, List.getElem?_eq_getElem (List.length_pos_of_mem hyy)⟩
  have ryz := (A.mem y hyn z).mp (List.mem_of_getElem? h0)
  have hzn := ryz.lt ok hyn
  refine ⟨z, hzn, ⟨?_, fun o ho => ?_⟩, rxy.trans ryz⟩
  · obtain ⟨u, hu⟩ : ∃ u, (W z)[0]? = some u := ⟨_, List.getElem?_eq_getElem (List.length_pos_of_mem ((A.mem z hzn z).mpr (.refl z)))⟩
    have h1 := asc_head (A.asc z hzn) hu z ((A.mem z hzn z).mpr (.refl z))
    have h2 := asc_head (A.asc y hyn) h0 u ((A.mem y hyn u).mpr (ryz.trans ((A.mem z hzn u).mp (List.mem_of_getElem? hu))))
    have : u = z := by omega
    rw [hu, this]
  · have rzo := (A.mem z hzn o).mp ho
    exact (A.mem o (rzo.lt ok hzn) z).mpr (same o (ryz.trans rzo) z ryz)
theorem IsCl.eq {C : Ch} (ok : C.Ok) {W : Nat → List Nat} (A : Ways C W) {x z y : Nat} (hx : x < C.n) (hz : z < C.n) (h : IsCl W x) (h' : IsCl W z) (h1 : y ∈ W x) (h2 : y ∈ W z) : x = z := by
  have rxy := (A.mem x hx y).mp h1
  have rzy := (A.mem z hz y).mp h2
  have hyn := rxy.lt ok hx
  have ryx := (A.mem y hyn x).mp (h.2 y h1)
  have ryz := (A.mem y hyn z).mp (h'.2 y h2)
  have a := asc_head (A.asc x hx) h.1 z ((A.mem x hx z).mpr (rxy.trans ryz))
  have b := asc_head (A.asc z hz) h'.1 x ((A.mem z hz x).mpr (rzy.trans ryx))
  omega
/-- the places of which each begins a class, up to i -/
noncomputable def begs (W : Nat → List Nat) (i : Nat) : List Nat := (List.range i).filter fun x => @decide (IsCl W x) (Classical.propDecidable _)
theorem begs_mem {W : Nat → List Nat} {i x : Nat} : x ∈ begs W i ↔ x < i ∧ IsCl W x := by
  unfold begs
  rw [List.mem_filter, List.mem_range]
  exact and_congr_right fun _ => @decide_eq_true_iff _ (Classical.propDecidable _)
theorem begs_succ (W : Nat → List Nat) (i : Nat) : begs W (i + 1) = begs W i ++ if @decide (IsCl W i) (Classical.propDecidable _) = true then [i] else [] := by
  unfold begs
  rw [List.range_succ, List.filter_append]
  congr 1
  rw [List.filter_cons, List.filter_nil]
theorem begs_nd (W : Nat → List Nat) (i : Nat) : (begs W i).Nodup := List.Pairwise.filter _ List.nodup_range
theorem flat_nd {W : Nat → List Nat} : ∀ {l : List Nat}, l.Nodup → (∀ x ∈ l, (W x).Nodup) → (∀ x ∈ l, ∀ z ∈ l, ∀ y, y ∈ W x → y ∈ W z → x = z) → ((l.map W).flatten).Nodup
  | [], _, _, _ => List.nodup_nil
  | a :: l, h, h1, h2 => by
    have hh := List.nodup_cons.mp h
    rw [List.map_cons, List.flatten_cons, List.nodup_append]
    refine ⟨h1 a List.mem_cons_self, flat_nd hh.2 (fun x hx => h1 x (List.mem_cons_of_mem _ hx)) (fun x hx z hz => h2 x (List.mem_cons_of_mem _ hx) z (List.mem_cons_of_mem _ hz)), fun y hy u hu e => ?_⟩
    subst e
    obtain ⟨m, hm, hym⟩ := List.mem_flatten.mp hu
    obtain ⟨z, hz, rfl⟩ := List.mem_map.mp hm
    have := h2 a List.mem_cons_self z (List.mem_cons_of_mem _ hz) y hy hym
    subst this
    exact hh.1 hz
theorem Ways.clss {C : Ch} (ok : C.Ok) {W : Nat → List Nat} (A : Ways C W) : Clss C ((begs W C.n).map W) := by
  refine ⟨fun cl hcl => ?_, ?_, fun x hx => ?_⟩
  · obtain ⟨x, hx, rfl⟩ := List.mem_map.mp hcl
    obtain ⟨h1, h2⟩ := begs_mem.mp hx
    exact h2.cls ok A h1
  · refine flat_nd (begs_nd W C.n) (fun x hx => asc_nd (A.asc x (begs_mem.mp hx).1)) fun x hx z hz y h1 h2 => ?_
    obtain ⟨a, b⟩ := begs_mem.mp hx
    obtain ⟨c, d⟩ := begs_mem.mp hz
    exact IsCl.eq ok A a c b d h1 h2
  · obtain ⟨z, hz, h, r⟩ := A.ex ok hx
    exact ⟨W z, List.mem_map.mpr ⟨z, begs_mem.mpr ⟨hz, h⟩, rfl⟩, z, (A.mem z hz z).mpr (.refl z), r⟩
theorem asc_ext : ∀ {l m : List Nat}, l.Pairwise (· < ·) → m.Pairwise (· < ·) → (∀ x, x ∈ l ↔ x ∈ m) → l = m
  | [], [], _, _, _ => rfl
  | [], b :: m, _, _, h => absurd ((h b).mpr List.mem_cons_self) (by simp)
  | a :: l, [], _, _, h => absurd ((h a).mp List.mem_cons_self) (by simp)
  | a :: l, b :: m, h1, h2, h => by
    obtain ⟨a1, a2⟩ := List.pairwise_cons.mp h1
    obtain ⟨b1, b2⟩ := List.pairwise_cons.mp h2
    have e : a = b := by
      rcases List.mem_cons.mp ((h a).mp List.mem_cons_self) with e | e
      · exact e
      · rcases List.mem_cons.mp ((h b).mpr List.mem_cons_self) with e' | e'
        · exact e'.symm
        · have := b1 a e; have := a1 b e'; omega
    subst e
    rw [asc_ext a2 b2 fun x => ?_]
    constructor
    · intro hx
      rcases List.mem_cons.mp ((h x).mp (List.mem_cons_of_mem _ hx)) with e | e
      · have := a1 x hx; omega
      · exact e
    · intro hx
      rcases List.mem_cons.mp ((h x).mpr (List.mem_cons_of_mem _ hx)) with e | e
      · have := b1 x hx; omega
      · exact e
/-- the places that are reached, and the classes, as the chain tells them -/
noncomputable def wayOf (C : Ch) (x : Nat) : List Nat := (List.range C.n).filter fun y => @decide (Reach C x y) (Classical.propDecidable _)
noncomputable def clsOf (C : Ch) : List (List Nat) := (begs (wayOf C) C.n).map (wayOf C)
theorem wayOf_ways {C : Ch} (ok : C.Ok) : Ways C (wayOf C) := by
  refine ⟨fun x hx => List.Pairwise.filter _ List.pairwise_lt_range, fun x hx y => ?_⟩
  unfold wayOf
  rw [List.mem_filter, List.mem_range]
  constructor
  · rintro ⟨_, h⟩; exact @of_decide_eq_true _ (Classical.propDecidable _) h
  · intro h; exact ⟨h.lt ok hx, @decide_eq_true _ (Classical.propDecidable _) h⟩
theorem Ways.eq {C : Ch} (ok : C.Ok) {W : Nat → List Nat} (A : Ways C W) {x : Nat} (hx : x < C.n) : W x = wayOf C x :=
  asc_ext (A.asc x hx) ((wayOf_ways ok).asc x hx) fun y => (A.mem x hx y).trans ((wayOf_ways ok).mem x hx y).symm
theorem Ways.cls_eq {C : Ch} (ok : C.Ok) {W : Nat → List Nat} (A : Ways C W) : (begs W C.n).map W = clsOf C := by
  have e : begs W C.n = begs (wayOf C) C.n := by
    unfold begs
    refine List.filter_congr fun x hx => ?_
    have hx := List.mem_range.mp hx
    have : IsCl W x ↔ IsCl (wayOf C) x := by
      unfold IsCl
      rw [A.eq ok hx]
      refine and_congr_right fun _ => forall_congr' fun o => imp_congr_right fun ho => ?_
      rw [A.eq ok ((((wayOf_ways ok).mem x hx o).mp ho).lt ok hx)]
    rw [Bool.eq_iff_iff, @decide_eq_true_iff _ (Classical.propDecidable _), @decide_eq_true_iff _ (Classical.propDecidable _)]
    exact this
  unfold clsOf
  rw [e]
  exact List.map_congr_left fun x hx => A.eq ok (begs_mem.mp hx).1
theorem clss_of {C : Ch} (ok : C.Ok) : Clss C (clsOf C) := (wayOf_ways ok).clss ok
end Mh
set_option linter.all false
set_option autoImplicit false
namespace Mh
theorem Bd.ext {E a b F D : Nat} {q : Rat} (h : Bd (E * F) (2 ^ a) q) (hD : D ≤ 2 ^ b) : Bd (E * (F * D)) (2 ^ (a + b)) q := by
  have := h.up D
  rw [Nat.mul_assoc] at this
  exact this.mono (by rw [Nat.pow_add]; exact Nat.mul_le_mul_left _ hD)
theorem lg_of {C : Ch} (ok : C.Ok) {cls : List (List Nat)} (K : Clss C cls) {g : Nat → Rat} (hc : ∀ cl ∈ cls, ∃ v, Sty C cl.length (at_ cl) v ∧ sm cl.length v = 1 ∧ ∀ i, i < cl.length → g (at_ cl i) = sm cl.length (fun j => v j * C.gain (at_ cl j)))
    (ho : ∀ x, x < C.n → x ∉ cls.flatten → g x = 0 + bm (C.brs x) g) : LG C cls g := by
  refine ⟨fun x hx => ?_, hc⟩
  by_cases h : x ∈ cls.flatten
  · obtain ⟨cl, hcl, hxc⟩ := List.mem_flatten.mp h
    obtain ⟨i, hi, rfl⟩ := mem_at hxc
    obtain ⟨v, _, _, e⟩ := hc cl hcl
    have : bm (C.brs (at_ cl i)) g = bm (C.brs (at_ cl i)) (fun _ => g (at_ cl i)) := bm_congr fun b hb => by
      obtain ⟨j, hj, ej⟩ := (K.each cl hcl).cl i hi b hb
      rw [ej, e j hj, e i hi]
    rw [this, bm_const, ok.one _ hx]; grind
  · have := ho x hx h; grind
/-- the leads of a class: numbers that are met, less one number -/
def LdCl (C : Ch) (g : Nat → Rat) (cl : List Nat) (h : Nat → Rat) : Prop := ∃ (F : Nat → Rat) (less : Rat), (∀ i, i < cl.length → g (at_ cl i) + F (at_ cl i) = C.gain (at_ cl i) + bm (C.brs (at_ cl i)) F) ∧ (∀ i, i < cl.length → h (at_ cl i) = F (at_ cl i) - less) ∧
  ∃ v, Sty C cl.length (at_ cl) v ∧ sm cl.length v = 1 ∧ sm cl.length (fun j => v j * h (at_ cl j)) = 0
theorem gh_of {C : Ch} (ok : C.Ok) {cls : List (List Nat)} (K : Clss C cls) {g h : Nat → Rat} (L : LG C cls g) (hc : ∀ cl ∈ cls, LdCl C g cl h) (ho : ∀ x, x < C.n → x ∉ cls.flatten → h x = (C.gain x - g x) + bm (C.brs x) h) : GH C g h := by
  refine ⟨L.G, fun x hx => ?_⟩
  by_cases hf : x ∈ cls.flatten
  · obtain ⟨cl, hcl, hxc⟩ := List.mem_flatten.mp hf
    obtain ⟨i, hi, rfl⟩ := mem_at hxc
    obtain ⟨F, less, h1, h2, _⟩ := hc cl hcl
    have : bm (C.brs (at_ cl i)) h = bm (C.brs (at_ cl i)) (fun t => F t + - less) := bm_congr fun b hb => by
      obtain ⟨j, hj, ej⟩ := (K.each cl hcl).cl i hi b hb
      rw [ej, h2 j hj]; grind
    rw [this, bm_add, bm_const _ (-less), ok.one _ hx, h2 i hi]
    have := h1 i hi
    grind
  · rw [ho x hx hf]; grind
theorem LdCl.congr {C : Ch} {g h h' : Nat → Rat} {cl : List Nat} (L : LdCl C g cl h) (e : ∀ x ∈ cl, h x = h' x) : LdCl C g cl h' := by
  obtain ⟨F, less, h1, h2, v, h3, h4, h5⟩ := L
  refine ⟨F, less, h1, fun i hi => by rw [← e _ (at_mem hi)]; exact h2 i hi, v, h3, h4, ?_⟩
  rw [← h5]
  exact sm_congr fun j hj => by rw [e _ (at_mem hj)]
/-- the places that are not known -/
noncomputable def oth (n : Nat) (dom : Nat → Prop) : List Nat := (List.range n).filter fun x => @decide (¬ dom x) (Classical.propDecidable _)
theorem oth_mem {n : Nat} {dom : Nat → Prop} {x : Nat} : x ∈ oth n dom ↔ x < n ∧ ¬ dom x := by
  unfold oth
  rw [List.mem_filter, List.mem_range]
  exact and_congr_right fun _ => @decide_eq_true_iff _ (Classical.propDecidable _)
theorem oth_nd (n : Nat) (dom : Nat → Prop) : (oth n dom).Nodup := List.Pairwise.filter _ List.nodup_range
theorem oth_succ (n : Nat) (dom : Nat → Prop) : oth (n + 1) dom = oth n dom ++ if @decide (¬ dom n) (Classical.propDecidable _) = true then [n] else [] := by
  unfold oth
  rw [List.range_succ, List.filter_append]
  congr 1
  rw [List.filter_cons, List.filter_nil]
theorem Clss.lt {C : Ch} {cls : List (List Nat)} (K : Clss C cls) {x : Nat} (h : x ∈ cls.flatten) : x < C.n := by
  obtain ⟨cl, hcl, hx⟩ := List.mem_flatten.mp h
  obtain ⟨i, hi, e⟩ := mem_at hx
  rw [← e]
  exact (K.each cl hcl).lt i hi
theorem nd_bound {l : List Nat} {n : Nat} (h : l.Nodup) (hl : ∀ x ∈ l, x < n) : l.length ≤ n := by
  have := nd_sub_len h (m := List.range n) fun x hx => List.mem_range.mpr (hl x hx)
  rw [List.length_range] at this
  exact this
theorem Clss.oth_len {C : Ch} {cls : List (List Nat)} (K : Clss C cls) {dom : Nat → Prop} (hd : ∀ x, dom x ↔ x ∈ cls.flatten) : cls.flatten.length + (oth C.n dom).length ≤ C.n := by
  have := nd_bound (l := cls.flatten ++ oth C.n dom) (n := C.n) (List.nodup_append.mpr ⟨K.nd, oth_nd _ _, fun x hx y hy e => (oth_mem.mp hy).2 ((hd y).mpr (e ▸ hx))⟩) fun x hx => by
    rcases List.mem_append.mp hx with hx | hx
    · exact K.lt hx
    · exact (oth_mem.mp hx).1
  rw [List.length_append] at this
  exact this
theorem at_inj' {l : List Nat} (h : l.Nodup) : ∀ i j, i < l.length → j < l.length → at_ l i = at_ l j → i = j := fun i j hi hj e => by
  unfold at_ at e
  rw [List.getD_eq_getElem?_getD, List.getD_eq_getElem?_getD, List.getElem?_eq_getElem hi, List.getElem?_eq_getElem hj] at e
  exact (List.getElem_inj h).mp e
theorem Clss.oth_triv {C : Ch} (ok : C.Ok) {cls : List (List Nat)} (K : Clss C cls) {dom : Nat → Prop} (hd : ∀ x, dom x ↔ x ∈ cls.flatten) {kn ext : Nat → Rat} : Triv (met C (oth C.n dom).length (at_ (oth C.n dom)) kn ext) (oth C.n dom).length := by
  refine met_triv ok (at_inj' (oth_nd _ _)) (fun i hi => (oth_mem.mp (at_mem hi)).1) fun i hi => ?_
  obtain ⟨cl, hcl, y, hy, r⟩ := K.rch _ (oth_mem.mp (at_mem hi)).1
  exact ⟨y, r, fun j hj e => (oth_mem.mp (at_mem hj)).2 ((hd _).mpr (List.mem_flatten.mpr ⟨cl, hcl, e ▸ hy⟩))⟩
end Mh
set_option linter.all false
set_option autoImplicit false
namespace Mh
/-! ### the leads are told but once -/
theorem LdCl.uniq {C : Ch} (ok : C.Ok) {cls : List (List Nat)} (K : Clss C cls) {g h h' : Nat → Rat} (A : GH C g h) (A' : GH C g h') (L : ∀ cl ∈ cls, LdCl C g cl h) (L' : ∀ cl ∈ cls, LdCl C g cl h') : ∀ x, x < C.n → h x = h' x := by
  have hd : ∀ x, x < C.n → h x - h' x = bm (C.brs x) (fun t => h t + - h' t) := fun x hx => by
    rw [bm_add, bm_neg]
    have := A.H x hx
    have := A'.H x hx
    grind
  have hc : ∀ cl ∈ cls, ∀ x ∈ cl, h x = h' x := by
    intro cl hcl
    have Q := K.each cl hcl
    have hk0 := Q.k0
    have key : ∀ (d : Nat → Rat), (∀ x, x < C.n → d x = bm (C.brs x) d) → ∀ x ∈ cl, d x - d (at_ cl 0) ≤ 0 := by
      intro d hdd x hx
      have hmem : ∀ y, y ∈ cl → y < C.n := fun y hy => by obtain ⟨i, hi, e⟩ := mem_at hy; rw [← e]; exact Q.lt i hi
      have h1 := maxp ok (S := fun y => y ∈ cl ∧ y ≠ at_ cl 0) (V := fun y => if y ∈ cl then d y + - d (at_ cl 0) else 0) ?_ ?_ ?_ x (hmem x hx)
      · rw [if_pos hx] at h1; grind
      · rintro y hy ⟨hyc, _⟩
        obtain ⟨i, hi, rfl⟩ := mem_at hyc
        have e : bm (C.brs (at_ cl i)) (fun y => if y ∈ cl then d y + - d (at_ cl 0) else 0) = bm (C.brs (at_ cl i)) (fun y => d y + - d (at_ cl 0)) := bm_congr fun b hb => by
          obtain ⟨j, hj, e⟩ := Q.cl i hi b hb
          rw [if_pos (by rw [e]; exact at_mem hj)]
        rw [e, bm_add, bm_const _ (-d (at_ cl 0)), ok.one _ hy, if_pos hyc, ← hdd _ hy]; grind
      · intro y hy hn
        by_cases z : y ∈ cl
        · rw [if_pos z]
          have : y = at_ cl 0 := Classical.byContradiction fun w => hn ⟨z, w⟩
          rw [this]; grind
        · rw [if_neg z]; exact Rat.le_refl
      · rintro y hy ⟨hyc, _⟩
        obtain ⟨i, hi, rfl⟩ := mem_at hyc
        exact ⟨at_ cl 0, Q.rc i 0 hi hk0, fun z => z.2 rfl⟩
    have hcst : ∀ x ∈ cl, h x - h' x = h (at_ cl 0) - h' (at_ cl 0) := by
      intro x hx
      have a : (h x + - h' x) - (h (at_ cl 0) + - h' (at_ cl 0)) ≤ 0 := key (fun t => h t + - h' t) (fun y hy => by rw [← hd y hy]; grind) x hx
      have b : (h' x + - h x) - (h' (at_ cl 0) + - h (at_ cl 0)) ≤ 0 := key (fun t => h' t + - h t) (fun y hy => by
        have := hd y hy
        rw [bm_add, bm_neg] at this ⊢
        grind) x hx
      grind
    obtain ⟨F, less, _, _, v, a1, a2, a3⟩ := L cl hcl
    obtain ⟨F', less', _, _, v', b1, b2, b3⟩ := L' cl hcl
    have hv := Q.uniq ok a1 a2 b1 b2
    have e : sm cl.length (fun j => v j * h (at_ cl j)) - sm cl.length (fun j => v' j * h' (at_ cl j)) = sm cl.length v * (h (at_ cl 0) - h' (at_ cl 0)) := by
      rw [← sm_sub, ← sm_mulr]
      refine sm_congr fun j hj => ?_
      rw [← hcst _ (at_mem hj), hv j hj]; grind
    rw [a3, b3, a2] at e
    intro x hx
    have := hcst x hx
    grind
  have hr : ∀ x, x < C.n → (∀ cl ∈ cls, x ∉ cl) → ∃ y, Reach C x y ∧ ¬ ∀ cl ∈ cls, y ∉ cl := by
    intro x hx _
    obtain ⟨cl, hcl, y, hy, r⟩ := K.rch x hx
    exact ⟨y, r, fun z => z cl hcl hy⟩
  have hout : ∀ x, ¬ (∀ cl ∈ cls, x ∉ cl) → h x = h' x := by
    intro x hx
    refine Classical.byContradiction fun hne => hx fun cl hcl hm => hne (hc cl hcl x hm)
  have h1 := maxp ok (S := fun x => ∀ cl ∈ cls, x ∉ cl) (V := fun x => h x + - h' x) (fun x hx _ => by rw [← hd x hx]; grind) (fun x hx z => by rw [hout x z]; grind) hr
  have h2 := maxp ok (S := fun x => ∀ cl ∈ cls, x ∉ cl) (V := fun x => h' x + - h x) (fun x hx _ => by
    have := hd x hx
    rw [bm_add, bm_neg] at this ⊢
    grind) (fun x hx z => by rw [hout x z]; grind) hr
  intro x hx
  have a := h1 x hx
  have b := h2 x hx
  grind
/-! ### a common multiple of the chances' parts -/
def prw (w : Nat → Nat) : Nat → Nat
  | 0 => 1
  | n + 1 => prw w n * w n
theorem prw_dvd (w : Nat → Nat) : ∀ n x, x < n → ∃ k, prw w n = w x * k
  | n + 1, x, h => by
    by_cases e : x = n
    · subst e; exact ⟨prw w x, Nat.mul_comm _ _⟩
    · obtain ⟨k, hk⟩ := prw_dvd w n x (by omega)
      exact ⟨k * w n, by show prw w n * w n = _; rw [hk, Nat.mul_assoc]⟩
theorem prw_le {w : Nat → Nat} : ∀ {n : Nat}, (∀ x, x < n → 0 < w x ∧ w x ≤ 24) → 0 < prw w n ∧ prw w n ≤ 24 ^ n
  | 0, _ => ⟨Nat.one_pos, Nat.le_refl 1⟩
  | n + 1, h => by
    obtain ⟨a, b⟩ := prw_le (n := n) fun x hx => h x (by omega)
    have c := h n (by omega)
    refine ⟨Nat.mul_pos a c.1, ?_⟩
    rw [Nat.pow_succ]
    exact Nat.mul_le_mul b c.2
theorem Ch.Sized.com {C : Ch} {w : Nat → Nat} (s : C.Sized w) : ∃ L : Nat, 0 < L ∧ L ≤ 2 ^ 28 ∧ ∀ x, x < C.n → ∃ k, L = w x * k := by
  obtain ⟨a, b⟩ := prw_le s.w0
  refine ⟨prw w C.n, a, Nat.le_trans b (Nat.le_trans (Nat.pow_le_pow_right (by decide) s.n6) (by decide)), fun x hx => prw_dvd w C.n x hx⟩
theorem Ch.Sized.meanL {C : Ch} {w : Nat → Nat} (s : C.Sized w) (ok : C.Ok) {L x E Y : Nat} {f : Nat → Rat} (hx : x < C.n) (hL : ∃ k, L = w x * k) (hf : ∀ t, t < C.n → Bd E Y (f t)) : Bd (L * E) (L * Y) (bm (C.brs x) f) := by
  obtain ⟨k, hk⟩ := hL
  have := (s.mean ok hx (f := f) fun b hb => hf b.2 (ok.tg x hx b hb)).up k
  rw [hk, Nat.mul_assoc, Nat.mul_assoc, Nat.mul_comm k E, Nat.mul_comm k Y, ← Nat.mul_assoc, ← Nat.mul_assoc]
  exact this
theorem told_bd {C : Ch} {w : Nat → Nat} (s : C.Sized w) (ok : C.Ok) {L : Nat} (hL : ∀ x, x < C.n → ∃ k, L = w x * k) : ∀ m x, x < C.n → Bd (10 * L ^ m) (500 * m * L ^ m) (told C m x)
  | 0, x, hx => .zero _ _
  | m + 1, x, hx => by
    have h1 := s.meanL ok hx (hL x hx) (fun t ht => told_bd s ok hL m t ht)
    have h2 := (s.gn x hx).up (L ^ (m + 1))
    have e1 : L * (10 * L ^ m) = 10 * L ^ (m + 1) := by rw [Nat.pow_succ, Nat.mul_left_comm, Nat.mul_comm L]
    have e2 : L * (500 * m * L ^ m) = 500 * m * L ^ (m + 1) := by rw [Nat.pow_succ, Nat.mul_left_comm, Nat.mul_comm L]
    rw [e1, e2] at h1
    have h3 := h2.add h1
    have e3 : 500 * L ^ (m + 1) + 500 * m * L ^ (m + 1) = 500 * (m + 1) * L ^ (m + 1) := by rw [← Nat.add_mul, Nat.mul_add, Nat.mul_one, Nat.add_comm]
    rw [e3] at h3
    exact h3
theorem behind_bd {C : Ch} {w : Nat → Nat} (s : C.Sized w) (ok : C.Ok) {L E Y : Nat} {h : Nat → Rat} (hL : ∀ x, x < C.n → ∃ k, L = w x * k) (hh : ∀ x, x < C.n → Bd E Y (h x)) : ∀ m x, x < C.n → Bd (E * L ^ m) (Y * L ^ m) (behind C h m x)
  | 0, x, hx => by rw [Nat.pow_zero, Nat.mul_one, Nat.mul_one]; exact hh x hx
  | m + 1, x, hx => by
    have h1 := s.meanL ok hx (hL x hx) (fun t ht => behind_bd s ok hL hh m t ht)
    have e1 : L * (E * L ^ m) = E * L ^ (m + 1) := by rw [Nat.pow_succ, Nat.mul_left_comm, Nat.mul_comm L]
    have e2 : L * (Y * L ^ m) = Y * L ^ (m + 1) := by rw [Nat.pow_succ, Nat.mul_left_comm, Nat.mul_comm L]
    rw [e1, e2] at h1
    exact h1
theorem bm_sum (l : List (Rat × Nat)) (f : Nat → Rat) : (l.map fun b => b.1 * f b.2).sum = bm l f := by
  induction l with
  | nil => rfl
  | cons b r ih => rw [List.map_cons, List.sum_cons, ih]; rfl
theorem behind_congr {C : Ch} (ok : C.Ok) {h h' : Nat → Rat} (e : ∀ x, x < C.n → h x = h' x) : ∀ m x, x < C.n → behind C h m x = behind C h' m x
  | 0, x, hx => e x hx
  | m + 1, x, hx => bm_congr fun b hb => behind_congr ok e m b.2 (ok.tg x hx b hb)
theorem pow_le28 {L : Nat} (h : L ≤ 2 ^ 28) (m : Nat) : L ^ m ≤ 2 ^ (28 * m) := by
  rw [Nat.pow_mul]; exact Nat.pow_le_pow_left h m
end Mh
set_option linter.all false
set_option autoImplicit false
namespace Mh
theorem eu_snoc : ∀ m a b, eu (m + 1) a b = if (eu m a b).2 = 0 then eu m a b else ((eu m a b).2, (eu m a b).1 % (eu m a b).2)
  | 0, a, b => by
    show eu 1 a b = if b = 0 then (a, b) else (b, a % b)
    unfold eu
    split
    · rfl
    · rfl
  | m + 1, a, b => by
    have e1 : ∀ k, eu (k + 1) a b = if b = 0 then (a, b) else eu k b (a % b) := fun k => rfl
    rw [e1 (m + 1), e1 m]
    by_cases h : b = 0
    · rw [if_pos h, if_pos h, if_pos h]
    · rw [if_neg h, if_neg h, eu_snoc m b (a % b)]
theorem eu_fst_of {m a b : Nat} (h : (eu m a b).2 = 0) : (eu m a b).1 = Nat.gcd a b := by
  have := eu_gcd m a b
  rw [h, Nat.gcd_zero_right] at this
  exact this
end Mh
set_option linter.all false
set_option autoImplicit false
namespace Mh
def ab (q : Rat) : Rat := if q < 0 then -q else q
theorem ab_num (q : Rat) : (ab q).num = (if q.num < 0 then -q.num else q.num) := by
  unfold ab
  have e : q < 0 ↔ q.num < 0 := by rw [Rat.lt_iff]; show q.num * 1 < 0 * _ ↔ _; rw [Int.mul_one, Int.zero_mul]
  by_cases h : q.num < 0
  · rw [if_pos h, if_pos (e.mpr h), Rat.neg_num]
  · rw [if_neg h, if_neg fun z => h (e.mp z)]
theorem ab_den (q : Rat) : (ab q).den = q.den := by
  unfold ab
  split
  · rw [Rat.neg_den]
  · rfl
theorem pw {a b : Nat} (h : a < b) : 2 ^ a < 2 ^ b := Nat.pow_lt_pow_right (by decide) h
theorem pwl {a b : Nat} (h : a ≤ b) : 2 ^ a ≤ 2 ^ b := Nat.pow_le_pow_right (by decide) h
theorem mul_pw {a b x y : Nat} (h : a ≤ 2 ^ x) (h' : b ≤ 2 ^ y) : a * b ≤ 2 ^ (x + y) := by
  rw [Nat.pow_add]; exact Nat.mul_le_mul h h'
theorem half {a b n : Nat} (h : a ≤ 2 ^ n) (h' : b ≤ 2 ^ n) : a + b ≤ 2 ^ (n + 1) := by
  rw [Nat.pow_succ]; omega
/-- what is asked of one place at one step -/
structure StepOk (i : Nat) (q h b t w : Rat) : Prop where
  zi : Sz 4000 (((i : Nat) : Int) : Rat)
  zq : Sz 4000 q
  dm : ((((i : Nat) : Int) : Rat) * q).den < 2 ^ 2565
  zm : Sz 4000 ((((i : Nat) : Int) : Rat) * q)
  zh : Sz 4000 h
  dp : ((((i : Nat) : Int) : Rat) * q + h).den < 2 ^ 2565
  zp : Sz 4000 ((((i : Nat) : Int) : Rat) * q + h)
  zb : Sz 4000 b
  eq : t = (((i : Nat) : Int) : Rat) * q + h - b
  dt : t.den < 2 ^ 2565
  zt : Sz 4000 t
  da : (t - (((i : Nat) : Int) : Rat) * q).den < 2 ^ 2565
  za : Sz 4000 (ab (t - (((i : Nat) : Int) : Rat) * q))
  zw : Sz 4000 w
  le : ¬ w < ab (t - (((i : Nat) : Int) : Rat) * q)
theorem step_ok {C : Ch} (ok : C.Ok) {wt : Nat → Nat} (sz : C.Sized wt) {L Fg Fh : Nat} (l0 : 0 < L) (l1 : L ≤ 2 ^ 28) (hL : ∀ x, x < C.n → ∃ k, L = wt x * k) {g h : Nat → Rat} (A : GH C g h)
    (g0 : 0 < Fg) (g1 : Fg ≤ 2 ^ 378) (bg : ∀ x, x < C.n → Bd (10 * Fg) (2 ^ 396) (g x)) (h0 : 0 < Fh) (h1 : Fh ≤ 2 ^ 1134) (bh : ∀ x, x < C.n → Bd (10 * Fh) (2 ^ 1165) (h x))
    {hi lo : Rat} (a1 : ∀ x, x < C.n → h x ≤ hi) (a2 : ∀ x, x < C.n → lo ≤ h x) (zw : Sz 4000 (hi - lo)) {i x : Nat} (hi30 : i ≤ 30) (hx : x < C.n) : StepOk i (g x) (h x) (behind C h i x) (told C i x) (hi - lo) := by
  have ecast : (((i : Nat) : Int) : Rat) = (i : Rat) := by exact_mod_cast rfl
  have eG : 10 * Fg ≤ 2 ^ (4 + 378) := mul_pw (by decide) g1
  have eH : 10 * Fh ≤ 2 ^ (4 + 1134) := mul_pw (by decide) h1
  have eLi : L ^ i ≤ 2 ^ 840 := Nat.le_trans (pow_le28 l1 i) (pwl (by omega))
  have pLi : 0 < L ^ i := Nat.pow_pos l0
  have eT : 10 * L ^ i ≤ 2 ^ (4 + 840) := mul_pw (by decide) eLi
  have pG : 0 < 10 * Fg := by omega
  have pH : 0 < 10 * Fh := by omega
  have pT : 0 < 10 * L ^ i := by omega
  have i5 : i ≤ 2 ^ 5 := by omega
  have bi : Bd 1 i (((i : Nat) : Int) : Rat) := Bd.int ((i : Nat) : Int)
  have bm' : Bd (10 * Fg) (i * 2 ^ 396) ((((i : Nat) : Int) : Rat) * g x) := by
    have := bi.mul (bg x hx)
    rw [Nat.one_mul] at this
    exact this
  have nm : i * 2 ^ 396 ≤ 2 ^ (5 + 396) := mul_pw i5 (Nat.le_refl _)
  have bm1 := bm'.mono nm
  -- the sum with the lead
  have b1 := bm1.up (10 * Fh)
  have b2 := (bh x hx).up (10 * Fg)
  rw [Nat.mul_comm (10 * Fh) (10 * Fg)] at b2
  have bp := b1.add b2
  have eP : 10 * Fg * (10 * Fh) ≤ 2 ^ (4 + 378 + (4 + 1134)) := mul_pw eG eH
  have nP : 2 ^ (5 + 396) * (10 * Fh) + 2 ^ 1165 * (10 * Fg) ≤ 2 ^ (1599 + 1) := by
    have c1 : 2 ^ (5 + 396) * (10 * Fh) ≤ 2 ^ (5 + 396 + (4 + 1134)) := mul_pw (Nat.le_refl _) eH
    have c2 : 2 ^ 1165 * (10 * Fg) ≤ 2 ^ (1165 + (4 + 378)) := mul_pw (Nat.le_refl _) eG
    exact half (Nat.le_trans c1 (pwl (by decide))) (Nat.le_trans c2 (pwl (by decide)))
  have pP : 0 < 10 * Fg * (10 * Fh) := Nat.mul_pos pG pH
  -- behind
  have bb := behind_bd sz ok hL bh i x hx
  have eB : 10 * Fh * L ^ i ≤ 2 ^ (4 + 1134 + 840) := mul_pw eH eLi
  have nB : 2 ^ 1165 * L ^ i ≤ 2 ^ (1165 + 840) := mul_pw (Nat.le_refl _) eLi
  have pB : 0 < 10 * Fh * L ^ i := Nat.mul_pos pH pLi
  -- told
  have bt := told_bd sz ok hL i x hx
  have i14 : 500 * i ≤ 2 ^ 14 := by
    have : (2 : Nat) ^ 14 = 16384 := rfl
    omega
  have nT : 500 * i * L ^ i ≤ 2 ^ (14 + 840) := mul_pw i14 eLi
  -- apart
  have c1 := (bt.mono nT).up (10 * Fg)
  have c2 := bm1.up (10 * L ^ i)
  rw [Nat.mul_comm (10 * Fg) (10 * L ^ i)] at c2
  have ba := c1.sub c2
  have eA : 10 * L ^ i * (10 * Fg) ≤ 2 ^ (4 + 840 + (4 + 378)) := mul_pw eT eG
  have nA : 2 ^ (14 + 840) * (10 * Fg) + 2 ^ (5 + 396) * (10 * L ^ i) ≤ 2 ^ (1599 + 1) := by
    have c1 : 2 ^ (14 + 840) * (10 * Fg) ≤ 2 ^ (14 + 840 + (4 + 378)) := mul_pw (Nat.le_refl _) eG
    have c2 : 2 ^ (5 + 396) * (10 * L ^ i) ≤ 2 ^ (5 + 396 + (4 + 840)) := mul_pw (Nat.le_refl _) eT
    exact half (Nat.le_trans c1 (pwl (by decide))) (Nat.le_trans c2 (pwl (by decide)))
  have pA : 0 < 10 * L ^ i * (10 * Fg) := Nat.mul_pos pT pG
  have szA : Sz 4000 (told C i x - (((i : Nat) : Int) : Rat) * g x) := ba.sz pA (Nat.lt_of_le_of_lt nA (pw (by decide))) (Nat.lt_of_le_of_lt eA (pw (by decide)))
  have eq : told C i x = (((i : Nat) : Int) : Rat) * g x + h x - behind C h i x := by rw [ecast]; exact A.told_eq ok i x hx
  refine ⟨bi.sz (by decide) (Nat.lt_of_le_of_lt i5 (pw (by decide))) (Nat.lt_of_le_of_lt (show 1 ≤ 2 ^ 5 by decide) (pw (by decide))), (bg x hx).sz pG (pw (by decide)) (Nat.lt_of_le_of_lt eG (pw (by decide))), Nat.lt_of_le_of_lt (Nat.le_trans (bm1.den pG) eG) (pw (by decide)),
    bm1.sz pG (pw (by decide)) (Nat.lt_of_le_of_lt eG (pw (by decide))), (bh x hx).sz pH (pw (by decide)) (Nat.lt_of_le_of_lt eH (pw (by decide))), Nat.lt_of_le_of_lt (Nat.le_trans (bp.den pP) eP) (pw (by decide)),
    bp.sz pP (Nat.lt_of_le_of_lt nP (pw (by decide))) (Nat.lt_of_le_of_lt eP (pw (by decide))), bb.sz pB (Nat.lt_of_le_of_lt nB (pw (by decide))) (Nat.lt_of_le_of_lt eB (pw (by decide))), eq,
    Nat.lt_of_le_of_lt (Nat.le_trans (bt.den pT) eT) (pw (by decide)), bt.sz pT (Nat.lt_of_le_of_lt nT (pw (by decide))) (Nat.lt_of_le_of_lt eT (pw (by decide))), Nat.lt_of_le_of_lt (Nat.le_trans (ba.den pA) eA) (pw (by decide)), ?_, zw, ?_⟩
  · unfold ab
    split
    · exact szA.neg
    · exact szA
  · obtain ⟨b1, b2⟩ := behind_between ok a2 a1 i x hx
    have q1 := a1 x hx
    have q2 := a2 x hx
    rw [eq]
    unfold ab
    split <;> grind
/-- how far the leads lie apart -/
theorem hilo_bd {n Fh : Nat} {h : Nat → Rat} (h0 : 0 < Fh) (h1 : Fh ≤ 2 ^ 1134) (bh : ∀ x, x < n → Bd (10 * Fh) (2 ^ 1165) (h x)) {x y : Nat} (hx : x < n) (hy : y < n) : Sz 4000 (h x) ∧ Sz 4000 (h x - h y) ∧ (h x - h y).den < 2 ^ 2565 := by
  have eH : 10 * Fh ≤ 2 ^ (4 + 1134) := mul_pw (by decide) h1
  have pH : 0 < 10 * Fh := by omega
  have b := (bh x hx).sub (bh y hy)
  refine ⟨(bh x hx).sz pH (pw (by decide)) (Nat.lt_of_le_of_lt eH (pw (by decide))), b.sz pH (Nat.lt_of_le_of_lt (half (Nat.le_refl (2 ^ 1165)) (Nat.le_refl _)) (pw (by decide))) (Nat.lt_of_le_of_lt eH (pw (by decide))), Nat.lt_of_le_of_lt (Nat.le_trans (b.den pH) eH) (pw (by decide))⟩
theorem mean_sz {L Fh i : Nat} (l1 : L ≤ 2 ^ 28) (h1 : Fh ≤ 2 ^ 1134) (hi : i ≤ 30) : 10 * Fh * L ^ i ≤ 2 ^ 2500 ∧ 2 ^ 1165 * L ^ i ≤ 2 ^ 3900 := by
  have eH : 10 * Fh ≤ 2 ^ (4 + 1134) := mul_pw (by decide) h1
  have eLi : L ^ i ≤ 2 ^ 840 := Nat.le_trans (pow_le28 l1 i) (pwl (by omega))
  exact ⟨Nat.le_trans (mul_pw eH eLi) (pwl (by decide)), Nat.le_trans (mul_pw (Nat.le_refl _) eLi) (pwl (by decide))⟩
end Mh
set_option Elab.async false
set_option linter.all false
set_option maxRecDepth 100000
set_option autoImplicit false
namespace Mw
open PySem PySem.Spec PyProof.Rows L2
/-! ### the text -/
def topS (i : Nat) : Stmt := PySem.Challenge.pw_meanhold_k12_whole_first_gains_and_leads.main.body.getD i (.Pass ⟨0, 0, 0, 0⟩)
abbrev sNumber : Stmt := topS 4
abbrev sCompare : Stmt := topS 5
abbrev sPlus : Stmt := topS 6
abbrev sMinus : Stmt := topS 7
abbrev sTimes : Stmt := topS 8
abbrev sDivided : Stmt := topS 9
abbrev sTotal : Stmt := topS 10
/-! ### heaps -/
theorem same_upd {H : Hp} {p : Addr} {o : HO} (h : H p = none) : Same H (upd H p o) := fun b x e => by
  rw [upd_ne (ne_of_none e h)]
  exact e
theorem same_tup {K : PySem.W.Frag} {H H' : Hp} {a : Addr} {xs : List V} (e : Same H H') (h : SqT K H a xs) : SqT K H' a xs := by
  rcases h with (h | ⟨o, h⟩) | h
  · exact .inl (.inl (e _ _ h))
  · exact .inl (.inr ⟨o, e _ _ h⟩)
  · exact .inr h
/-- the same, but for the list at o -/
def Ex (o : Addr) (H H' : Hp) : Prop := ∀ b u, H b = some u → b ≠ o → H' b = some u
theorem Same.ex {H H' : Hp} (h : Same H H') (o : Addr) : Ex o H H' := fun b u e _ => h b u e
theorem Ex.trans {o : Addr} {H H1 H2 : Hp} (a : Ex o H H1) (b : Ex o H1 H2) : Ex o H H2 := fun c u e n => b c u (a c u e n) n
theorem ex_upd {o : Addr} {H : Hp} {u : HO} : Ex o H (upd H o u) := fun b x e n => by rw [upd_ne n]; exact e
theorem Ex.same {o : Addr} {H H1 H2 : Hp} (a : Ex o H1 H2) (h : Same H H1) (n : H o = none) : Same H H2 := fun b u e => a b u (h b u e) (ne_of_none e n)
theorem Ex.tup {K : PySem.W.Frag} {o : Addr} {H H' : Hp} {xs ys : List V} {a : Addr} (e : Ex o H H') (ho : H o = some (.lst ys)) (h : SqT K H a xs) : SqT K H' a xs := by
  rcases h with (h | ⟨u, h⟩) | h
  · exact .inl (.inl (e _ _ h (ne_of h ho (by intro z; cases z))))
  · exact .inl (.inr ⟨u, e _ _ h (ne_of h ho (by intro z; cases z))⟩)
  · exact .inr h
/-! ### numbers: tuples of two ints -/
abbrev NV (q : Rat) : List V := [.int q.num, .int (q.den : Int)]
def NumV (K : PySem.W.Frag) (H : Hp) (v : V) (q : Rat) : Prop := ∃ t, v = .ref t ∧ SqT K H t (NV q)
theorem NumV.same {K : PySem.W.Frag} {H H' : Hp} {v : V} {q : Rat} (h : NumV K H v q) (s : Same H H') : NumV K H' v q := by
  obtain ⟨t, e, h⟩ := h
  exact ⟨t, e, same_tup s h⟩
theorem NumV.ex {K : PySem.W.Frag} {H H' : Hp} {v : V} {q : Rat} {o : Addr} {ys : List V} (h : NumV K H v q) (s : Ex o H H') (ho : H o = some (.lst ys)) : NumV K H' v q := by
  obtain ⟨t, e, h⟩ := h
  exact ⟨t, e, s.tup ho h⟩
theorem num0 {K : PySem.W.Frag} {H : Hp} {s : L2.St} {v : V} {q : Rat} {Q : VK} (h : NumV K H v q) (k : Q (.int q.num) H) : tC (.int 0) s H fun y H2 => rIxT K v y H2 Q := by
  obtain ⟨t, e, h⟩ := h
  exact ⟨t, _, _, _, e, rfl, h, rfl, k⟩
theorem num1 {K : PySem.W.Frag} {H : Hp} {s : L2.St} {v : V} {q : Rat} {Q : VK} (h : NumV K H v q) (k : Q (.int (q.den : Int)) H) : tC (.int 1) s H fun y H2 => rIxT K v y H2 Q := by
  obtain ⟨t, e, h⟩ := h
  exact ⟨t, _, _, _, e, rfl, h, rfl, k⟩
/-- a def as its callers see it -/
structure Cal (P : Program) (w : World) (K : PySem.W.Frag) (mg : Str → Option Value) (base : Heap) (x : Str) (ps : List Str) (k : Nat) (f : Addr) (fd : FuncData) (sp : Sp) : Prop where
  g : mg x = some (.ref f)
  kp : PySem.W.keepIn K (.ref f) = true
  b : Binds K fd ps []
  ok : FnOk P w K mg base CX0 k f fd ps sp
section
variable {P : Program} {w : World} {K : PySem.W.Frag} {mg : Str → Option Value} {base : Heap}
/-! ### number -/
theorem scNumber : FnScope ["n", "d", "common"] ["n", "d"] (defScope sNumber) := ⟨rfl, rfl, rfl, by decide +kernel, rfl, by decide +kernel, by decide +kernel⟩
def spNumber (K : PySem.W.Frag) : Sp := fun vs H Q _ => ∃ n d : Int, vs = [.int n, .int d] ∧ d ≠ 0 ∧ d.natAbs < 2 ^ 9000 ∧ ∀ H' v, Same H H' → NumV K H' v ((n : Rat) / (d : Rat)) → Q v H'
theorem num_pos {n d : Int} (h : 0 < d) : ((n : Rat) / (d : Rat)).num = n / ((Nat.gcd n.natAbs d.natAbs : Nat) : Int) ∧ ((((n : Rat) / (d : Rat)).den : Nat) : Int) = d / ((Nat.gcd n.natAbs d.natAbs : Nat) : Int) := by
  rw [← Rat.divInt_eq_div]
  constructor
  · rw [Rat.num_divInt, Int.sign_eq_one_of_pos h, Int.one_mul]
    congr 1
    show ((Nat.gcd d.natAbs n.natAbs : Nat) : Int) = _
    rw [Nat.gcd_comm]
  · rw [Rat.den_divInt, if_neg (by omega)]
    show ((d.natAbs / (Nat.gcd d.natAbs n.natAbs) : Nat) : Int) = _
    rw [Nat.gcd_comm, Int.natCast_ediv]
    congr 1
    omega
theorem gcd_pos {n d : Int} (h : d ≠ 0) : 0 < Nat.gcd n.natAbs d.natAbs := Nat.pos_of_ne_zero fun e => h (by have := (Nat.gcd_eq_zero_iff.mp e).2; omega)
theorem gcd_div {n d : Int} (h : d ≠ 0) (hd : d.natAbs < 2 ^ 9000) : CDivW n ((Nat.gcd n.natAbs d.natAbs : Nat) : Int) ∧ CDivW d ((Nat.gcd n.natAbs d.natAbs : Nat) : Int) := by
  have h0 := gcd_pos (n := n) h
  have h1 : (((Nat.gcd n.natAbs d.natAbs : Nat) : Int)).natAbs < 2 ^ 9000 := by
    rw [Int.natAbs_natCast]
    exact Nat.lt_of_le_of_lt (Nat.gcd_le_right _ (by omega)) hd
  exact ⟨wide_div (by omega) h1 (by decide) (by decide), wide_div (by omega) h1 (by decide) (by decide)⟩
theorem ok_number {f : Addr} {fd : FuncData} (F : Fun K "number" "number" sNumber f fd) (mG : mg "gcd" = some (.builtin "math.gcd")) : FnOk P w K mg base CX0 1 f fd ["n", "d"] (spNumber K) := by
  refine F.ok scNumber (fun vs H Q E h => ?_) (fun cdv A outer s H vs Q E hr h => ?_)
  · obtain ⟨n, d, rfl, _⟩ := h
    rfl
  · obtain ⟨n, d, rfl, h0, hd, k⟩ := h
    refine ⟨_, pss_cons (ps_if (pt_cmpR op_lt (pv 1) pe_int (nomark _)) (pss_one (ps_par (i := 0) (j := 1) rfl scNumber.nd rfl rfl (by decide) rfl rfl (pa_cons (pe_un un_neg (pv 0)) (pa_cons (pe_un un_neg (pv 1)) pa_nil)) (by rfl))) pss_nil)
      (pss_cons (ps_set (i := 2) scNumber.nd rfl (.inl rfl) (pe_callBfun cr_gcd (by rfl) mG (pa_cons (pv 0) (pa_cons (pv 1) pa_nil))))
      (pss_one (ps_ret (pe_tup (pa_cons (pe_op op_fdivW (pv 0) (pv 2)) (pa_cons (pe_op op_fdivW (pv 1) (pv 2)) pa_nil)))))), ?_⟩
    refine ⟨_, rfl, _, _, rfl, rfl, _, rfl, ite2 (fun e => ?_) (fun e => ?_)⟩
    · have hneg : d < 0 := of_decide_eq_true e
      have e1 : ((n : Rat) / (d : Rat)) = (((-n : Int) : Rat) / ((-d : Int) : Rat)) := by
        rw [Rat.intCast_neg, Rat.intCast_neg]; have := Mh.int_rat_ne h0; grind
      have hg := gcd_div (n := -n) (d := -d) (by omega) (by rw [Int.natAbs_neg]; exact hd)
      obtain ⟨n1, n2⟩ := num_pos (n := -n) (d := -d) (by omega)
      refine ⟨_, rfl, _, rfl, _, rfl, _, rfl, _, _, rfl, ?_⟩
      refine ⟨_, rfl, _, rfl, _, _, rfl, ?_⟩
      refine ⟨_, rfl, _, rfl, _, _, rfl, rfl, hg.1, _, rfl, _, rfl, _, _, rfl, rfl, hg.2, by show 2 ≤ sizeLine; decide, fun t ht => ?_⟩
      refine k _ _ (same_upd ht) ⟨t, rfl, .of ?_⟩
      rw [upd_same, e1]
      show some (HO.tup [V.int _, V.int _]) = some (HO.tup [V.int _, V.int _])
      rw [n1, n2]
    · have hpos : 0 < d := by have : ¬ d < 0 := fun z => e (decide_eq_true z); omega
      have hg := gcd_div (n := n) h0 hd
      obtain ⟨n1, n2⟩ := num_pos (n := n) (d := d) hpos
      refine ⟨_, rfl, _, rfl, _, _, rfl, ?_⟩
      refine ⟨_, rfl, _, rfl, _, _, rfl, rfl, hg.1, _, rfl, _, rfl, _, _, rfl, rfl, hg.2, by show 2 ≤ sizeLine; decide, fun t ht => ?_⟩
      refine k _ _ (same_upd ht) ⟨t, rfl, .of ?_⟩
      rw [upd_same]
      show some (HO.tup [V.int _, V.int _]) = some (HO.tup [V.int _, V.int _])
      rw [n1, n2]
end
end Mw
set_option Elab.async false
set_option linter.all false
set_option maxRecDepth 100000
set_option autoImplicit false
namespace Mw
open PySem PySem.Spec PyProof.Rows L2
/-! ### pairs of lists -/
theorem pget {α β : Type} {F : α → β → Prop} : ∀ {l : List α} {r : List β} {i : Nat} {a : α}, Paired F l r → l[i]? = some a → ∃ b, r[i]? = some b ∧ F a b
  | _, _, _, _, .nil, e => by simp at e
  | _, _, 0, _, .cons h _, e => by
    have := Option.some.inj e
    subst this
    exact ⟨_, rfl, h⟩
  | _, _, i + 1, a, .cons _ t, e => by
    obtain ⟨b, h1, h2⟩ := pget (i := i) (a := a) t (by simpa using e)
    exact ⟨b, by simpa using h1, h2⟩
theorem pgetr {α β : Type} {F : α → β → Prop} : ∀ {l : List α} {r : List β} {i : Nat} {b : β}, Paired F l r → r[i]? = some b → ∃ a, l[i]? = some a ∧ F a b
  | _, _, _, _, .nil, e => by simp at e
  | _, _, 0, _, .cons h _, e => by
    have := Option.some.inj e
    subst this
    exact ⟨_, rfl, h⟩
  | _, _, i + 1, a, .cons _ t, e => by
    obtain ⟨b, h1, h2⟩ := pgetr (i := i) (b := a) t (by simpa using e)
    exact ⟨b, by simpa using h1, h2⟩
theorem pset {α β : Type} {F : α → β → Prop} {a : α} {b : β} (h : F a b) : ∀ {l : List α} {r : List β} (i : Nat), Paired F l r → Paired F (l.set i a) (r.set i b)
  | _, _, _, .nil => .nil
  | _, _, 0, .cons _ t => .cons h t
  | _, _, i + 1, .cons q t => .cons q (pset h i t)
theorem NumV.all {K : PySem.W.Frag} {H H' : Hp} {vs : List V} {qs : List Rat} (h : Paired (NumV K H) vs qs) (s : Same H H') : Paired (NumV K H') vs qs := Paired.mapP h fun _ _ n => n.same s
theorem NumV.allx {K : PySem.W.Frag} {H H' : Hp} {vs : List V} {qs : List Rat} {o : Addr} {ys : List V} (h : Paired (NumV K H) vs qs) (s : Ex o H H') (ho : H o = some (.lst ys)) : Paired (NumV K H') vs qs := Paired.mapP h fun _ _ n => n.ex s ho
/-! ### the operations -/
abbrev Z4 (a b : Rat) : Prop := Mh.Sz 4000 a ∧ Mh.Sz 4000 b
def spBin (K : PySem.W.Frag) (f : Rat → Rat → Rat) (C : Rat → Rat → Prop) : Sp := fun vs H Q _ => ∃ (v1 v2 : V) (a b : Rat), vs = [v1, v2] ∧ NumV K H v1 a ∧ NumV K H v2 b ∧ C a b ∧ ∀ H' v, Same H H' → NumV K H' v (f a b) → Q v H'
def spCompare (K : PySem.W.Frag) : Sp := fun vs H Q _ => ∃ (v1 v2 : V) (a b : Rat), vs = [v1, v2] ∧ NumV K H v1 a ∧ NumV K H v2 b ∧ Z4 a b ∧ Q (.int (if a < b then -1 else if b < a then 1 else 0)) H
theorem den_ne (q : Rat) : ((q.den : Int) : Rat) ≠ 0 := Mh.int_rat_ne (by have := q.den_nz; omega)
theorem num_eq (q : Rat) : (q.num : Rat) = q * ((q.den : Int) : Rat) := by rw [← Mh.rat_eq q]; exact_mod_cast rfl
theorem plus_eq (a b : Rat) : ((a.num * (b.den : Int) + b.num * (a.den : Int) : Int) : Rat) / (((a.den : Int) * (b.den : Int) : Int) : Rat) = a + b := by
  rw [Rat.intCast_add, Rat.intCast_mul, Rat.intCast_mul, Rat.intCast_mul, num_eq a, num_eq b]
  have := den_ne a
  have := den_ne b
  grind
theorem minus_eq (a b : Rat) : ((a.num * (b.den : Int) - b.num * (a.den : Int) : Int) : Rat) / (((a.den : Int) * (b.den : Int) : Int) : Rat) = a - b := by
  rw [Rat.intCast_sub, Rat.intCast_mul, Rat.intCast_mul, Rat.intCast_mul, num_eq a, num_eq b]
  have := den_ne a
  have := den_ne b
  grind
theorem times_eq (a b : Rat) : ((a.num * b.num : Int) : Rat) / (((a.den : Int) * (b.den : Int) : Int) : Rat) = a * b := by
  rw [Rat.intCast_mul, Rat.intCast_mul, num_eq a, num_eq b]
  have := den_ne a
  have := den_ne b
  grind
theorem divided_eq (a b : Rat) (h : b ≠ 0) : ((a.num * (b.den : Int) : Int) : Rat) / (((a.den : Int) * b.num : Int) : Rat) = a / b := by
  rw [Rat.intCast_mul, Rat.intCast_mul, num_eq a, num_eq b]
  have := den_ne a
  have := den_ne b
  grind
theorem num_ne {q : Rat} (h : q ≠ 0) : q.num ≠ 0 := fun e => h (by have := num_eq q; rw [e] at this; have := den_ne q; grind)
theorem z_mul {i j : Int} (a : i.natAbs < 2 ^ 4000) (b : j.natAbs < 2 ^ 4000) : CMulW i j := wide_mul a b (by decide) (by decide) (by decide)
theorem z_mul9 {i j : Int} (a : i.natAbs < 2 ^ 4000) (b : j.natAbs < 2 ^ 4000) : (i * j).natAbs < 2 ^ 9000 := Nat.lt_of_lt_of_le (wide_lt a b) (Nat.pow_le_pow_right (by decide) (by decide))
theorem zd {q : Rat} {B : Nat} (h : Mh.Sz B q) : ((q.den : Int)).natAbs < 2 ^ B := by rw [Int.natAbs_natCast]; exact h.2
theorem lt_iff (a b : Rat) : a < b ↔ a.num * (b.den : Int) < b.num * (a.den : Int) := Rat.lt_iff a b
section
variable {P : Program} {w : World} {K : PySem.W.Frag} {mg : Str → Option Value} {base : Heap}
theorem cal_number {f : Addr} {fd : FuncData} (F : Fun K "number" "number" sNumber f fd) (g : mg "number" = some (.ref f)) (mG : mg "gcd" = some (.builtin "math.gcd")) : Cal P w K mg base "number" ["n", "d"] 1 f fd (spNumber K) :=
  ⟨g, F.kp, F.binds fun _ _ _ _ _ _ us hl => match us, hl with | [_, _], _ => rfl, ok_number F mG⟩
theorem scPlus : FnScope ["a", "b"] ["a", "b"] (defScope sPlus) := ⟨rfl, rfl, rfl, by decide +kernel, rfl, by decide +kernel, by decide +kernel⟩
theorem scMinus : FnScope ["a", "b"] ["a", "b"] (defScope sMinus) := ⟨rfl, rfl, rfl, by decide +kernel, rfl, by decide +kernel, by decide +kernel⟩
theorem scTimes : FnScope ["a", "b"] ["a", "b"] (defScope sTimes) := ⟨rfl, rfl, rfl, by decide +kernel, rfl, by decide +kernel, by decide +kernel⟩
theorem scDivided : FnScope ["a", "b"] ["a", "b"] (defScope sDivided) := ⟨rfl, rfl, rfl, by decide +kernel, rfl, by decide +kernel, by decide +kernel⟩
theorem cal_plus {f fN : Addr} {fd fdN : FuncData} (F : Fun K "plus" "plus" sPlus f fd) (g : mg "plus" = some (.ref f)) (N : Cal P w K mg base "number" ["n", "d"] 1 fN fdN (spNumber K)) : Cal P w K mg base "plus" ["a", "b"] 2 f fd (spBin K (· + ·) Z4) := by
  refine ⟨g, F.kp, F.binds fun _ _ _ _ _ _ us hl => match us, hl with | [_, _], _ => rfl, ?_⟩
  refine F.ok scPlus (fun vs H Q E h => ?_) (fun cdv A outer s H vs Q E hr h => ?_)
  · obtain ⟨v1, v2, a, b, rfl, _⟩ := h
    rfl
  · obtain ⟨v1, v2, a, b, rfl, h1, h2, ⟨z1, z2⟩, k⟩ := h
    refine ⟨_, pss_one (ps_ret (pe_call N.ok hr rfl N.g N.kp N.b .nil pass0 (pa_cons (pe_op op_add (pe_op op_mulW (pe_ix ix_tup (pv 0) pe_int (fun _ _ => rfl)) (pe_ix ix_tup (pv 1) pe_int (fun _ _ => rfl))) (pe_op op_mulW (pe_ix ix_tup (pv 1) pe_int (fun _ _ => rfl)) (pe_ix ix_tup (pv 0) pe_int (fun _ _ => rfl))))
      (pa_cons (pe_op op_mulW (pe_ix ix_tup (pv 0) pe_int (fun _ _ => rfl)) (pe_ix ix_tup (pv 1) pe_int (fun _ _ => rfl))) pa_nil)))), ?_⟩
    refine ⟨_, rfl, num0 h1 ⟨_, rfl, num1 h2 ⟨_, _, rfl, rfl, z_mul z1.1 (zd z2), _, rfl, num0 h2 ⟨_, rfl, num1 h1 ⟨_, _, rfl, rfl, z_mul z2.1 (zd z1), _, _, rfl, rfl, ?_⟩⟩⟩⟩⟩
    refine ⟨_, rfl, num1 h1 ⟨_, rfl, num1 h2 ⟨_, _, rfl, rfl, z_mul (zd z1) (zd z2), ?_⟩⟩⟩
    refine ⟨_, _, rfl, Int.mul_ne_zero (by have := a.den_nz; omega) (by have := b.den_nz; omega), z_mul9 (zd z1) (zd z2), fun H' v s n => k H' v s ?_⟩
    rw [plus_eq] at n
    exact n
theorem cal_minus {f fN : Addr} {fd fdN : FuncData} (F : Fun K "minus" "minus" sMinus f fd) (g : mg "minus" = some (.ref f)) (N : Cal P w K mg base "number" ["n", "d"] 1 fN fdN (spNumber K)) : Cal P w K mg base "minus" ["a", "b"] 2 f fd (spBin K (· - ·) Z4) := by
  refine ⟨g, F.kp, F.binds fun _ _ _ _ _ _ us hl => match us, hl with | [_, _], _ => rfl, ?_⟩
  refine F.ok scMinus (fun vs H Q E h => ?_) (fun cdv A outer s H vs Q E hr h => ?_)
  · obtain ⟨v1, v2, a, b, rfl, _⟩ := h
    rfl
  · obtain ⟨v1, v2, a, b, rfl, h1, h2, ⟨z1, z2⟩, k⟩ := h
    refine ⟨_, pss_one (ps_ret (pe_call N.ok hr rfl N.g N.kp N.b .nil pass0 (pa_cons (pe_op op_sub (pe_op op_mulW (pe_ix ix_tup (pv 0) pe_int (fun _ _ => rfl)) (pe_ix ix_tup (pv 1) pe_int (fun _ _ => rfl))) (pe_op op_mulW (pe_ix ix_tup (pv 1) pe_int (fun _ _ => rfl)) (pe_ix ix_tup (pv 0) pe_int (fun _ _ => rfl))))
      (pa_cons (pe_op op_mulW (pe_ix ix_tup (pv 0) pe_int (fun _ _ => rfl)) (pe_ix ix_tup (pv 1) pe_int (fun _ _ => rfl))) pa_nil)))), ?_⟩
    refine ⟨_, rfl, num0 h1 ⟨_, rfl, num1 h2 ⟨_, _, rfl, rfl, z_mul z1.1 (zd z2), _, rfl, num0 h2 ⟨_, rfl, num1 h1 ⟨_, _, rfl, rfl, z_mul z2.1 (zd z1), _, _, rfl, rfl, ?_⟩⟩⟩⟩⟩
    refine ⟨_, rfl, num1 h1 ⟨_, rfl, num1 h2 ⟨_, _, rfl, rfl, z_mul (zd z1) (zd z2), ?_⟩⟩⟩
    refine ⟨_, _, rfl, Int.mul_ne_zero (by have := a.den_nz; omega) (by have := b.den_nz; omega), z_mul9 (zd z1) (zd z2), fun H' v s n => k H' v s ?_⟩
    rw [minus_eq] at n
    exact n
theorem cal_times {f fN : Addr} {fd fdN : FuncData} (F : Fun K "times" "times" sTimes f fd) (g : mg "times" = some (.ref f)) (N : Cal P w K mg base "number" ["n", "d"] 1 fN fdN (spNumber K)) : Cal P w K mg base "times" ["a", "b"] 2 f fd (spBin K (· * ·) Z4) := by
  refine ⟨g, F.kp, F.binds fun _ _ _ _ _ _ us hl => match us, hl with | [_, _], _ => rfl, ?_⟩
  refine F.ok scTimes (fun vs H Q E h => ?_) (fun cdv A outer s H vs Q E hr h => ?_)
  · obtain ⟨v1, v2, a, b, rfl, _⟩ := h
    rfl
  · obtain ⟨v1, v2, a, b, rfl, h1, h2, ⟨z1, z2⟩, k⟩ := h
    refine ⟨_, pss_one (ps_ret (pe_call N.ok hr rfl N.g N.kp N.b .nil pass0 (pa_cons (pe_op op_mulW (pe_ix ix_tup (pv 0) pe_int (fun _ _ => rfl)) (pe_ix ix_tup (pv 1) pe_int (fun _ _ => rfl)))
      (pa_cons (pe_op op_mulW (pe_ix ix_tup (pv 0) pe_int (fun _ _ => rfl)) (pe_ix ix_tup (pv 1) pe_int (fun _ _ => rfl))) pa_nil)))), ?_⟩
    refine ⟨_, rfl, num0 h1 ⟨_, rfl, num0 h2 ⟨_, _, rfl, rfl, z_mul z1.1 z2.1, ?_⟩⟩⟩
    refine ⟨_, rfl, num1 h1 ⟨_, rfl, num1 h2 ⟨_, _, rfl, rfl, z_mul (zd z1) (zd z2), ?_⟩⟩⟩
    refine ⟨_, _, rfl, Int.mul_ne_zero (by have := a.den_nz; omega) (by have := b.den_nz; omega), z_mul9 (zd z1) (zd z2), fun H' v s n => k H' v s ?_⟩
    rw [times_eq] at n
    exact n
theorem cal_divided {f fN : Addr} {fd fdN : FuncData} (F : Fun K "divided" "divided" sDivided f fd) (g : mg "divided" = some (.ref f)) (N : Cal P w K mg base "number" ["n", "d"] 1 fN fdN (spNumber K)) : Cal P w K mg base "divided" ["a", "b"] 2 f fd (spBin K (· / ·) fun a b => Z4 a b ∧ b ≠ 0) := by
  refine ⟨g, F.kp, F.binds fun _ _ _ _ _ _ us hl => match us, hl with | [_, _], _ => rfl, ?_⟩
  refine F.ok scDivided (fun vs H Q E h => ?_) (fun cdv A outer s H vs Q E hr h => ?_)
  · obtain ⟨v1, v2, a, b, rfl, _⟩ := h
    rfl
  · obtain ⟨v1, v2, a, b, rfl, h1, h2, ⟨⟨z1, z2⟩, b0⟩, k⟩ := h
    refine ⟨_, pss_one (ps_ret (pe_call N.ok hr rfl N.g N.kp N.b .nil pass0 (pa_cons (pe_op op_mulW (pe_ix ix_tup (pv 0) pe_int (fun _ _ => rfl)) (pe_ix ix_tup (pv 1) pe_int (fun _ _ => rfl)))
      (pa_cons (pe_op op_mulW (pe_ix ix_tup (pv 0) pe_int (fun _ _ => rfl)) (pe_ix ix_tup (pv 1) pe_int (fun _ _ => rfl))) pa_nil)))), ?_⟩
    refine ⟨_, rfl, num0 h1 ⟨_, rfl, num1 h2 ⟨_, _, rfl, rfl, z_mul z1.1 (zd z2), ?_⟩⟩⟩
    refine ⟨_, rfl, num1 h1 ⟨_, rfl, num0 h2 ⟨_, _, rfl, rfl, z_mul (zd z1) z2.1, ?_⟩⟩⟩
    refine ⟨_, _, rfl, Int.mul_ne_zero (by have := a.den_nz; omega) (num_ne b0), z_mul9 (zd z1) z2.1, fun H' v s n => k H' v s ?_⟩
    rw [divided_eq a b b0] at n
    exact n
theorem scCompare : FnScope ["a", "b", "left", "right"] ["a", "b"] (defScope sCompare) := ⟨rfl, rfl, rfl, by decide +kernel, rfl, by decide +kernel, by decide +kernel⟩
theorem cal_compare {f : Addr} {fd : FuncData} (F : Fun K "compare" "compare" sCompare f fd) (g : mg "compare" = some (.ref f)) (mi : mg "int" = none) : Cal P w K mg base "compare" ["a", "b"] 1 f fd (spCompare K) := by
  refine ⟨g, F.kp, F.binds fun _ _ _ _ _ _ us hl => match us, hl with | [_, _], _ => rfl, ?_⟩
  refine F.ok scCompare (fun vs H Q E h => ?_) (fun cdv A outer s H vs Q E hr h => ?_)
  · obtain ⟨v1, v2, a, b, rfl, _⟩ := h
    rfl
  · obtain ⟨v1, v2, a, b, rfl, h1, h2, ⟨z1, z2⟩, k⟩ := h
    refine ⟨_, pss_cons (ps_par (i := 2) (j := 3) rfl scCompare.nd rfl rfl (by decide) rfl rfl (pa_cons (pe_op op_mulW (pe_ix ix_tup (pv 0) pe_int (fun _ _ => rfl)) (pe_ix ix_tup (pv 1) pe_int (fun _ _ => rfl))) (pa_cons (pe_op op_mulW (pe_ix ix_tup (pv 1) pe_int (fun _ _ => rfl)) (pe_ix ix_tup (pv 0) pe_int (fun _ _ => rfl))) pa_nil)) (by rfl))
      (pss_cons (ps_if (pt_cmpR op_lt (pv 2) (pv 3) (nomark _)) (pss_one (ps_ret (pe_un un_neg pe_int))) pss_nil)
      (pss_one (ps_ret (pe_callTy call_int1 (by rfl) mi (by decide +kernel) (pa_cons (pe_cmpR op_gt (pv 2) (pv 3) (nomark _)) pa_nil))))), ?_⟩
    refine ⟨_, rfl, num0 h1 ⟨_, rfl, num1 h2 ⟨_, _, rfl, rfl, z_mul z1.1 (zd z2), _, rfl, num0 h2 ⟨_, rfl, num1 h1 ⟨_, _, rfl, rfl, z_mul z2.1 (zd z1), _, _, rfl, ?_⟩⟩⟩⟩⟩
    refine ⟨_, rfl, _, rfl, _, _, rfl, rfl, _, rfl, ite2 (fun e => ?_) (fun e => ?_)⟩
    · have hlt : a < b := (lt_iff a b).mpr (of_decide_eq_true e)
      refine ⟨_, rfl, ?_⟩
      rw [if_pos hlt] at k
      exact k
    · have hlt : ¬ a < b := fun z => e (decide_eq_true ((lt_iff a b).mp z))
      refine ⟨_, rfl, _, rfl, _, _, rfl, rfl, .inr ⟨_, rfl, ?_⟩⟩
      rw [if_neg hlt] at k
      by_cases hgt : b < a
      · rw [if_pos hgt] at k
        rw [if_pos (decide_eq_true ((lt_iff b a).mp hgt))]
        exact k
      · rw [if_neg hgt] at k
        rw [if_neg (fun z => hgt ((lt_iff b a).mpr (of_decide_eq_true z)))]
        exact k
/-! ### total -/
structure Con0 (K : PySem.W.Frag) (mg : Str → Option Value) (tN tO : Addr) : Prop where
  zN : mg "NOUGHT" = some (.ref tN)
  wN : ∀ H, SqT K H tN (NV 0)
  zO : mg "ONE" = some (.ref tO)
  wO : ∀ H, SqT K H tO (NV 1)
theorem scTotal : FnScope ["numbers", "found", "one"] ["numbers"] (defScope sTotal) := ⟨rfl, rfl, rfl, by decide +kernel, rfl, by decide +kernel, by decide +kernel⟩
def spTotal (K : PySem.W.Frag) : Sp := fun vs H Q _ => ∃ (a : Addr) (us : List V) (qs : List Rat) (E N : Nat), vs = [.ref a] ∧ SqL K H a us ∧ Paired (NumV K H) us qs ∧ 0 < E ∧ E < 2 ^ 4000 ∧ (qs.length + 1) * N < 2 ^ 4000 ∧ (∀ q ∈ qs, Mh.Bd E N q) ∧ ∀ H' v, Same H H' → NumV K H' v qs.sum → Q v H'
theorem sum_snoc (l : List Rat) (q : Rat) : (l ++ [q]).sum = l.sum + q := by
  induction l with
  | nil => rw [List.nil_append, List.sum_cons, List.sum_nil]; grind
  | cons a l ih => rw [List.cons_append, List.sum_cons, List.sum_cons, ih]; grind
theorem take_snoc {α : Type} {l : List α} {i : Nat} {a : α} (h : l[i]? = some a) : l.take (i + 1) = l.take i ++ [a] := by
  rw [List.take_add_one, h]; rfl
theorem bd_sum {E N : Nat} : ∀ {l : List Rat}, (∀ q ∈ l, Mh.Bd E N q) → Mh.Bd E (l.length * N) l.sum
  | [], _ => by rw [List.sum_nil]; exact .zero _ _
  | q :: l, h => by
    have := (h q List.mem_cons_self).add (bd_sum (l := l) fun r hr => h r (List.mem_cons_of_mem _ hr))
    rw [List.sum_cons, List.length_cons, Nat.succ_mul, Nat.add_comm]
    exact this
theorem cal_total {f fP tN tO : Addr} {fd fdP : FuncData} (F : Fun K "total" "total" sTotal f fd) (g : mg "total" = some (.ref f)) (T : Con0 K mg tN tO) (CP : Cal P w K mg base "plus" ["a", "b"] 2 fP fdP (spBin K (· + ·) Z4)) : Cal P w K mg base "total" ["numbers"] 3 f fd (spTotal K) := by
  refine ⟨g, F.kp, F.binds fun _ _ _ _ _ _ us hl => match us, hl with | [_], _ => rfl, ?_⟩
  refine F.ok scTotal (fun vs H Q E h => ?_) (fun cdv A outer s H vs Q E hr h => ?_)
  · obtain ⟨a, us, qs, B, N, rfl, _⟩ := h
    rfl
  · obtain ⟨a, us, qs, B, N, rfl, hS, hp, b0, b1, b2, hb, k⟩ := h
    refine ⟨_, pss_cons (ps_set (i := 1) scTotal.nd rfl (.inl rfl) (pe_glob (v := .ref tN) (by rfl) T.zN rfl))
      (pss_cons (ps_for PassesOwn.never rfl (pi_list (pv 0)) (pg_name (i := 2) scTotal.nd rfl (.inl rfl))
        (pss_one (ps_set (i := 1) scTotal.nd rfl (.inl rfl) (pe_call CP.ok hr (by rfl) CP.g CP.kp CP.b .nil pass0 (pa_cons (pv 1) (pa_cons (pv 2) pa_nil))))))
      (pss_one (ps_ret (pv 1)))), ?_⟩
    have bt : ∀ i, Mh.Sz 4000 (qs.take i).sum := fun i => by
      refine (bd_sum (l := qs.take i) fun q hq => hb q (List.mem_of_mem_take hq)).sz b0 (Nat.lt_of_le_of_lt (Nat.mul_le_mul_right _ ?_) b2) b1
      rw [List.length_take]; omega
    refine ⟨_, rfl, a, rfl, ⟨_, hS⟩, for_list (K := K) (a := a) (xs := us) (fun i σ H2 => ∃ v y, σ = [some (.ref a), some v, y] ∧ Same H H2 ∧ NumV K H2 v (qs.take i).sum) ⟨.ref tN, none, rfl, .refl _, tN, rfl, ?_⟩ (fun i σ H2 _ ⟨_, _, _, s2, _⟩ => s2.seq hS) ?_ ?_⟩
    · exact T.wN _
    · rintro i x σ H2 hi ⟨v, y, rfl, s2, n2⟩
      obtain ⟨q, hq, nq⟩ := pget hp hi
      have hqm : q ∈ qs := List.mem_of_getElem? hq
      refine ⟨_, rfl, _, rfl, v, x, _, q, rfl, n2, nq.same s2, ⟨bt i, (hb q hqm).sz b0 (Nat.lt_of_le_of_lt (Nat.le_mul_of_pos_left _ (by omega)) b2) b1⟩, fun H3 z s3 n3 => ?_⟩
      refine ⟨z, some x, rfl, s2.trans s3, ?_⟩
      rw [take_snoc hq, sum_snoc]
      exact n3
    · rintro σ H2 ⟨v, y, rfl, s2, n2⟩
      refine ⟨_, rfl, k H2 v s2 ?_⟩
      rw [← List.take_length (l := qs), ← hp.length]
      exact n2
end
end Mw
set_option Elab.async false
set_option linter.all false
set_option maxRecDepth 100000
set_option autoImplicit false
namespace Mw
open PySem PySem.Spec PyProof.Rows L2
/-- the built-ins that the text calls are still the built-ins -/
structure Bi (mg : Str → Option Value) : Prop where
  list : mg "list" = none
  len : mg "len" = none
  range : mg "range" = none
  zip : mg "zip" = none
  enum : mg "enumerate" = none
  all : mg "all" = none
  sorted : mg "sorted" = none
  dict : mg "dict" = none
  int : mg "int" = none
  abs : mg "abs" = none
  isi : mg "isinstance" = none
  tuple : mg "tuple" = none
  bool : mg "bool" = none
  sum : mg "sum" = none
/-! ### rows: lists of numbers -/
def tab {α : Type} (n : Nat) (f : Nat → α) : List α := (List.range n).map f
theorem tab_len {α : Type} (n : Nat) (f : Nat → α) : (tab n f).length = n := by unfold tab; rw [List.length_map, List.length_range]
theorem tab_get {α : Type} {n : Nat} {f : Nat → α} {i : Nat} (h : i < n) : (tab n f)[i]? = some (f i) := by
  unfold tab; rw [List.getElem?_map, List.getElem?_range h]; rfl
theorem tab_succ {α : Type} (n : Nat) (f : Nat → α) : tab (n + 1) f = tab n f ++ [f n] := by
  unfold tab; rw [List.range_succ, List.map_append]; rfl
theorem tab_congr {α : Type} {n : Nat} {f g : Nat → α} (h : ∀ j, j < n → f j = g j) : tab n f = tab n g := by
  unfold tab; exact List.map_congr_left fun j hj => h j (List.mem_range.mp hj)
theorem tab_sum (n : Nat) (f : Nat → Rat) : (tab n f).sum = Mh.sm n f := by
  induction n with
  | zero => rfl
  | succ n ih => rw [tab_succ, sum_snoc, ih]; rfl
theorem tab_mem {α : Type} {n : Nat} {f : Nat → α} {q : α} (h : q ∈ tab n f) : ∃ j, j < n ∧ q = f j := by
  unfold tab at h
  obtain ⟨j, h1, h2⟩ := List.mem_map.mp h
  exact ⟨j, List.mem_range.mp h1, h2.symm⟩
theorem tab_eq {α : Type} {n : Nat} {f : Nat → α} {l : List α} (hl : l.length = n) (h : ∀ j, j < n → l[j]? = some (f j)) : l = tab n f := by
  refine List.ext_getElem? fun i => ?_
  by_cases hi : i < n
  · rw [h i hi, tab_get hi]
  · rw [List.getElem?_eq_none (by omega), List.getElem?_eq_none (by rw [tab_len]; omega)]
theorem tab_set {α : Type} {n : Nat} {f : Nat → α} {k : Nat} {z : α} : (tab n f).set k z = tab n (fun j => if j = k then z else f j) := by
  refine tab_eq (by rw [List.length_set, tab_len]) fun j hj => ?_
  by_cases e : j = k
  · subst e
    rw [List.getElem?_set_self (by rw [tab_len]; exact hj), if_pos rfl]
  · rw [List.getElem?_set_ne (fun z => e z.symm), tab_get hj, if_neg e]
def RowN (K : PySem.W.Frag) (H : Hp) (a : Addr) (qs : List Rat) : Prop := ∃ vs, H a = some (.lst vs) ∧ Paired (NumV K H) vs qs
theorem RowN.same {K : PySem.W.Frag} {H H' : Hp} {a : Addr} {qs : List Rat} (h : RowN K H a qs) (s : Same H H') : RowN K H' a qs := by
  obtain ⟨vs, e, p⟩ := h
  exact ⟨vs, s _ _ e, NumV.all p s⟩
theorem RowN.ex {K : PySem.W.Frag} {H H' : Hp} {a o : Addr} {qs : List Rat} {ys : List V} (h : RowN K H a qs) (s : Ex o H H') (ho : H o = some (.lst ys)) (n : a ≠ o) : RowN K H' a qs := by
  obtain ⟨vs, e, p⟩ := h
  exact ⟨vs, s _ _ e n, NumV.allx p s ho⟩
/-- the list at D holds these numbers so far -/
theorem RowN.snoc {K : PySem.W.Frag} {H H' : Hp} {D : Addr} {vs : List V} {qs : List Rat} {v : V} {q : Rat} (e : H D = some (.lst vs)) (h : Paired (NumV K H) vs qs) (s : Same H H') (n : NumV K H' v q) : RowN K (upd H' D (.lst (vs ++ [v]))) D (qs ++ [q]) :=
  ⟨_, upd_same, Paired.snoc (NumV.allx (NumV.all h s) ex_upd (s _ _ e)) (n.ex ex_upd (s _ _ e))⟩
section
variable {P : Program} {w : World} {K : PySem.W.Frag} {mg : Str → Option Value} {base : Heap}
/-! ### rules whose reading names K itself (within a comprehension) -/
theorem ixL (K : PySem.W.Frag) {X : Cx} (h : X.K = K := by rfl) : IxR X (rIxL K) := by subst h; exact ix_list
theorem ixT (K : PySem.W.Frag) {X : Cx} (h : X.K = K := by rfl) : IxR X (rIxT K) := by subst h; exact ix_tup
/-! ### lessened -/
abbrev sLessened : Stmt := topS 12
abbrev nLessened : List Str := ["row", "column", "by", "one", "two"]
theorem scLessened : FnScope nLessened ["row", "column", "by"] (defScope sLessened) := ⟨rfl, rfl, rfl, by decide +kernel, rfl, by decide +kernel, by decide +kernel⟩
def spLessened (K : PySem.W.Frag) : Sp := fun vs H Q _ => ∃ (a b : Addr) (c n : Nat) (f r : Nat → Rat), vs = [.ref a, .int (c : Int), .ref b] ∧ RowN K H a (tab n f) ∧ RowN K H b (tab n r) ∧ c < n ∧ n ≤ 100 ∧
  (∀ j, j < n → Mh.Sz 2000 (f j)) ∧ (∀ j, j < n → Mh.Sz 2000 (r j)) ∧ ∀ H' p, Same H H' → H p = none → RowN K H' p (tab n (fun j => f j - f c * r j)) → Q (.ref p) H'
theorem cal_lessened {f fM fT : Addr} {fd fdM fdT : FuncData} (F : Fun K "lessened" "lessened" sLessened f fd) (g : mg "lessened" = some (.ref f)) (B : Bi mg) (CM : Cal P w K mg base "minus" ["a", "b"] 2 fM fdM (spBin K (· - ·) Z4)) (CT : Cal P w K mg base "times" ["a", "b"] 2 fT fdT (spBin K (· * ·) Z4)) :
    Cal P w K mg base "lessened" ["row", "column", "by"] 3 f fd (spLessened K) := by
  refine ⟨g, F.kp, F.binds fun _ _ _ _ _ _ us hl => match us, hl with | [_, _, _], _ => rfl, ?_⟩
  refine F.ok scLessened (fun vs H Q E h => ?_) (fun cdv A outer s H vs Q E hr h => ?_)
  · obtain ⟨a, b, c, n, f, r, rfl, _⟩ := h
    rfl
  · obtain ⟨a, b, c, n, f, r, rfl, ⟨va, ea, pa⟩, ⟨vb, eb, pb⟩, hc, hn, hf, hrr, k⟩ := h
    refine ⟨_, pss_one (ps_ret (pe_lc (own := [("one", 3), ("two", 4)]) (g := gTup K 2 (gCons (gName 3) (gCons (gName 4) gNil))) (tt := tYes) rfl scLessened.nd (pi_zip (by rfl) B.zip (pa_cons (pv 0) (pa_cons (pv 2) pa_nil)))
      (blkOk_by (N := nLessened) (sc := defScope sLessened) (by decide +kernel)) (fun _ _ _ _ _ => pg_tup rfl (pgs_cons (pg_name (i := 3) scLessened.nd rfl (.inl rfl)) (pgs_cons (pg_name (i := 4) scLessened.nd rfl (.inl rfl)) pgs_nil))) (fun _ _ _ _ _ => pts_nil)
      (fun _ _ _ _ _ => pe_call CM.ok hr (by rfl) CM.g CM.kp CM.b .nil pass0 (pa_cons (pv 3) (pa_cons (pe_call CT.ok hr (by rfl) CT.g CT.kp CT.b .nil pass0 (pa_cons (pe_ix (ixL K) (pv 0) (pv 1) (fun _ _ => rfl)) (pa_cons (pv 4) pa_nil))) pa_nil))))), ?_⟩
    have la : va.length = n := by rw [pa.length, tab_len]
    have lb : vb.length = n := by rw [pb.length, tab_len]
    refine ⟨_, rfl, _, rfl, a, b, va, vb, rfl, .of ea, .of eb, fun D hD => lc_it (walk_zip (n := n) (by omega)) (fun i H2 => Same H H2 ∧ RowN K H2 D (tab i (fun j => f j - f c * r j))) ⟨same_upd hD, _, upd_same, .nil⟩ (fun i H2 _ ⟨s2, _⟩ => ⟨s2.seq (.of ea), s2.seq (.of eb)⟩) ?_ (fun H2 ⟨s2, z⟩ => k H2 D s2 hD z)⟩
    rintro i x H2 H3 hi ⟨s2, vs, eD, pD⟩ ⟨T, x1, x2, rfl, nT, rfl, hx1, hx2⟩
    obtain ⟨q1, hq1, n1⟩ := pget pa hx1
    obtain ⟨q2, hq2, n2⟩ := pget pb hx2
    rw [tab_get hi] at hq1 hq2
    cases hq1
    cases hq2
    have sT : Same H2 (upd H2 T (.tup [x1, x2])) := same_upd nT
    have s3 := s2.trans sT
    obtain ⟨vc, hvc, nc⟩ := pgetr pa (tab_get (f := f) hc)
    refine ⟨T, [x1, x2], rfl, .of upd_same, rfl, x1, [x2], rfl, x2, [], rfl, rfl, rfl, ?_⟩
    refine ⟨_, rfl, _, rfl, _, rfl, a, va, _, vc, rfl, rfl, s3.seq (.of ea), atI_nat hvc, _, rfl, vc, x2, f c, r i, rfl, nc.same s3, n2.same s3, ⟨(hf c hc).mono (by decide), (hrr i hi).mono (by decide)⟩, fun H4 v4 s4 n4 => ?_⟩
    refine ⟨x1, v4, f i, f c * r i, rfl, (n1.same s3).same s4, n4, ⟨(hf i hi).mono (by decide), ((hf c hc).mul (hrr i hi)).mono (by decide)⟩, fun H5 v5 s5 n5 => ?_⟩
    have s6 := (sT.trans s4).trans s5
    refine ⟨vs, s6 _ _ eD, ?_, ?_, ?_⟩
    · rw [pD.length, tab_len]; exact small1000 (by omega)
    · exact Ex.same ex_upd (s2.trans s6) hD
    · rw [tab_succ]
      exact RowN.snoc eD pD s6 n5
end
end Mw
set_option Elab.async false
set_option linter.all false
set_option maxRecDepth 100000
set_option autoImplicit false
namespace Mw
open PySem PySem.Spec PyProof.Rows L2
/-! ### two numbers compared -/
def DQ (q : Rat) : PyData := .tuple [.int q.num, .int (q.den : Int)]
theorem dq_shaped (q : Rat) : SeqAt.shaped (DQ q) = true := by rfl
theorem dq_eqv (a b : Rat) : PyData.eqv (DQ a) (DQ b) = decide (a = b) := by
  unfold DQ
  simp only [PyData.eqv, PyData.eqvAll, Bool.and_true]
  rw [Bool.eq_iff_iff, Bool.and_eq_true, decide_eq_true_iff, beq_iff_eq, beq_iff_eq]
  constructor
  · rintro ⟨h1, h2⟩
    exact Rat.ext h1 (by omega)
  · rintro rfl
    exact ⟨rfl, rfl⟩
theorem NumV.dp {K : PySem.W.Frag} {H : Hp} {v : V} {q : Rat} (h : NumV K H v q) : Dp K H v (DQ q) := by
  obtain ⟨t, rfl, h⟩ := h
  exact .tup h (.cons (.int _) (.cons (.int _) .nil))
theorem ne_num {K : PySem.W.Frag} {H : Hp} {v u : V} {a b : Rat} {Q : VK} (h : NumV K H v a) (h' : NumV K H u b) (k : Q (.bl (!decide (a = b))) H) : rNeD K v u H Q :=
  ⟨DQ a, DQ b, h.dp, h'.dp, dq_shaped a, dq_shaped b, by rw [dq_eqv]; exact k⟩
theorem neN {K : PySem.W.Frag} {mg : Str → Option Value} {tN tO : Addr} {H : Hp} {s : L2.St} {v : V} {q : Rat} {Q : VK} (T : Con0 K mg tN tO) (h : NumV K H v q) (k : Q (.bl (!decide (q = 0))) H) : tC (.ref tN) s H fun y H2 => rNeD K v y H2 Q :=
  ne_num h ⟨tN, rfl, T.wN H⟩ k
theorem neD (K : PySem.W.Frag) {X : Cx} {k : Nat} (hr : Room k X.A) (h : X.K = K := by rfl) : OpR X (compareOp .NotEq) (rNeD K) := by subst h; exact op_neD hr.units
/-! ### the rows as they stand in a list -/
structure MatAt (K : PySem.W.Frag) (H : Hp) (o : Addr) (ps : List Addr) (n : Nat) (M : Nat → Nat → Rat) : Prop where
  li : H o = some (.lst (ps.map V.ref))
  le : ps.length = n
  ro : ∀ i p, ps[i]? = some p → p ≠ o ∧ RowN K H p (tab (n + 1) (M i))
theorem MatAt.at {K : PySem.W.Frag} {H : Hp} {o : Addr} {ps : List Addr} {n : Nat} {M : Nat → Nat → Rat} (A : MatAt K H o ps n M) {i : Nat} (h : i < n) : ∃ p vs, ps[i]? = some p ∧ (ps.map V.ref)[i]? = some (.ref p) ∧ p ≠ o ∧ H p = some (.lst vs) ∧ Paired (NumV K H) vs (tab (n + 1) (M i)) := by
  have hi : i < ps.length := by rw [A.le]; exact h
  obtain ⟨n1, vs, e, pr⟩ := A.ro i ps[i] (List.getElem?_eq_getElem hi)
  exact ⟨ps[i], vs, List.getElem?_eq_getElem hi, by rw [List.getElem?_map, List.getElem?_eq_getElem hi]; rfl, n1, e, pr⟩
theorem MatAt.same {K : PySem.W.Frag} {H H' : Hp} {o : Addr} {ps : List Addr} {n : Nat} {M : Nat → Nat → Rat} (A : MatAt K H o ps n M) (s : Same H H') : MatAt K H' o ps n M :=
  ⟨s _ _ A.li, A.le, fun i p e => ⟨(A.ro i p e).1, (A.ro i p e).2.same s⟩⟩
/-- one row is stored -/
theorem MatAt.put {K : PySem.W.Frag} {H : Hp} {o : Addr} {ps : List Addr} {n : Nat} {M : Nat → Nat → Rat} (A : MatAt K H o ps n M) {i : Nat} {p : Addr} {f : Nat → Rat} (hp : p ≠ o) (h : RowN K H p (tab (n + 1) f)) :
    MatAt K (upd H o (.lst ((ps.map V.ref).set i (.ref p)))) o (ps.set i p) n (fun k => if k = i then f else M k) := by
  refine ⟨?_, ?_, fun k q e => ?_⟩
  · rw [upd_same, List.map_set]
  · rw [List.length_set, A.le]
  · by_cases z : k = i
    · subst z
      have hk : k < ps.length := by
        have := (List.getElem?_eq_some_iff.mp e).1
        rw [List.length_set] at this
        exact this
      rw [List.getElem?_set_self hk] at e
      cases e
      refine ⟨hp, ?_⟩
      rw [if_pos rfl]
      exact h.ex ex_upd A.li hp
    · rw [List.getElem?_set_ne (fun w => z w.symm)] at e
      obtain ⟨n1, r1⟩ := A.ro k q e
      refine ⟨n1, ?_⟩
      rw [if_neg z]
      exact r1.ex ex_upd A.li n1
theorem MatAt.congr {K : PySem.W.Frag} {H : Hp} {o : Addr} {ps : List Addr} {n : Nat} {M N : Nat → Nat → Rat} (A : MatAt K H o ps n M) (h : ∀ i, i < n → ∀ j, j < n + 1 → M i j = N i j) : MatAt K H o ps n N :=
  ⟨A.li, A.le, fun i p e => ⟨(A.ro i p e).1, by
    have hi : i < n := by have := (List.getElem?_eq_some_iff.mp e).1; rw [A.le] at this; exact this
    rw [← tab_congr (h i hi)]; exact (A.ro i p e).2⟩⟩
theorem ixN_nat {n k : Nat} (h : k < n) : ixN n (k : Int) = some k := by
  unfold ixN
  rw [if_pos (by omega), if_pos (by omega)]
  simp
section
variable {P : Program} {w : World} {K : PySem.W.Frag} {mg : Str → Option Value} {base : Heap}
/-! ### solved -/
abbrev sSolved : Stmt := topS 13
abbrev nSolved : List Str := ["rows", "column", "at", "pivot", "by", "one", "row"]
theorem scSolved : FnScope nSolved ["rows"] (defScope sSolved) := ⟨rfl, rfl, rfl, by decide +kernel, rfl, by decide +kernel, by decide +kernel⟩
def spSolved (K : PySem.W.Frag) : Sp := fun vs H Q _ => ∃ (a : Addr) (ps : List Addr) (n : Nat) (M : Nat → Nat → Rat) (u : Nat → Nat) (y : Nat), vs = [.ref a] ∧ MatAt K H a ps n M ∧ n ≤ 6 ∧ (∀ j, j < n → 0 < u j ∧ u j ≤ 32) ∧ 0 < u n ∧ u n ≤ 2 ^ 1500 ∧ y ≤ 1500 ∧ Mh.Ela u y n 0 M ∧
  ∀ H' p x, Same H H' → H p = none → RowN K H' p (tab n x) → Mh.Sat 1 M n x → (∃ D : Nat, 0 < D ∧ D ≤ 2 ^ (63 * n) ∧ ∀ i, i < n → Mh.Bd (D * u n) (2 ^ (y + 63 * n)) (x i)) → Q (.ref p) H'
/-- the rows within a column's turn: those below i are done -/
def mid (c : Nat) (N : Nat → Nat → Rat) (r : Nat → Rat) (i : Nat) : Nat → Nat → Rat := fun a => if a = c then r else if a < i then fun j => N a j - N a c * r j else N a
theorem cal_solved {f fL fD fT tN tO : Addr} {fd fdL fdD fdT : FuncData} (F : Fun K "solved" "solved" sSolved f fd) (g : mg "solved" = some (.ref f)) (B : Bi mg) (T : Con0 K mg tN tO)
    (CL : Cal P w K mg base "lessened" ["row", "column", "by"] 3 fL fdL (spLessened K)) (CD : Cal P w K mg base "divided" ["a", "b"] 2 fD fdD (spBin K (· / ·) fun a b => Z4 a b ∧ b ≠ 0)) (CT : Cal P w K mg base "times" ["a", "b"] 2 fT fdT (spBin K (· * ·) Z4)) :
    Cal P w K mg base "solved" ["rows"] 4 f fd (spSolved K) := by
  refine ⟨g, F.kp, F.binds fun _ _ _ _ _ _ us hl => match us, hl with | [_], _ => rfl, ?_⟩
  refine F.ok scSolved (fun vs H Q E h => ?_) (fun cdv A outer s H vs Q E hr h => ?_)
  · obtain ⟨a, ps, n, M, u, y, rfl, _⟩ := h
    rfl
  · obtain ⟨a, ps, n, M, u, y, rfl, hM, hn, hu, hE, hE2, hy, hEla, k⟩ := h
    have hr2 : Room 2 _ := hr.mono (by decide)
    have nd := scSolved.nd
    refine ⟨_, pss_cons (ps_set (i := 0) nd rfl (.inr rfl) (pe_callTy call_list_of (by rfl) B.list (by decide +kernel) (pa_cons (pv 0) pa_nil)))
      (pss_cons (ps_for PassesOwn.never rfl (pi_range1 rfl B.range (pa_cons (pe_callB call_len_seq (by rfl) B.len PySem.boot_len (pa_cons (pv 0) pa_nil)) pa_nil)) (pg_name (i := 1) nd rfl (.inr rfl))
        -- pivot
        (pss_cons (ps_set (i := 3) nd rfl (.inl rfl) (pe_ix ix_list (pe_lc (own := [("at", 2)]) (g := gName 2) (tt := tTest (tOp (rNeD K) (tOp (rIxL K) (tOp (rIxL K) (tVar 0) (tVar 2)) (tVar 1)) (tC (.ref tN)))) (te := tVar 2) rfl nd
            (pi_range2 rfl B.range (pa_cons (pv 1) (pa_cons (pe_callB call_len_seq (by rfl) B.len PySem.boot_len (pa_cons (pv 0) pa_nil)) pa_nil))) (blkOk_by (N := nSolved) (sc := defScope sSolved) (by decide +kernel)) (fun _ _ _ _ _ => pg_name (i := 2) nd rfl (.inl rfl))
            (fun _ _ _ _ _ => pts_one (pt_cmpR (neD K hr) (pe_ix (ixL K) (pe_ix (ixL K) (pv 0) (pv 2) (fun _ _ => rfl)) (pv 1) (fun _ _ => rfl)) (pe_glob (v := .ref tN) (by rfl) T.zN rfl) (nomark _))) (fun _ _ _ _ _ => pv 2)) pe_int (fun _ _ => rfl)))
        -- the rows change places
        (pss_cons (ps_asg (pe_tup (pa_cons (pe_ix ix_list (pv 0) (pv 3) (fun _ _ => rfl)) (pa_cons (pe_ix ix_list (pv 0) (pv 1) (fun _ _ => rfl)) pa_nil))) (pg_tup rfl (pgs_cons (pg_sub (pv 0) (pv 1) set_list) (pgs_cons (pg_sub (pv 0) (pv 3) set_list) pgs_nil))))
        -- by
        (pss_cons (ps_set (i := 4) nd rfl (.inr rfl) (pe_call CD.ok hr2 (by rfl) CD.g CD.kp CD.b .nil pass0 (pa_cons (pe_glob (v := .ref tO) (by rfl) T.zO rfl) (pa_cons (pe_ix ix_list (pe_ix ix_list (pv 0) (pv 1) (fun _ _ => rfl)) (pv 1) (fun _ _ => rfl)) pa_nil))))
        -- the row times by
        (pss_cons (ps_asg (pe_lc (own := [("one", 5)]) (g := gName 5) (tt := tYes) (te := tCall (spBin K (· * ·) Z4) [] E0 (tCons (tVar 4) (tCons (tVar 5) tNil))) rfl nd (pi_list (pe_ix ix_list (pv 0) (pv 1) (fun _ _ => rfl))) (blkOk_by (N := nSolved) (sc := defScope sSolved) (by decide +kernel))
            (fun _ _ _ _ _ => pg_name (i := 5) nd rfl (.inl rfl)) (fun _ _ _ _ _ => pts_nil) (fun _ _ _ _ _ => pe_call CT.ok hr2 (by rfl) CT.g CT.kp CT.b .nil pass0 (pa_cons (pv 4) (pa_cons (pv 5) pa_nil)))) (pg_sub (pv 0) (pv 1) set_list))
        -- the other rows
        (pss_one (ps_for PassesOwn.never rfl (pi_range1 rfl B.range (pa_cons (pe_callB call_len_seq (by rfl) B.len PySem.boot_len (pa_cons (pv 0) pa_nil)) pa_nil)) (pg_name (i := 2) nd rfl (.inl rfl))
          (pss_one (ps_if (PW.pt (pw_and (pt_cmpR op_ne (pv 2) (pv 1) (nomark _)) (pw_and1 (pt_cmpR (neD K hr) (pe_ix ix_list (pe_ix ix_list (pv 0) (pv 2) (fun _ _ => rfl)) (pv 1) (fun _ _ => rfl)) (pe_glob (v := .ref tN) (by rfl) T.zN rfl) (nomark _)))))
            (pss_one (ps_asg (pe_call CL.ok hr (by rfl) CL.g CL.kp CL.b .nil pass0 (pa_cons (pe_ix ix_list (pv 0) (pv 2) (fun _ _ => rfl)) (pa_cons (pv 1) (pa_cons (pe_ix ix_list (pv 0) (pv 1) (fun _ _ => rfl)) pa_nil)))) (pg_sub (pv 0) (pv 2) set_list))) pss_nil)))))))))
      (pss_one (ps_ret (pe_lc (own := [("row", 6)]) (g := gName 6) (tt := tYes) (te := tOp (rIxL K) (tVar 6) (tUn (rU fun i => .int (-i)) (tC (.int 1)))) rfl nd (pi_list (pv 0)) (blkOk_by (N := nSolved) (sc := defScope sSolved) (by decide +kernel))
        (fun _ _ _ _ _ => pg_name (i := 6) nd rfl (.inl rfl)) (fun _ _ _ _ _ => pts_nil) (fun _ _ _ _ _ => pe_ix (ixL K) (pv 6) (pe_un un_neg pe_int) (fun _ _ => rfl)))))), ?_⟩
    have hu5 : ∀ j, j ≤ n → 0 < u j ∧ u j ≤ 2 ^ 1500 := fun j hj => by
      by_cases e : j = n
      · rw [e]; exact ⟨hE, hE2⟩
      · have h1 := hu j (by omega)
        have h2 : (2 : Nat) ^ 5 ≤ 2 ^ 1500 := Nat.pow_le_pow_right (by decide) (by decide)
        exact ⟨h1.1, Nat.le_trans h1.2 h2⟩
    -- rows = list(rows)
    refine ⟨_, rfl, a, _, rfl, .inl (.of hM.li), fun o ho => ?_⟩
    have sO := same_upd (o := .lst (ps.map V.ref)) ho
    have M1 : MatAt K (upd H o (.lst (ps.map V.ref))) o ps n M := ⟨upd_same, hM.le, fun i p e => by
      obtain ⟨_, z⟩ := hM.ro i p e
      obtain ⟨vs, e1, _⟩ := id z
      exact ⟨ne_of_none e1 ho, z.same sO⟩⟩
    have el : ∀ qs : List Addr, qs.length = n → ((qs.map V.ref).length : Int).toNat = n := fun qs h => by rw [List.length_map, h]; rfl
    have eb : ∀ qs : List Addr, qs.length = n → -(2 ^ 62) ≤ ((qs.map V.ref).length : Int) ∧ ((qs.map V.ref).length : Int) < 2 ^ 62 := fun qs h => by rw [List.length_map, h]; omega
    refine ⟨_, rfl, o, _, rfl, .inl (.of M1.li), _, rfl, (eb ps hM.le).1, (eb ps hM.le).2, ?_⟩
    rw [el ps hM.le]
    refine for_range (lo := 0) (n := n) (fun c σ H2 => ∃ (ps' : List Addr) (M' : Nat → Nat → Rat) (y1 y2 y3 y4 y5 y6 : Option V), σ = [some (.ref o), y1, y2, y3, y4, y5, y6] ∧ Same H H2 ∧ MatAt K H2 o ps' n M' ∧ Mh.Ela u y n c M' ∧ ∀ x, Mh.Sat 1 M' n x → Mh.Sat 1 M n x)
      ⟨ps, M, none, none, none, none, none, none, rfl, sO, M1, hEla, fun _ z => z⟩ ?_ ?_
    · rintro c σ H2 hc ⟨ps', M', y1, y2, y3, y4, y5, y6, rfl, s2, A2, L2, back⟩
      rw [show (0 : Int) + (c : Int) = (c : Int) from Int.zero_add _]
      -- the pivot's place
      refine ⟨_, rfl, _, rfl, o, _, rfl, .inl (.of A2.li), _, _, rfl, ⟨by omega, by omega, (eb ps' A2.le).1, (eb ps' A2.le).2⟩, fun D hD => ?_⟩
      have en : (((ps'.map V.ref).length : Int) - (c : Int)).toNat = n - c := by rw [List.length_map, A2.le]; omega
      rw [en]
      have sD := same_upd (o := .lst ([] : List V)) hD
      refine lc_range (lo := (c : Int)) (n := n - c) (fun i H3 => Same H2 H3 ∧ ∃ zs : List Nat, H3 D = some (.lst (zs.map fun z : Nat => V.int (z : Int))) ∧ zs.length ≤ i ∧ (∀ z ∈ zs, c ≤ z ∧ z < n ∧ M' z c ≠ 0) ∧ ∀ z, c ≤ z → z < c + i → M' z c ≠ 0 → z ∈ zs)
        ⟨sD, [], upd_same, Nat.le_refl _, fun z hz => (by cases hz), fun z h1 h2 _ => by omega⟩ ?_ ?_
      · rintro i H3 hi ⟨s3, zs, eD, hz, hz1, hz2⟩
        obtain ⟨p, vs, _, gp, _, ep, pr⟩ := A2.at (i := c + i) (by omega)
        obtain ⟨v, hv, nv⟩ := pgetr pr (tab_get (f := M' (c + i)) (show c < n + 1 by omega))
        refine ⟨rfl, _, rfl, _, rfl, o, _, _, _, rfl, rfl, .of (s3 _ _ A2.li), at_of (j := c + i) (by omega) gp, _, rfl, p, _, _, _, rfl, rfl, .of (s3 _ _ ep), atI_nat hv, neN T (nv.same s3) ⟨_, rfl, ?_⟩⟩
        by_cases e0 : M' (c + i) c = 0
        · rw [decide_eq_true e0]
          refine iteF ⟨s3, zs, eD, by omega, hz1, fun z h1 h2 h3 => ?_⟩
          by_cases ez : z = c + i
          · exact absurd (ez ▸ e0) h3
          · exact hz2 z h1 (by omega) h3
        · rw [decide_eq_false e0]
          refine ⟨_, rfl, _, eD, ?_, Ex.same ex_upd s3 hD, zs ++ [c + i], ?_, ?_, ?_, ?_⟩
          · rw [List.length_map]; exact small1000 (by omega)
          · rw [upd_same, List.map_append]; rfl
          · rw [List.length_append]; exact Nat.succ_le_succ hz
          · intro z hm
            rcases List.mem_append.mp hm with hm | hm
            · exact hz1 z hm
            · rw [List.mem_singleton.mp hm]; exact ⟨by omega, by omega, e0⟩
          · intro z h1 h2 h3
            by_cases ez : z = c + i
            · exact List.mem_append.mpr (.inr (List.mem_singleton.mpr ez))
            · exact List.mem_append.mpr (.inl (hz2 z h1 (by omega) h3))
      · rintro H3 ⟨s3, zs, eD, hz, hz1, hz2⟩
        obtain ⟨p0, q1, q2, q3⟩ := Mh.pivot hc L2.id L2.tr
        have hm0 := hz2 p0 q1 (by omega) q3
        obtain ⟨p, zr, rfl⟩ : ∃ p zr, zs = p :: zr := by
          cases zs with
          | nil => cases hm0
          | cons p zr => exact ⟨p, zr, rfl⟩
        obtain ⟨hcp, hpn, hM0⟩ := hz1 p List.mem_cons_self
        clear q1 q2 q3 hm0 hz1 hz2
        have A3 := A2.same s3
        have L3 := L2.next hu hE hc hcp hpn hM0
        have szN : ∀ i, i < n → ∀ j, j < n + 1 → Mh.Sz 2000 (Mh.swp c p M' i j) := fun i hi j hj => by
          unfold Mh.swp
          split
          · exact L2.sz hn (by omega) hy hu5 hpn (by omega)
          · split
            · exact L2.sz hn (by omega) hy hu5 hc (by omega)
            · exact L2.sz hn (by omega) hy hu5 hi (by omega)
        have szr : ∀ j, j < n + 1 → Mh.Sz 2000 (Mh.nrm c (Mh.swp c p M') j) := fun j hj => by
          have := L3.sz hn (by omega) hy hu5 hc (show j ≤ n by omega)
          unfold Mh.stp at this
          rw [if_pos rfl] at this
          exact this
        refine ⟨D, _, 0, .int (p : Int), rfl, rfl, .of eD, atI_nat (j := 0) rfl, ?_⟩
        -- the rows change places
        obtain ⟨ap, vp, _, gp, np, ep, prp⟩ := A3.at hpn
        obtain ⟨ac, vc, _, gc, nc, ec, prc⟩ := A3.at hc
        refine ⟨_, rfl, _, rfl, o, _, _, _, rfl, rfl, .of A3.li, atI_nat gp, _, rfl, _, rfl, o, _, _, _, rfl, rfl, .of A3.li, atI_nat gc, by show 2 ≤ sizeLine; decide, fun T2 nT2 => ?_⟩
        have sT2 := same_upd (o := .tup [V.ref ap, V.ref ac]) nT2
        have A4 := A3.same sT2
        have A5 := A4.put (i := c) np (⟨vp, sT2 _ _ ep, NumV.all prp sT2⟩ : RowN K _ ap (tab (n + 1) (M' p)))
        have A6 := A5.put (i := p) nc (RowN.ex (⟨vc, sT2 _ _ ec, NumV.all prc sT2⟩ : RowN K _ ac (tab (n + 1) (M' c))) ex_upd A4.li nc)
        have lc1 : ((ps'.map V.ref).length) = n := by rw [List.length_map, A2.le]
        have lc2 : (((ps'.set c ap).map V.ref).length) = n := by rw [List.length_map, List.length_set, A2.le]
        refine ⟨T2, _, rfl, .of upd_same, rfl, _, _, rfl, _, rfl, _, rfl, o, _, _, c, rfl, rfl, A4.li, ixN_nat (by rw [lc1]; exact hc), _, _, rfl, _, rfl, _, rfl, o, _, _, p, rfl, rfl, A5.li, ixN_nat (by rw [lc2]; exact hpn), rfl, ?_⟩
        have A7 : MatAt K _ o ((ps'.set c ap).set p ac) n (Mh.swp c p M') := A6.congr fun i hi j hj => by
          show (if i = p then M' c else if i = c then M' p else M' i) j = (if i = c then M' p else if i = p then M' c else M' i) j
          by_cases e1 : i = p
          · by_cases e2 : i = c
            · rw [if_pos e1, if_pos e2, ← e1, ← e2]
            · rw [if_pos e1, if_neg e2, if_pos e1]
          · rw [if_neg e1, if_neg e1]
        have s7 : Same H (upd (upd (upd H3 T2 (.tup [V.ref ap, V.ref ac])) o (.lst ((ps'.map V.ref).set c (.ref ap)))) o (.lst (((ps'.set c ap).map V.ref).set p (.ref ac)))) := Ex.same ex_upd (Ex.same ex_upd ((s2.trans s3).trans sT2) ho) ho
        generalize upd (upd (upd H3 T2 (.tup [V.ref ap, V.ref ac])) o (.lst ((ps'.map V.ref).set c (.ref ap)))) o (.lst (((ps'.set c ap).map V.ref).set p (.ref ac))) = H7 at A7 s7 ⊢
        -- by
        have hN0 : Mh.swp c p M' c c ≠ 0 := by rw [Mh.swp_c]; exact hM0
        obtain ⟨p7, v7, _, g7, n7, e7, pr7⟩ := A7.at hc
        obtain ⟨w7, hw7, nw7⟩ := pgetr pr7 (tab_get (f := Mh.swp c p M' c) (show c < n + 1 by omega))
        have lv7 : v7.length = n + 1 := by rw [pr7.length, tab_len]
        refine ⟨_, rfl, _, rfl, o, _, _, _, rfl, rfl, .of A7.li, atI_nat g7, _, rfl, p7, _, _, _, rfl, rfl, .of e7, atI_nat hw7, ?_⟩
        refine ⟨_, _, 1, Mh.swp c p M' c c, rfl, ⟨tO, rfl, T.wO _⟩, nw7, ⟨⟨.one (by decide), (szN c hc c (by omega)).mono (by decide)⟩, hN0⟩, fun H8 vb s8 nb => ?_⟩
        have A8 := A7.same s8
        have szb : Mh.Sz 4000 (1 / Mh.swp c p M' c c) := ((szN c hc c (by omega)).inv hN0).mono (by decide)
        -- rows[column] = [times(by, one) for one in rows[column]]
        refine ⟨_, rfl, _, rfl, o, _, _, _, rfl, rfl, .of A8.li, atI_nat g7, p7, rfl, ⟨_, .of (s8 _ _ e7)⟩, fun D9 hD9 => ?_⟩
        refine lc_list (K := K) (a := p7) (xs := v7) (fun i H9 => Same H8 H9 ∧ RowN K H9 D9 (tab i (Mh.nrm c (Mh.swp c p M')))) ⟨same_upd hD9, _, upd_same, .nil⟩ (fun i H9 _ ⟨s9, _⟩ => (s8.trans s9).seq (.of e7)) ?_ ?_
        · rintro i x H9 hi ⟨s9, vs9, e9, p9⟩
          have hin : i < n + 1 := by have := (List.getElem?_eq_some_iff.mp hi).1; omega
          obtain ⟨q, hq, nq⟩ := pget pr7 hi
          rw [tab_get hin] at hq
          cases hq
          refine ⟨rfl, _, rfl, _, rfl, vb, x, _, _, rfl, nb.same s9, (nq.same s8).same s9, ⟨szb, (szN c hc i hin).mono (by decide)⟩, fun H10 z s10 nz => ?_⟩
          refine ⟨vs9, s10 _ _ e9, ?_, Ex.same ex_upd (s9.trans s10) hD9, ?_⟩
          · rw [p9.length, tab_len]; exact small1000 (by omega)
          · rw [tab_succ]
            exact RowN.snoc e9 p9 s10 nz
        · rintro H9 ⟨s9, rD⟩
          rw [lv7] at rD
          have A9 := A8.same s9
          have lp9 : ((((ps'.set c ap).set p ac).map V.ref).length) = n := by rw [List.length_map, A7.le]
          refine ⟨_, rfl, _, rfl, o, _, _, c, rfl, rfl, A9.li, ixN_nat (by rw [lp9]; exact hc), ?_⟩
          have nD9 : D9 ≠ o := fun e => by rw [e, A8.li] at hD9; cases hD9
          have A10 := A9.put (i := c) nD9 rD
          have s10 : Same H (upd H9 o (.lst ((((ps'.set c ap).set p ac).map V.ref).set c (.ref D9)))) := Ex.same ex_upd ((s7.trans s8).trans s9) ho
          have nb10 : NumV K (upd H9 o (.lst ((((ps'.set c ap).set p ac).map V.ref).set c (.ref D9)))) vb (1 / Mh.swp c p M' c c) := (nb.same s9).ex ex_upd A9.li
          have A11 : MatAt K _ o _ n (mid c (Mh.swp c p M') (Mh.nrm c (Mh.swp c p M')) 0) := A10.congr fun i hi j hj => by
            unfold mid
            by_cases e1 : i = c
            · rw [if_pos e1, if_pos e1]
            · rw [if_neg e1, if_neg e1, if_neg (Nat.not_lt_zero _)]
          generalize upd H9 o (.lst ((((ps'.set c ap).set p ac).map V.ref).set c (.ref D9))) = H11 at A11 s10 nb10 ⊢
          clear A10 A9 A8 A7 A6 A5 A4
          generalize ((ps'.set c ap).set p ac).set c D9 = qs at A11
          -- the other rows
          refine ⟨_, rfl, o, _, rfl, .inl (.of A11.li), _, rfl, (eb qs A11.le).1, (eb qs A11.le).2, ?_⟩
          rw [el qs A11.le]
          refine for_range (lo := 0) (n := n) (fun i σ H12 => ∃ (qs' : List Addr) (y2 : Option V), σ = [some (.ref o), some (.int (c : Int)), y2, some (.int (p : Int)), some vb, y5, y6] ∧ Same H H12 ∧ MatAt K H12 o qs' n (mid c (Mh.swp c p M') (Mh.nrm c (Mh.swp c p M')) i))
            ⟨qs, y2, rfl, s10, A11⟩ ?_ ?_
          · rintro i σ H12 hi ⟨qs', z2, rfl, s12, A12⟩
            rw [show (0 : Int) + (i : Int) = (i : Int) from Int.zero_add _]
            refine ⟨_, rfl, _, rfl, rfl, _, rfl, ?_⟩
            by_cases e1 : i = c
            · subst e1
              rw [decide_eq_true rfl]
              refine iteF (iteF ⟨qs', _, rfl, s12, A12.congr fun a ha j hj => ?_⟩)
              unfold mid
              by_cases e2 : a = i
              · rw [if_pos e2, if_pos e2]
              · rw [if_neg e2, if_neg e2]
                by_cases e3 : a < i
                · rw [if_pos e3, if_pos (by omega)]
                · rw [if_neg e3, if_neg (by omega)]
            · rw [decide_eq_false (fun z => e1 (by have := V.int.inj z; omega))]
              have hmi : mid c (Mh.swp c p M') (Mh.nrm c (Mh.swp c p M')) i i = Mh.swp c p M' i := by
                unfold mid; rw [if_neg e1, if_neg (Nat.lt_irrefl _)]
              have hmc : mid c (Mh.swp c p M') (Mh.nrm c (Mh.swp c p M')) i c = Mh.nrm c (Mh.swp c p M') := by
                unfold mid; rw [if_pos rfl]
              obtain ⟨pi, vi, _, gi, ni, ei, pri⟩ := A12.at hi
              rw [hmi] at pri
              obtain ⟨wi, hwi, nwi⟩ := pgetr pri (tab_get (f := Mh.swp c p M' i) (show c < n + 1 by omega))
              refine iteT ⟨_, rfl, _, rfl, o, _, _, _, rfl, rfl, .of A12.li, atI_nat gi, _, rfl, pi, _, _, _, rfl, rfl, .of ei, atI_nat hwi, neN T nwi ⟨_, rfl, ?_⟩⟩
              by_cases e0 : Mh.swp c p M' i c = 0
              · rw [decide_eq_true e0]
                refine iteF ⟨qs', _, rfl, s12, A12.congr fun a ha j hj => ?_⟩
                unfold mid
                by_cases e2 : a = c
                · rw [if_pos e2, if_pos e2]
                · rw [if_neg e2, if_neg e2]
                  by_cases e3 : a < i
                  · rw [if_pos e3, if_pos (by omega)]
                  · rw [if_neg e3]
                    by_cases e4 : a = i
                    · rw [if_pos (by omega), e4, e0]; grind
                    · rw [if_neg (by omega)]
              · rw [decide_eq_false e0]
                obtain ⟨pc, vc', _, gc', nc', ec', prc'⟩ := A12.at hc
                rw [hmc] at prc'
                refine iteT ⟨_, rfl, _, rfl, o, _, _, _, rfl, rfl, .of A12.li, atI_nat gi, _, rfl, _, rfl, _, rfl, o, _, _, _, rfl, rfl, .of A12.li, atI_nat gc', ?_⟩
                refine ⟨pi, pc, c, n + 1, Mh.swp c p M' i, Mh.nrm c (Mh.swp c p M'), rfl, ⟨vi, ei, pri⟩, ⟨vc', ec', prc'⟩, by omega, by omega, szN i hi, szr, fun H13 pn s13 hpn' rn => ?_⟩
                have A13 := A12.same s13
                have npn : pn ≠ o := fun e => by rw [e, A12.li] at hpn'; cases hpn'
                have A14 := A13.put (i := i) npn rn
                refine ⟨_, rfl, _, rfl, o, _, _, i, rfl, rfl, A13.li, ixN_nat (by rw [List.length_map, A12.le]; exact hi), _, _, rfl, Ex.same ex_upd (s12.trans s13) ho, A14.congr fun a ha j hj => ?_⟩
                unfold mid
                by_cases e2 : a = i
                · rw [if_pos e2, if_neg (by omega), if_pos (by omega), e2]
                · rw [if_neg e2]
                  by_cases e3 : a = c
                  · rw [if_pos e3, if_pos e3]
                  · rw [if_neg e3, if_neg e3]
                    by_cases e4 : a < i
                    · rw [if_pos e4, if_pos (by omega)]
                    · rw [if_neg e4, if_neg (by omega)]
          · rintro σ H12 ⟨qs', z2, rfl, s12, A12⟩
            refine ⟨qs', Mh.stp c p M', _, _, _, _, _, _, rfl, s12, A12.congr fun a ha j hj => ?_, L3, fun x hx => back x (Mh.stp_sat hc hpn hM0 hx)⟩
            unfold mid Mh.stp
            by_cases e2 : a = c
            · rw [if_pos e2, if_pos e2]
            · rw [if_neg e2, if_neg e2, if_pos ha]
    -- the last column
    · rintro σ H2 ⟨ps', M', y1, y2, y3, y4, y5, y6, rfl, s2, A2, L2, back⟩
      refine ⟨_, rfl, o, rfl, ⟨_, .of A2.li⟩, fun D hD => ?_⟩
      have lp : (ps'.map V.ref).length = n := by rw [List.length_map, A2.le]
      refine lc_list (K := K) (a := o) (xs := ps'.map V.ref) (fun i H3 => Same H2 H3 ∧ RowN K H3 D (tab i (fun j => M' j n))) ⟨same_upd hD, _, upd_same, .nil⟩ (fun i H3 _ ⟨s3, _⟩ => s3.seq (.of A2.li)) ?_ ?_
      · rintro i x H3 hi ⟨s3, vs, eD, pD⟩
        have hin : i < n := by have := (List.getElem?_eq_some_iff.mp hi).1; omega
        obtain ⟨p, v, _, gp, _, ep, pr⟩ := A2.at hin
        rw [gp] at hi
        cases hi
        obtain ⟨z, hz, nz⟩ := pgetr pr (tab_get (f := M' i) (show n < n + 1 by omega))
        have lv : v.length = n + 1 := by rw [pr.length, tab_len]
        refine ⟨rfl, _, rfl, 1, rfl, p, v, -1, z, rfl, rfl, .of (s3 _ _ ep), ?_, vs, eD, ?_, Ex.same ex_upd s3 hD, ?_⟩
        · unfold atI ixN
          rw [lv, if_neg (by decide), if_pos (by omega)]
          have : (-1 + ((n + 1 : Nat) : Int)).toNat = n := by omega
          rw [this]
          exact hz
        · rw [pD.length, tab_len]; exact small1000 (by omega)
        · rw [tab_succ]
          exact RowN.snoc eD pD (.refl _) (nz.same s3)
      · rintro H3 ⟨s3, rD⟩
        rw [lp] at rD
        have fin := L2.done hn hE
        refine k H3 D _ (s2.trans s3) (s2.free hD) rD (back _ (Mh.idc_sat L2.id)) fin
end
end Mw
set_option Elab.async false
set_option linter.all false
set_option maxRecDepth 100000
set_option autoImplicit false
namespace Mw
open PySem PySem.Spec PyProof.Rows L2
/-! ### chains, dicts of numbers, lists of places -/
abbrev ni (ns : List Nat) : List V := ns.map fun z : Nat => V.int (z : Int)
theorem ni_get {ns : List Nat} {i : Nat} (h : i < ns.length) : (ni ns)[i]? = some (.int ((Mh.at_ ns i : Nat) : Int)) := by
  unfold ni Mh.at_
  rw [List.getElem?_map, List.getD_eq_getElem?_getD, List.getElem?_eq_getElem h]
  rfl
theorem ni_flat (ns : List Nat) : (ni ns).all flatV = true := by
  rw [List.all_eq_true]
  intro v hv
  obtain ⟨z, _, rfl⟩ := List.mem_map.mp hv
  rfl
theorem ni_len (ns : List Nat) : (ni ns).length = ns.length := List.length_map _
def BrAt (K : PySem.W.Frag) (H : Hp) (u : V) (b : Rat × Nat) : Prop := ∃ t cv, u = .ref t ∧ SqT K H t [cv, .int (b.2 : Int)] ∧ NumV K H cv b.1
def PlAt (K : PySem.W.Frag) (H : Hp) (v : V) (g : Rat) (l : List (Rat × Nat)) : Prop := ∃ t gv b us, v = .ref t ∧ SqT K H t [gv, .str "draw", .ref b] ∧ NumV K H gv g ∧ H b = some (.lst us) ∧ Paired (BrAt K H) us l
def ChAt (K : PySem.W.Frag) (H : Hp) (a : Addr) (C : Mh.Ch) : Prop := ∃ vs, H a = some (.lst vs) ∧ vs.length = C.n ∧ ∀ x v, vs[x]? = some v → PlAt K H v (C.gain x) (C.brs x)
theorem BrAt.same {K : PySem.W.Frag} {H H' : Hp} {u : V} {b : Rat × Nat} (h : BrAt K H u b) (s : Same H H') : BrAt K H' u b := by
  obtain ⟨t, cv, e, h1, h2⟩ := h
  exact ⟨t, cv, e, same_tup s h1, h2.same s⟩
theorem PlAt.same {K : PySem.W.Frag} {H H' : Hp} {v : V} {g : Rat} {l : List (Rat × Nat)} (h : PlAt K H v g l) (s : Same H H') : PlAt K H' v g l := by
  obtain ⟨t, gv, b, us, e, h1, h2, h3, h4⟩ := h
  exact ⟨t, gv, b, us, e, same_tup s h1, h2.same s, s _ _ h3, Paired.mapP h4 fun _ _ z => z.same s⟩
theorem ChAt.same {K : PySem.W.Frag} {H H' : Hp} {a : Addr} {C : Mh.Ch} (h : ChAt K H a C) (s : Same H H') : ChAt K H' a C := by
  obtain ⟨vs, e, h1, h2⟩ := h
  exact ⟨vs, s _ _ e, h1, fun x v hx => (h2 x v hx).same s⟩
def DictN (K : PySem.W.Frag) (H : Hp) (d : Addr) (dom : Nat → Prop) (kn : Nat → Rat) : Prop := ∃ kvs : List (Key × V), H d = some (.dK kvs) ∧ kvs.length ≤ 500 ∧
  ∀ t : Nat, (dom t ∧ ∃ v, valV kvs (Sum.inl (t : Int)) = some v ∧ NumV K H v (kn t)) ∨ (¬ dom t ∧ valV kvs (Sum.inl (t : Int)) = none)
theorem DictN.same {K : PySem.W.Frag} {H H' : Hp} {d : Addr} {dom : Nat → Prop} {kn : Nat → Rat} (h : DictN K H d dom kn) (s : Same H H') : DictN K H' d dom kn := by
  obtain ⟨kvs, e, hl, h⟩ := h
  refine ⟨kvs, s _ _ e, hl, fun t => ?_⟩
  rcases h t with ⟨a, v, b, c⟩ | z
  · exact .inl ⟨a, v, b, c.same s⟩
  · exact .inr z
/-- rows so far, in a list -/
structure RowsAt (K : PySem.W.Frag) (H : Hp) (R : Addr) (as : List Addr) (m wd : Nat) (M : Nat → Nat → Rat) : Prop where
  li : H R = some (.lst (as.map V.ref))
  le : as.length = m
  ro : ∀ i p, as[i]? = some p → p ≠ R ∧ RowN K H p (tab wd (M i))
theorem RowsAt.same {K : PySem.W.Frag} {H H' : Hp} {R : Addr} {as : List Addr} {m wd : Nat} {M : Nat → Nat → Rat} (A : RowsAt K H R as m wd M) (s : Same H H') : RowsAt K H' R as m wd M :=
  ⟨s _ _ A.li, A.le, fun i p e => ⟨(A.ro i p e).1, (A.ro i p e).2.same s⟩⟩
theorem RowsAt.ex {K : PySem.W.Frag} {H H' : Hp} {R r : Addr} {as : List Addr} {m wd : Nat} {M : Nat → Nat → Rat} {ys : List V} (A : RowsAt K H R as m wd M) (s : Ex r H H') (hr : H r = some (.lst ys)) (n : R ≠ r) (h : ∀ (i : Nat) (p : Addr), as[i]? = some p → p ≠ r) : RowsAt K H' R as m wd M :=
  ⟨s _ _ A.li n, A.le, fun i p e => ⟨(A.ro i p e).1, (A.ro i p e).2.ex s hr (h i p e)⟩⟩
/-- one more row -/
theorem RowsAt.snoc {K : PySem.W.Frag} {H : Hp} {R r : Addr} {as : List Addr} {m wd : Nat} {M : Nat → Nat → Rat} (A : RowsAt K H R as m wd M) (n : r ≠ R) (h : RowN K H r (tab wd (M m))) : RowsAt K (upd H R (.lst (as.map V.ref ++ [.ref r]))) R (as ++ [r]) (m + 1) wd M := by
  refine ⟨?_, ?_, fun i p e => ?_⟩
  · rw [upd_same, List.map_append]; rfl
  · rw [List.length_append, A.le]; rfl
  · by_cases hi : i < as.length
    · rw [List.getElem?_append_left hi] at e
      obtain ⟨n1, r1⟩ := A.ro i p e
      exact ⟨n1, r1.ex ex_upd A.li n1⟩
    · have : i = m := by have := (List.getElem?_eq_some_iff.mp e).1; rw [List.length_append, A.le] at this; have := A.le; simp only [List.length_singleton] at *; omega
      subst this
      rw [List.getElem?_append_right (by omega), A.le, Nat.sub_self] at e
      cases e
      exact ⟨n, h.ex ex_upd A.li n⟩
theorem RowsAt.mat {K : PySem.W.Frag} {H : Hp} {R : Addr} {as : List Addr} {n : Nat} {M : Nat → Nat → Rat} (A : RowsAt K H R as n (n + 1) M) : MatAt K H R as n M := ⟨A.li, A.le, A.ro⟩
/-- a number of a row is stored anew -/
theorem RowN.put {K : PySem.W.Frag} {H : Hp} {r : Addr} {vs : List V} {n j : Nat} {f : Nat → Rat} {v : V} {q : Rat} (e : H r = some (.lst vs)) (p : Paired (NumV K H) vs (tab n f)) (h : NumV K H v q) : RowN K (upd H r (.lst (vs.set j v))) r (tab n (fun x => if x = j then q else f x)) :=
  ⟨_, upd_same, by rw [← tab_set]; exact pset (h.ex ex_upd e) j (NumV.allx p ex_upd e)⟩
theorem atI_end {vs : List V} {n : Nat} {v : V} (hl : vs.length = n + 1) (h : vs[n]? = some v) : atI vs (-1) = some v := by
  unfold atI ixN
  rw [hl, if_neg (by decide), if_pos (by omega)]
  have : (-1 + ((n + 1 : Nat) : Int)).toNat = n := by omega
  rw [this]
  exact h
theorem ixN_end {n : Nat} : ixN (n + 1) (-1) = some n := by
  unfold ixN
  rw [if_neg (by decide), if_pos (by omega)]
  congr 1
  omega
section
variable {P : Program} {w : World} {K : PySem.W.Frag} {mg : Str → Option Value} {base : Heap}
/-! ### met -/
abbrev sMet : Stmt := topS 14
abbrev nMet : List Str := ["chain", "places", "known", "extras", "rows", "place", "row", "chance", "target", "at", "other"]
theorem scMet : FnScope nMet ["chain", "places", "known", "extras"] (defScope sMet) := ⟨rfl, rfl, rfl, by decide +kernel, rfl, by decide +kernel, by decide +kernel⟩
structure MetOk (C : Mh.Ch) (wt : Nat → Nat) (ps : List Nat) (dom : Nat → Prop) (kn ext : Nat → Rat) (B y : Nat) : Prop where
  ok : C.Ok
  sz : C.Sized wt
  nd : ps.Nodup
  lt : ∀ x ∈ ps, x < C.n
  tg : ∀ x ∈ ps, ∀ b ∈ C.brs x, dom b.2 ∨ b.2 ∈ ps
  nk : ∀ x ∈ ps, ¬ dom x
  kz : ∀ t, ¬ dom t → kn t = 0
  tr : Mh.Triv (Mh.met C ps.length (Mh.at_ ps) kn ext) ps.length
  b0 : 0 < B
  bB : B ≤ 2 ^ 1500
  yB : y + 6 ≤ 1500
  ex : ∀ x ∈ ps, Mh.Bd B (2 ^ y) (ext x)
  kb : ∀ t, t < C.n → Mh.Bd B (2 ^ y) (kn t)
theorem at_inj {l : List Nat} (h : l.Nodup) : ∀ i j, i < l.length → j < l.length → Mh.at_ l i = Mh.at_ l j → i = j := fun i j hi hj e => by
  unfold Mh.at_ at e
  rw [List.getD_eq_getElem?_getD, List.getD_eq_getElem?_getD, List.getElem?_eq_getElem hi, List.getElem?_eq_getElem hj] at e
  exact (List.getElem_inj h).mp e
theorem nd_len {l : List Nat} {n : Nat} (h : l.Nodup) (hl : ∀ x ∈ l, x < n) : l.length ≤ n := by
  induction n generalizing l with
  | zero =>
    cases l with
    | nil => exact Nat.le_refl _
    | cons a r => exact absurd (hl a List.mem_cons_self) (by omega)
  | succ n ih =>
    by_cases hn : n ∈ l
    · have h1 := ih (l := l.erase n) (h.erase n) fun x hx => by
        have := (List.Nodup.mem_erase_iff h).mp hx
        have := hl x this.2
        omega
      rw [List.length_erase_of_mem hn] at h1
      omega
    · have := ih h fun x hx => by
        have := hl x hx
        have : x ≠ n := fun e => hn (e ▸ hx)
        omega
      omega
def spMet (K : PySem.W.Frag) : Sp := fun vs H Q _ => ∃ (a pl kd ex : Addr) (C : Mh.Ch) (wt : Nat → Nat) (ps : List Nat) (dom : Nat → Prop) (kn ext : Nat → Rat) (B y : Nat), vs = [.ref a, .ref pl, .ref kd, .ref ex] ∧ ChAt K H a C ∧ H pl = some (.lst (ni ps)) ∧ DictN K H kd dom kn ∧ RowN K H ex (tab C.n ext) ∧ MetOk C wt ps dom kn ext B y ∧
  ∀ H' p x, Same H H' → H p = none → RowN K H' p (tab ps.length x) → (∀ i, i < ps.length → Mh.ful ps.length (Mh.at_ ps) kn x (Mh.at_ ps i) = ext (Mh.at_ ps i) + Mh.bm (C.brs (Mh.at_ ps i)) (Mh.ful ps.length (Mh.at_ ps) kn x)) →
    (∃ D : Nat, 0 < D ∧ D ≤ 2 ^ (63 * ps.length) ∧ ∀ i, i < ps.length → Mh.Bd (D * B) (2 ^ (y + 6 + 63 * ps.length)) (x i)) → Q (.ref p) H'
theorem cal_met {f fM fT fS tN tO : Addr} {fd fdM fdT fdS : FuncData} (F : Fun K "met" "met" sMet f fd) (g : mg "met" = some (.ref f)) (T : Con0 K mg tN tO)
    (CM : Cal P w K mg base "minus" ["a", "b"] 2 fM fdM (spBin K (· - ·) Z4)) (CT : Cal P w K mg base "times" ["a", "b"] 2 fT fdT (spBin K (· * ·) Z4)) (CS : Cal P w K mg base "solved" ["rows"] 4 fS fdS (spSolved K)) :
    Cal P w K mg base "met" ["chain", "places", "known", "extras"] 5 f fd (spMet K) := by
  refine ⟨g, F.kp, F.binds fun _ _ _ _ _ _ us hl => match us, hl with | [_, _, _, _], _ => rfl, ?_⟩
  refine F.ok scMet (fun vs H Q E h => ?_) (fun cdv A outer s H vs Q E hr h => ?_)
  · obtain ⟨a, pl, kd, ex, C, wt, ps, dom, kn, ext, B, y, rfl, _⟩ := h
    rfl
  · obtain ⟨a, pl, kd, ex, C, wt, ps, dom, kn, ext, B, y, rfl, hC, hpl, hkd, hex, m, k⟩ := h
    have hr2 : Room 2 _ := hr.mono (by decide)
    have hu := hu_of hr
    have nd := scMet.nd
    refine ⟨_, pss_cons (ps_set (i := 4) nd rfl (.inl rfl) (pe_lst pa_nil))
      (pss_cons (ps_for PassesOwn.never rfl (pi_list (pv 1)) (pg_name (i := 5) nd rfl (.inr rfl))
        -- row
        (pss_cons (ps_set (i := 6) nd rfl (.inl rfl) (pe_op op_cat (pe_lc (own := [("other", 10)]) (g := gName 10) (tt := tYes) (te := tIf (tTest (tOp rEq (tVar 10) (tVar 5))) (tC (.ref tO)) (tC (.ref tN))) rfl nd (pi_list (pv 1)) (blkOk_by (N := nMet) (sc := defScope sMet) (by decide +kernel))
            (fun _ _ _ _ _ => pg_name (i := 10) nd rfl (.inl rfl)) (fun _ _ _ _ _ => pts_nil) (fun _ _ _ _ _ => pe_ifExp (pt_cmpR op_eq (pv 10) (pv 5) (nomark _)) (pe_glob (v := .ref tO) (by rfl) T.zO rfl) (pe_glob (v := .ref tN) (by rfl) T.zN rfl)))
          (pe_lst (pa_cons (pe_ix ix_list (pv 3) (pv 5) (fun _ _ => rfl)) pa_nil))))
        -- the branches
        (pss_cons (ps_for PassesOwn.never rfl (pi_list (pe_ix ix_tup (pe_ix ix_list (pv 0) (pv 5) (fun _ _ => rfl)) pe_int (fun _ _ => rfl))) (pg_tup rfl (pgs_cons (pg_name (i := 7) nd rfl (.inl rfl)) (pgs_cons (pg_name (i := 8) nd rfl (.inl rfl)) pgs_nil)))
          (pss_one (ps_if (pt_cmp (pc_din hu (pv 8) (pv 2)))
            (pss_one (ps_asg (pe_call CM.ok hr2 (by rfl) CM.g CM.kp CM.b .nil pass0 (pa_cons (pe_ix ix_list (pv 6) (pe_un un_neg pe_int) (fun _ _ => rfl)) (pa_cons (pe_call CT.ok hr2 (by rfl) CT.g CT.kp CT.b .nil pass0 (pa_cons (pv 7) (pa_cons
                (pe_call CM.ok hr2 (by rfl) CM.g CM.kp CM.b .nil pass0 (pa_cons (pe_glob (v := .ref tN) (by rfl) T.zN rfl) (pa_cons (pe_dget hu (pv 2) (pv 8) (fun _ _ => rfl)) pa_nil))) pa_nil))) pa_nil))) (pg_sub (pv 6) (pe_un un_neg pe_int) set_list)))
            (pss_cons (ps_set (i := 9) nd rfl (.inl rfl) (pe_bm PySem.F.plainAttrs_list PySem.F.slot_list_index PySem.F.type_list_index mt_index (pv 1) (pa_cons (pv 8) pa_nil)))
            (pss_one (ps_asg (pe_call CM.ok hr2 (by rfl) CM.g CM.kp CM.b .nil pass0 (pa_cons (pe_ix ix_list (pv 6) (pv 9) (fun _ _ => rfl)) (pa_cons (pv 7) pa_nil))) (pg_sub (pv 6) (pv 9) set_list)))))))
        (pss_one (ps_expr (pe_bm PySem.F.plainAttrs_list PySem.F.slot_list_append PySem.F.type_list_append mt_append (pv 4) (pa_cons (pv 6) pa_nil)))))))
      (pss_one (ps_ret (pe_call CS.ok hr (by rfl) CS.g CS.kp CS.b .nil pass0 (pa_cons (pv 4) pa_nil))))), ?_⟩
    have inj := at_inj m.nd
    have hps6 : ps.length ≤ 6 := Nat.le_trans (nd_len m.nd m.lt) m.sz.n6
    have hpm : ∀ i, i < ps.length → Mh.at_ ps i ∈ ps := fun i hi => Mh.at_mem hi
    have hplt : ∀ i, i < ps.length → Mh.at_ ps i < C.n := fun i hi => m.lt _ (hpm i hi)
    obtain ⟨cvs, hcv, hcl, hcp⟩ := id hC
    obtain ⟨evs, hev, hep⟩ := id hex
    obtain ⟨kvs, hkv, hkl, hkt⟩ := id hkd
    have ll : ([] : List V).length ≤ sizeLine := Nat.zero_le _
    -- rows = []
    refine ⟨ll, fun R hR => ?_⟩
    have sR := same_upd (o := .lst ([] : List V)) hR
    refine ⟨_, rfl, pl, rfl, ⟨_, .of (sR _ _ hpl)⟩, ?_⟩
    refine for_list (K := K) (a := pl) (xs := ni ps) (fun i σ H2 => ∃ (as : List Addr) (y5 y6 y7 y8 y9 y10 : Option V), σ = [some (.ref a), some (.ref pl), some (.ref kd), some (.ref ex), some (.ref R), y5, y6, y7, y8, y9, y10] ∧ Same H H2 ∧ RowsAt K H2 R as i (ps.length + 1) (Mh.met C ps.length (Mh.at_ ps) kn ext))
      ⟨[], none, none, none, none, none, none, rfl, sR, ⟨upd_same, rfl, fun i p e => by simp at e⟩⟩ (fun i σ H2 _ ⟨_, _, _, _, _, _, _, _, s2, _⟩ => s2.seq (.of hpl)) ?_ ?_
    · rintro i x σ H2 hi ⟨as, y5, y6, y7, y8, y9, y10, rfl, s2, A2⟩
      have hin : i < ps.length := by have := (List.getElem?_eq_some_iff.mp hi).1; rw [ni_len] at this; exact this
      rw [ni_get hin] at hi
      cases hi
      -- row
      refine ⟨_, rfl, pl, rfl, ⟨_, .of (s2 _ _ hpl)⟩, fun D hD => ?_⟩
      refine lc_list (K := K) (a := pl) (xs := ni ps) (fun j H3 => Same H2 H3 ∧ RowN K H3 D (tab j (fun j => if Mh.at_ ps j = Mh.at_ ps i then 1 else 0))) ⟨same_upd hD, _, upd_same, .nil⟩ (fun j H3 _ ⟨s3, _⟩ => (s2.trans s3).seq (.of hpl)) ?_ ?_
      · rintro j x H3 hj ⟨s3, vs, eD, pD⟩
        have hjn : j < ps.length := by have := (List.getElem?_eq_some_iff.mp hj).1; rw [ni_len] at this; exact this
        rw [ni_get hjn] at hj
        cases hj
        have hsz : vs.length < sizeLine := by rw [pD.length, tab_len]; exact small1000 (by omega)
        refine ⟨rfl, _, rfl, _, rfl, rfl, _, rfl, ?_⟩
        by_cases e : Mh.at_ ps j = Mh.at_ ps i
        · rw [decide_eq_true (congrArg (fun z : Nat => V.int (z : Int)) e)]
          refine iteT ⟨vs, eD, hsz, Ex.same ex_upd s3 hD, ?_⟩
          rw [tab_succ, if_pos e]
          exact RowN.snoc eD pD (.refl _) ⟨tO, rfl, T.wO _⟩
        · rw [decide_eq_false (fun z => e (by have := V.int.inj z; omega))]
          refine iteF ⟨vs, eD, hsz, Ex.same ex_upd s3 hD, ?_⟩
          rw [tab_succ, if_neg e]
          exact RowN.snoc eD pD (.refl _) ⟨tN, rfl, T.wN _⟩
      · rintro H3 ⟨s3, vs, eD, pD⟩
        rw [ni_len] at pD
        obtain ⟨ev, hev1, hev2⟩ := pgetr hep (tab_get (f := ext) (hplt i hin))
        have s23 := s2.trans s3
        refine ⟨_, rfl, _, rfl, ex, _, _, ev, rfl, rfl, .of (s23 _ _ hev), atI_nat hev1, by show 1 ≤ sizeLine; decide, fun L hL => ?_⟩
        have sL := same_upd (o := .lst [ev]) hL
        have lv : vs.length = ps.length := by rw [pD.length, tab_len]
        refine ⟨D, L, vs, [ev], rfl, rfl, sL _ _ eD, upd_same, by rw [lv]; exact Nat.le_of_lt (small1000 (by show ps.length + 1 ≤ 1000; omega)), fun r hrn => ?_⟩
        have sr := same_upd (o := .lst (vs ++ [ev])) hrn
        have s4 := (s3.trans sL).trans sr
        have s24 := s2.trans s4
        have rr : RowN K (upd (upd H3 L (.lst [ev])) r (.lst (vs ++ [ev]))) r (tab (ps.length + 1) (Mh.mrow ps.length (Mh.at_ ps) kn ext ((C.brs (Mh.at_ ps i)).take 0) i)) := by
          refine ⟨_, upd_same, ?_⟩
          have e1 : tab (ps.length + 1) (Mh.mrow ps.length (Mh.at_ ps) kn ext ((C.brs (Mh.at_ ps i)).take 0) i) = tab ps.length (fun j => if Mh.at_ ps j = Mh.at_ ps i then 1 else 0) ++ [ext (Mh.at_ ps i)] := by
            rw [tab_succ, List.take_zero, Mh.mrow_nil, if_neg (Nat.lt_irrefl _)]
            congr 1
            exact tab_congr fun j hj => by rw [Mh.mrow_nil, if_pos hj]
          rw [e1]
          exact Paired.snoc (NumV.all pD (sL.trans sr)) (hev2.same s24)
        have A4 := A2.same s4
        have hrH : H r = none := (s2.trans (s3.trans sL)).free hrn
        have hrR : r ≠ R := fun e => by
          have := (s3.trans sL) _ _ A2.li
          rw [← e, hrn] at this
          cases this
        have har : ∀ (q : Nat) (p : Addr), as[q]? = some p → p ≠ r := fun q p e => by
          obtain ⟨_, vs, e1, _⟩ := A2.ro q p e
          exact ne_of_none ((s3.trans sL) _ _ e1) hrn
        generalize upd (upd H3 L (.lst [ev])) r (.lst (vs ++ [ev])) = H4 at s4 s24 rr A4 ⊢
        -- the branches
        obtain ⟨cv, hcvi⟩ : ∃ cv, cvs[Mh.at_ ps i]? = some cv := ⟨_, List.getElem?_eq_getElem (by rw [hcl]; exact hplt i hin)⟩
        obtain ⟨t, gv, b, us, rfl, ht, _, hb, hbp⟩ := hcp _ _ hcvi
        refine ⟨_, rfl, _, rfl, a, _, _, _, rfl, rfl, .of (s24 _ _ hcv), atI_nat hcvi, t, _, 2, .ref b, rfl, rfl, same_tup s24 ht, rfl, b, rfl, ⟨_, .of (s24 _ _ hb)⟩, ?_⟩
        refine for_list (K := K) (a := b) (xs := us) (fun j σ H5 => ∃ (z7 z8 z9 z10 : Option V), σ = [some (.ref a), some (.ref pl), some (.ref kd), some (.ref ex), some (.ref R), some (.int ((Mh.at_ ps i : Nat) : Int)), some (.ref r), z7, z8, z9, z10] ∧ Same H H5 ∧ RowsAt K H5 R as i (ps.length + 1) (Mh.met C ps.length (Mh.at_ ps) kn ext) ∧
            RowN K H5 r (tab (ps.length + 1) (Mh.mrow ps.length (Mh.at_ ps) kn ext ((C.brs (Mh.at_ ps i)).take j) i)))
          ⟨y7, y8, y9, y10, rfl, s24, A4, rr⟩ (fun j σ H5 _ ⟨_, _, _, _, _, s5, _⟩ => s5.seq (.of hb)) ?_ ?_
        · rintro j x σ H5 hj ⟨z7, z8, z9, z10, rfl, s5, A5, rv, er, pr⟩
          obtain ⟨⟨ch, tt⟩, hbj, t2, cv, rfl, ht2, hch⟩ := pget hbp hj
          have hmem : (ch, tt) ∈ C.brs (Mh.at_ ps i) := List.mem_of_getElem? hbj
          have htt := m.ok.tg _ (hplt i hin) _ hmem
          have etk : (C.brs (Mh.at_ ps i)).take (j + 1) = (C.brs (Mh.at_ ps i)).take j ++ [(ch, tt)] := take_snoc hbj
          have lrv : rv.length = ps.length + 1 := by rw [pr.length, tab_len]
          have szm : ∀ x, Mh.Sz 4000 (Mh.mrow ps.length (Mh.at_ ps) kn ext ((C.brs (Mh.at_ ps i)).take j) i x) := fun x =>
            (Mh.mrow_sz m.sz m.ok (hplt i hin) (m.ex _ (hpm i hin)) m.kb m.b0 m.bB (by have := m.yB; omega) (List.take_append_drop j _) x).mono (by decide)
          have szc : Mh.Sz 2000 ch := by
            have hw := m.sz.w0 _ (hplt i hin)
            have h24 : wt (Mh.at_ ps i) < 2 ^ 2000 := Nat.lt_of_le_of_lt (Mh.le_pow5 hw.2) (Nat.pow_lt_pow_right (by decide) (by decide))
            exact (m.sz.ch m.ok (hplt i hin) hmem).sz hw.1 h24 h24
          have szk : Mh.Sz 2000 (kn tt) := (m.kb tt htt).sz m.b0 (Nat.pow_lt_pow_right (by decide) (by have := m.yB; omega)) (Nat.lt_of_le_of_lt m.bB (Nat.pow_lt_pow_right (by decide) (by decide)))
          have dge : DGet H5 kd (kV (Sum.inl (tt : Int))) (valV kvs (Sum.inl (tt : Int))) := DGet.k (s5 _ _ hkv)
          refine ⟨t2, [cv, .int (tt : Int)], rfl, same_tup s5 ht2, rfl, cv, [.int (tt : Int)], rfl, .int (tt : Int), [], rfl, rfl, ?_⟩
          refine ⟨_, rfl, _, rfl, kd, _, rfl, dge, _, rfl, ?_⟩
          rcases hkt tt with ⟨hd, v, hv, nv⟩ | ⟨hd, hv⟩
          · rw [hv]
            rw [hv] at dge
            obtain ⟨rz, hrz, nrz⟩ := pgetr pr (tab_get (show ps.length < ps.length + 1 by omega))
            refine iteT ⟨_, rfl, 1, rfl, r, rv, -1, rz, rfl, rfl, .of er, atI_end lrv hrz, _, rfl, _, rfl, _, rfl, kd, v, rfl, dge, ?_⟩
            refine ⟨.ref tN, v, 0, kn tt, rfl, ⟨tN, rfl, T.wN _⟩, nv.same s5, ⟨.zero (by decide), szk.mono (by decide)⟩, fun H6 v6 s6 n6 => ?_⟩
            have e0 : (0 : Rat) - kn tt = -kn tt := by grind
            have sz0 : Mh.Sz 2000 (0 - kn tt) := by rw [e0]; exact szk.neg
            refine ⟨cv, v6, ch, 0 - kn tt, rfl, (hch.same s5).same s6, n6, ⟨szc.mono (by decide), sz0.mono (by decide)⟩, fun H7 v7 s7 n7 => ?_⟩
            have s67 := s6.trans s7
            refine ⟨rz, v7, _, _, rfl, nrz.same s67, n7, ⟨szm ps.length, (szc.mul sz0).mono (by decide)⟩, fun H8 v8 s8 n8 => ?_⟩
            have s68 := s67.trans s8
            refine ⟨_, rfl, 1, rfl, r, rv, -1, ps.length, rfl, rfl, s68 _ _ er, by rw [lrv]; exact ixN_end, ?_⟩
            refine ⟨_, _, _, _, rfl, Ex.same ex_upd (s5.trans s68) hrH, (A5.same s68).ex ex_upd (s68 _ _ er) hrR.symm har, ?_⟩
            have := RowN.put (j := ps.length) (s68 _ _ er) (NumV.all pr s68) n8
            have hne : ∀ q, q < ps.length → (ch, tt).2 ≠ Mh.at_ ps q := fun q hq e => m.nk _ (hpm q hq) ((show tt = Mh.at_ ps q from e) ▸ hd)
            rw [etk, tab_congr fun x hx => Mh.mrow_known (p := Mh.at_ ps) (kn := kn) (ext := ext) (l := (C.brs (Mh.at_ ps i)).take j) hne i x hx]
            exact this
          · rw [hv]
            have hin2 : tt ∈ ps := (m.tg _ (hpm i hin) _ hmem).resolve_left hd
            obtain ⟨a0, ha0, ea0⟩ := Mh.mem_at hin2
            obtain ⟨rz, hrz, nrz⟩ := pgetr pr (tab_get (show a0 < ps.length + 1 by omega))
            refine iteF ⟨_, rfl, .inl ⟨rfl, _, .of (s5 _ _ hpl)⟩, _, rfl, pl, ni ps, .int (tt : Int), a0, .int (tt : Int), rfl, rfl, .of (s5 _ _ hpl), rfl, ni_flat ps, by rw [ni_get ha0, ea0], by simp [eqV], fun q z' hq hz' => ?_, ?_⟩
            · rw [ni_get (by omega)] at hz'
              cases hz'
              have : Mh.at_ ps q ≠ tt := fun e => by have := inj q a0 (by omega) ha0 (e.trans ea0.symm); omega
              simp only [eqV, beq_eq_false_iff_ne]
              omega
            refine ⟨_, rfl, _, rfl, r, rv, _, rz, rfl, rfl, .of er, atI_nat hrz, _, rfl, rz, cv, _, ch, rfl, nrz, hch.same s5, ⟨szm a0, szc.mono (by decide)⟩, fun H6 v6 s6 n6 => ?_⟩
            refine ⟨_, rfl, _, rfl, r, rv, _, a0, rfl, rfl, s6 _ _ er, ixN_nat (by omega), ?_⟩
            refine ⟨_, _, _, _, rfl, Ex.same ex_upd (s5.trans s6) hrH, (A5.same s6).ex ex_upd (s6 _ _ er) hrR.symm har, ?_⟩
            have := RowN.put (j := a0) (s6 _ _ er) (NumV.all pr s6) n6
            rw [etk, tab_congr fun x hx => Mh.mrow_unk (l := (C.brs (Mh.at_ ps i)).take j) (b := (ch, tt)) inj ha0 ea0.symm (m.kz _ hd) i x]
            exact this
        · rintro σ H5 ⟨z7, z8, z9, z10, rfl, s5, A5, rr5⟩
          have lus : us.length = (C.brs (Mh.at_ ps i)).length := hbp.length
          rw [lus, List.take_length] at rr5
          obtain ⟨rv, er, pr⟩ := id rr5
          refine ⟨_, rfl, .inl ⟨rfl, _, .of A5.li⟩, _, rfl, R, _, _, rfl, rfl, A5.li, by rw [List.length_map, A5.le]; exact small1000 (by omega), ?_⟩
          exact ⟨as ++ [r], _, _, _, _, _, _, rfl, Ex.same ex_upd s5 hR, A5.snoc hrR rr5⟩
    · rintro σ H2 ⟨as, y5, y6, y7, y8, y9, y10, rfl, s2, A2⟩
      rw [ni_len] at A2
      have hela := Mh.met_ela m.sz m.ok hplt m.tr (fun i hi => m.ex _ (hpm i hi)) m.kb
      refine ⟨_, rfl, R, as, ps.length, _, _, y + 6, rfl, A2.mat, hps6, fun j hj => ?_, ?_, ?_, m.yB, hela, fun H3 p x s3 hp hx hsat hbd => k H3 p x (s2.trans s3) (s2.free hp) hx (Mh.met_sat inj (fun i hi => m.kz _ (m.nk _ (hpm i hi))) hsat) ?_⟩
      · rw [if_pos hj]; decide
      · rw [if_neg (Nat.lt_irrefl _)]; exact m.b0
      · rw [if_neg (Nat.lt_irrefl _)]; exact m.bB
      · obtain ⟨D, d0, d1, d2⟩ := hbd
        rw [if_neg (Nat.lt_irrefl _)] at d2
        exact ⟨D, d0, d1, d2⟩
end
end Mw
set_option Elab.async false
set_option linter.all false
set_option maxRecDepth 100000
set_option autoImplicit false
namespace Mw
open PySem PySem.Spec PyProof.Rows L2
theorem inV_ni (t : Nat) (ns : List Nat) : inV (.int (t : Int)) (ni ns) = decide (t ∈ ns) := by
  unfold inV ni
  rw [Bool.eq_iff_iff, List.any_eq_true, decide_eq_true_iff]
  constructor
  · rintro ⟨v, hv, e⟩
    obtain ⟨z, hz, rfl⟩ := List.mem_map.mp hv
    have : (z : Int) = (t : Int) := by simpa [eqV] using e
    have : z = t := by omega
    rw [← this]; exact hz
  · intro h
    exact ⟨_, List.mem_map.mpr ⟨t, h, rfl⟩, by simp [eqV]⟩
theorem ni_app (a b : List Nat) : ni (a ++ b) = ni a ++ ni b := List.map_append
theorem inR (K : PySem.W.Frag) {X : Cx} (h : X.K = K := by rfl) : OpR X (compareOp .In) (rIn K false) := by subst h; exact op_in_seq
/-- what the search for the reached places keeps -/
structure Srch (C : Mh.Ch) (x : Nat) (fs ws : List Nat) : Prop where
  nd : fs.Nodup
  x0 : x ∈ fs
  rc : ∀ y ∈ fs, Mh.Reach C x y
  wf : ∀ y ∈ ws, y ∈ fs
  wl : ws.length ≤ fs.length
  dn : ∀ y ∈ fs, y ∉ ws → ∀ b ∈ C.brs y, b.2 ∈ fs
/-- .. while the targets of the place z are looked at, j of them done -/
structure Srch1 (C : Mh.Ch) (x z j : Nat) (fs ws : List Nat) : Prop where
  nd : fs.Nodup
  x0 : x ∈ fs
  z0 : z ∈ fs
  rc : ∀ y ∈ fs, Mh.Reach C x y
  wf : ∀ y ∈ ws, y ∈ fs
  wl : ws.length ≤ fs.length
  dn : ∀ y ∈ fs, y ∉ ws → y ≠ z → ∀ b ∈ C.brs y, b.2 ∈ fs
  dz : ∀ b ∈ (C.brs z).take j, b.2 ∈ fs
section
variable {P : Program} {w : World} {K : PySem.W.Frag} {mg : Str → Option Value} {base : Heap}
/-! ### targets -/
abbrev sTargets : Stmt := topS 16
abbrev nTargets : List Str := ["game", "place", "gain", "kind", "branches", "target", "chance"]
theorem scTargets : FnScope nTargets ["game", "place"] (defScope sTargets) := ⟨rfl, rfl, rfl, by decide +kernel, rfl, by decide +kernel, by decide +kernel⟩
def spTargets (K : PySem.W.Frag) : Sp := fun vs H Q _ => ∃ (a : Addr) (x : Nat) (C : Mh.Ch), vs = [.ref a, .int (x : Int)] ∧ ChAt K H a C ∧ x < C.n ∧ (C.brs x).length ≤ 100 ∧ ∀ H' p, Same H H' → H p = none → H' p = some (.lst (ni ((C.brs x).map (·.2)))) → Q (.ref p) H'
theorem cal_targets {f : Addr} {fd : FuncData} (F : Fun K "targets" "targets" sTargets f fd) (g : mg "targets" = some (.ref f)) (B : Bi mg) : Cal P w K mg base "targets" ["game", "place"] 1 f fd (spTargets K) := by
  refine ⟨g, F.kp, F.binds fun _ _ _ _ _ _ us hl => match us, hl with | [_, _], _ => rfl, ?_⟩
  refine F.ok scTargets (fun vs H Q E h => ?_) (fun cdv A outer s H vs Q E hr h => ?_)
  · obtain ⟨a, x, C, rfl, _⟩ := h
    rfl
  · obtain ⟨a, x, C, rfl, ⟨cvs, hcv, hcl, hcp⟩, hx, hb100, k⟩ := h
    have nd := scTargets.nd
    refine ⟨_, pss_cons (ps_asg (pe_ix ix_list (pv 0) (pv 1) (fun _ _ => rfl)) (pg_tup rfl (pgs_cons (pg_name (i := 2) nd rfl (.inl rfl)) (pgs_cons (pg_name (i := 3) nd rfl (.inl rfl)) (pgs_cons (pg_name (i := 4) nd rfl (.inl rfl)) pgs_nil)))))
      (pss_cons (ps_if (pt_cmpR op_eq (pv 3) pe_str (nomark _)) (pss_one (ps_ret (pe_lc (own := [("chance", 6), ("target", 5)]) (g := gTup K 2 (gCons (gName 6) (gCons (gName 5) gNil))) (tt := tYes) (te := tVar 5) rfl nd (pi_list (pv 4)) (blkOk_by (N := nTargets) (sc := defScope sTargets) (by decide +kernel))
        (fun _ _ _ _ _ => pg_tup rfl (pgs_cons (pg_name (i := 6) nd rfl (.inl rfl)) (pgs_cons (pg_name (i := 5) nd rfl (.inl rfl)) pgs_nil))) (fun _ _ _ _ _ => pts_nil) (fun _ _ _ _ _ => pv 5)))) pss_nil)
      (pss_one (ps_ret (pe_callTy call_list_of (by rfl) B.list (by decide +kernel) (pa_cons (pv 4) pa_nil))))), ?_⟩
    obtain ⟨cv, hcvi⟩ : ∃ cv, cvs[x]? = some cv := ⟨_, List.getElem?_eq_getElem (by rw [hcl]; exact hx)⟩
    obtain ⟨t, gv, b, us, rfl, ht, _, hb, hbp⟩ := hcp _ _ hcvi
    refine ⟨_, rfl, _, rfl, a, _, _, _, rfl, rfl, .of hcv, atI_nat hcvi, t, _, rfl, ht, rfl, _, _, rfl, _, _, rfl, _, _, rfl, rfl, ?_⟩
    refine ⟨_, rfl, rfl, _, rfl, ?_⟩
    rw [decide_eq_true rfl]
    refine iteT ⟨_, rfl, b, rfl, ⟨_, .of hb⟩, fun D hD => ?_⟩
    refine lc_list (K := K) (a := b) (xs := us) (fun j H3 => Same H H3 ∧ H3 D = some (.lst (ni (((C.brs x).take j).map (·.2))))) ⟨same_upd hD, upd_same⟩ (fun j H3 _ ⟨s3, _⟩ => s3.seq (.of hb)) ?_ ?_
    · rintro j v H3 hj ⟨s3, eD⟩
      obtain ⟨⟨ch, tt⟩, hbj, t2, cv, rfl, ht2, hch⟩ := pget hbp hj
      refine ⟨t2, [cv, .int (tt : Int)], rfl, same_tup s3 ht2, rfl, cv, [.int (tt : Int)], rfl, .int (tt : Int), [], rfl, rfl, rfl, _, rfl, _, eD, ?_, Ex.same ex_upd s3 hD, ?_⟩
      · rw [ni_len, List.length_map, List.length_take]; exact small1000 (by omega)
      · rw [upd_same, take_snoc hbj, List.map_append, ni_app]; rfl
    · rintro H3 ⟨s3, eD⟩
      rw [hbp.length, List.take_length] at eD
      exact k H3 D s3 hD eD
/-! ### reached -/
abbrev sReached : Stmt := topS 18
abbrev nReached : List Str := ["chain", "place", "found", "waiting", "target"]
theorem scReached : FnScope nReached ["chain", "place"] (defScope sReached) := ⟨rfl, rfl, rfl, by decide +kernel, rfl, by decide +kernel, by decide +kernel⟩
def spReached (K : PySem.W.Frag) : Sp := fun vs H Q _ => ∃ (a : Addr) (x : Nat) (C : Mh.Ch), vs = [.ref a, .int (x : Int)] ∧ ChAt K H a C ∧ C.Ok ∧ x < C.n ∧ C.n ≤ 60 ∧ (∀ y, y < C.n → (C.brs y).length ≤ 100) ∧
  ∀ H' p (ws : List Nat), Same H H' → H p = none → H' p = some (.lst (ni ws)) → ws.Pairwise (· < ·) → (∀ y, y ∈ ws ↔ Mh.Reach C x y) → Q (.ref p) H'
theorem cal_reached {f fT : Addr} {fd fdT : FuncData} (F : Fun K "reached" "reached" sReached f fd) (g : mg "reached" = some (.ref f)) (B : Bi mg) (CT : Cal P w K mg base "targets" ["game", "place"] 1 fT fdT (spTargets K)) : Cal P w K mg base "reached" ["chain", "place"] 2 f fd (spReached K) := by
  refine ⟨g, F.kp, F.binds fun _ _ _ _ _ _ us hl => match us, hl with | [_, _], _ => rfl, ?_⟩
  refine F.ok scReached (fun vs H Q E h => ?_) (fun cdv A outer s H vs Q E hr h => ?_)
  · obtain ⟨a, x, C, rfl, _⟩ := h
    rfl
  · obtain ⟨a, x, C, rfl, hC, ok, hx, hn, hb100, k⟩ := h
    have nd := scReached.nd
    refine ⟨_, pss_cons (ps_set (i := 2) nd rfl (.inl rfl) (pe_lst (pa_cons (pv 1) pa_nil)))
      (pss_cons (ps_set (i := 3) nd rfl (.inl rfl) (pe_lst (pa_cons (pv 1) pa_nil)))
      (pss_cons (ps_while PassesOwn.never (pt_truth (pv 3) (by intro _; rfl))
        (pss_one (ps_for PassesOwn.never rfl (pi_list (pe_call CT.ok hr (by rfl) CT.g CT.kp CT.b .nil pass0 (pa_cons (pv 0) (pa_cons (pe_bm0 PySem.F.plainAttrs_list PySem.F.slot_list_pop PySem.F.type_list_pop mt_pop (pv 3)) pa_nil)))) (pg_name (i := 4) nd rfl (.inl rfl))
          (pss_one (ps_if (pt_cmpR op_notIn_seq (pv 4) (pv 2) (by rfl))
            (pss_cons (ps_expr (pe_bm PySem.F.plainAttrs_list PySem.F.slot_list_append PySem.F.type_list_append mt_append (pv 2) (pa_cons (pv 4) pa_nil)))
            (pss_one (ps_expr (pe_bm PySem.F.plainAttrs_list PySem.F.slot_list_append PySem.F.type_list_append mt_append (pv 3) (pa_cons (pv 4) pa_nil))))) pss_nil)))))
      (pss_one (ps_ret (pe_callB cr_sorted (by rfl) B.sorted (by decide +kernel) (pa_cons (pv 2) pa_nil)))))), ?_⟩
    refine ⟨_, rfl, by show 1 ≤ sizeLine; decide, fun Fo hFo => ⟨_, rfl, by show 1 ≤ sizeLine; decide, fun Wa hWa => ?_⟩⟩
    have s1 := same_upd (o := .lst [V.int (x : Int)]) hFo
    have s2 := same_upd (o := .lst [V.int (x : Int)]) hWa
    have hWa0 : H Wa = none := s1.free hWa
    have nFW : Fo ≠ Wa := fun e => by rw [← e, upd_same] at hWa; cases hWa
    have ltn : ∀ fs : List Nat, (∀ y ∈ fs, Mh.Reach C x y) → ∀ y ∈ fs, y < C.n := fun fs h y hy => (h y hy).lt ok hx
    refine ⟨fun m σ H2 => ∃ (fs ws : List Nat) (y4 : Option V), σ = [some (.ref a), some (.int (x : Int)), some (.ref Fo), some (.ref Wa), y4] ∧ Same H H2 ∧ H2 Fo = some (.lst (ni fs)) ∧ H2 Wa = some (.lst (ni ws)) ∧ Srch C x fs ws ∧ m = 2 * (C.n - fs.length) + ws.length,
      ⟨_, [x], [x], none, rfl, s1.trans s2, s2 _ _ upd_same, upd_same, ⟨List.nodup_cons.mpr ⟨by simp, List.nodup_nil⟩, List.mem_cons_self, fun y hy => by rw [List.mem_singleton.mp hy]; exact .refl x, fun y hy => hy, Nat.le_refl _, fun y hy hn => absurd hy hn⟩, rfl⟩, ?_⟩
    rintro m σ H2 ⟨fs, ws, y4, rfl, s3, eF, eW, S, rfl⟩
    refine ⟨_, rfl, _, .inl ⟨_, .of eW, rfl⟩, ?_⟩
    rcases List.eq_nil_or_concat ws with rfl | ⟨ws0, z, rfl⟩
    · -- nothing waits
      refine iteF ⟨_, rfl, Fo, fs.map (fun z : Nat => (z : Int)), rfl, .of (by rw [eF, List.map_map]; rfl), ?_, fun ns p hp hs hpn => ?_⟩
      · rw [List.length_map]
        have := nd_len S.nd (ltn fs S.rc)
        omega
      · have hall : ∀ y, y ∈ fs ↔ Mh.Reach C x y := fun y => ⟨S.rc y, fun r => by
          induction r with
          | refl => exact S.x0
          | step _ hb ih => exact S.dn _ ih (by simp) _ hb⟩
        have hns : ∀ i ∈ ns, ∃ z ∈ fs, i = ((z : Nat) : Int) := fun i hi => by
          obtain ⟨z, hz, e⟩ := List.mem_map.mp (hp.mem_iff.mp hi)
          exact ⟨z, hz, e.symm⟩
        have ens : ns.map V.int = ni (ns.map Int.toNat) := by
          unfold ni
          rw [List.map_map]
          refine List.map_congr_left fun i hi => ?_
          obtain ⟨z, _, rfl⟩ := hns i hi
          rfl
        have mem : ∀ y, y ∈ ns.map Int.toNat ↔ y ∈ fs := fun y => by
          constructor
          · intro hy
            obtain ⟨i, hi, rfl⟩ := List.mem_map.mp hy
            obtain ⟨z, hz, rfl⟩ := hns i hi
            exact hz
          · intro hy
            exact List.mem_map.mpr ⟨(y : Int), hp.mem_iff.mpr (List.mem_map.mpr ⟨y, hy, rfl⟩), rfl⟩
        have ndn : ns.Nodup := hp.nodup_iff.mpr (List.pairwise_map.mpr (S.nd.imp fun h e => h (by omega)))
        have asc : (ns.map Int.toNat).Pairwise (· < ·) := by
          refine List.pairwise_map.mpr ((List.pairwise_and_iff.mpr ⟨hs, ndn⟩).imp_of_mem ?_)
          intro i j hi hj h
          obtain ⟨u, _, rfl⟩ := hns i hi
          obtain ⟨v, _, rfl⟩ := hns j hj
          show u < v
          obtain ⟨h1, h2⟩ := h
          have : (u : Int) ≠ v := h2
          omega
        rw [ens]
        exact k _ p _ (s3.trans (same_upd hpn)) (s3.free hpn) upd_same asc fun y => (mem y).trans (hall y)
    · -- the last one that waits
      rw [List.concat_eq_append] at *
      have hzf : z ∈ fs := S.wf z (List.mem_append.mpr (.inr (List.mem_singleton.mpr rfl)))
      have hzn := ltn fs S.rc z hzf
      have e1 : (!(ni (ws0 ++ [z])).isEmpty) = true := by
        rw [ni_app]
        cases ws0 <;> rfl
      rw [e1]
      refine iteT ⟨fun σ' H' => ∃ (fs' ws' : List Nat) (y4 : Option V), σ' = [some (.ref a), some (.int (x : Int)), some (.ref Fo), some (.ref Wa), y4] ∧ Same H H' ∧ H' Fo = some (.lst (ni fs')) ∧ H' Wa = some (.lst (ni ws')) ∧ Srch C x fs' ws' ∧ 2 * (C.n - fs'.length) + ws'.length < 2 * (C.n - fs.length) + (ws0 ++ [z]).length,
        fun σ' H' ⟨fs', ws', y4, h1, h2, h3, h4, h5, h6⟩ => ⟨_, h6, fs', ws', y4, h1, h2, h3, h4, h5, rfl⟩, ?_⟩
      have lw : (ni (ws0 ++ [z]))[(ni (ws0 ++ [z])).length - 1]? = some (.int (z : Int)) := by
        rw [ni_app, List.length_append]
        show (ni ws0 ++ [V.int (z : Int)])[(ni ws0).length + 1 - 1]? = _
        rw [Nat.add_sub_cancel, List.getElem?_append_right (Nat.le_refl _), Nat.sub_self]
        rfl
      have dw : (ni (ws0 ++ [z])).dropLast = ni ws0 := by
        rw [ni_app]
        exact List.dropLast_concat
      refine ⟨_, rfl, _, rfl, .inl ⟨rfl, _, .of eW⟩, Wa, _, _, rfl, rfl, eW, lw, ?_⟩
      rw [dw]
      have s4 : Same H (upd H2 Wa (.lst (ni ws0))) := Ex.same ex_upd s3 hWa0
      refine ⟨a, z, C, rfl, hC.same s4, hzn, hb100 z hzn, fun H5 p s5 hp hpv => ⟨p, rfl, ⟨_, .of hpv⟩, ?_⟩⟩
      have npF : p ≠ Fo := fun e => by rw [e, upd_ne nFW, eF] at hp; cases hp
      have npW : p ≠ Wa := fun e => by rw [e, upd_same] at hp; cases hp
      refine for_list (K := K) (a := p) (xs := ni ((C.brs z).map (·.2))) (fun j σ H6 => ∃ (fs' ws' : List Nat) (y4 : Option V), σ = [some (.ref a), some (.int (x : Int)), some (.ref Fo), some (.ref Wa), y4] ∧ Same H H6 ∧ H6 p = some (.lst (ni ((C.brs z).map (·.2)))) ∧ H6 Fo = some (.lst (ni fs')) ∧ H6 Wa = some (.lst (ni ws')) ∧
          Srch1 C x z j fs' ws' ∧ 2 * (C.n - fs'.length) + ws'.length ≤ 2 * (C.n - fs.length) + ws0.length)
        ⟨fs, ws0, y4, rfl, s4.trans s5, hpv, s5 _ _ (by rw [upd_ne nFW]; exact eF), s5 _ _ upd_same, ⟨S.nd, S.x0, hzf, S.rc, fun y hy => S.wf y (List.mem_append.mpr (.inl hy)), by have := S.wl; rw [List.length_append] at this; omega, fun y hy hn hne => S.dn y hy fun hm => ?_, fun b hb => by simp at hb⟩, Nat.le_refl _⟩
        (fun j σ H6 _ ⟨_, _, _, _, _, h, _⟩ => .of h) ?_ ?_
      · rcases List.mem_append.mp hm with hm | hm
        · exact hn hm
        · exact hne (List.mem_singleton.mp hm)
      · rintro j v σ H6 hj ⟨fs', ws', y4, rfl, s6, ep, eF6, eW6, S6, hm⟩
        have hjl : j < (C.brs z).length := by have := (List.getElem?_eq_some_iff.mp hj).1; rw [ni_len, List.length_map] at this; exact this
        obtain ⟨b, hbj⟩ : ∃ b, (C.brs z)[j]? = some b := ⟨_, List.getElem?_eq_getElem hjl⟩
        have hv : v = .int (b.2 : Int) := by
          unfold ni at hj
          rw [List.getElem?_map, List.getElem?_map, hbj] at hj
          exact (Option.some.inj hj).symm
        subst hv
        have hbm : b ∈ C.brs z := List.mem_of_getElem? hbj
        refine ⟨_, rfl, _, rfl, Fo, _, rfl, .inl (.of eF6), rfl, ni_flat fs', _, rfl, ?_⟩
        rw [inV_ni]
        by_cases hin : b.2 ∈ fs'
        · rw [decide_eq_true hin]
          refine iteF ⟨fs', ws', _, rfl, s6, ep, eF6, eW6, ⟨S6.nd, S6.x0, S6.z0, S6.rc, S6.wf, S6.wl, S6.dn, fun c hc => ?_⟩, hm⟩
          rw [take_snoc hbj] at hc
          rcases List.mem_append.mp hc with hc | hc
          · exact S6.dz c hc
          · rw [List.mem_singleton.mp hc]; exact hin
        · rw [decide_eq_false hin]
          have hlen := nd_len S6.nd (ltn fs' S6.rc)
          have hnd : (fs' ++ [b.2]).Nodup := List.nodup_append.mpr ⟨S6.nd, List.nodup_cons.mpr ⟨by simp, List.nodup_nil⟩, fun u hu v hv e => hin (by rw [← List.mem_singleton.mp hv, ← e]; exact hu)⟩
          have hrc : ∀ y ∈ fs' ++ [b.2], Mh.Reach C x y := fun y hy => by
            rcases List.mem_append.mp hy with hy | hy
            · exact S6.rc y hy
            · rw [List.mem_singleton.mp hy]; exact (S6.rc z S6.z0).step hbm
          have hlen2 := nd_len hnd (ltn _ hrc)
          rw [List.length_append, List.length_singleton] at hlen2
          have hws : ws'.length ≤ 200 := by have := S6.wl; omega
          refine iteT ⟨_, rfl, .inl ⟨rfl, _, .of eF6⟩, _, rfl, Fo, _, _, rfl, rfl, eF6, by rw [ni_len]; exact small1000 (by omega), ?_⟩
          have eW7 : (upd H6 Fo (.lst (ni fs' ++ [.int (b.2 : Int)]))) Wa = some (.lst (ni ws')) := by rw [upd_ne nFW.symm]; exact eW6
          refine ⟨_, rfl, .inl ⟨rfl, _, .of eW7⟩, _, rfl, Wa, _, _, rfl, rfl, eW7, by rw [ni_len]; exact small1000 (by omega), ?_⟩
          refine ⟨fs' ++ [b.2], ws' ++ [b.2], _, rfl, Ex.same ex_upd (Ex.same ex_upd s6 hFo) hWa0, ?_, ?_, ?_, ⟨hnd, List.mem_append.mpr (.inl S6.x0), List.mem_append.mpr (.inl S6.z0), hrc, fun y hy => ?_, by have := S6.wl; rw [List.length_append, List.length_append]; exact Nat.add_le_add_right this _, fun y hy hn hne c hc => ?_, fun c hc => ?_⟩, ?_⟩
          · rw [upd_ne npW, upd_ne npF]; exact ep
          · rw [upd_ne nFW, upd_same, ni_app]; rfl
          · rw [upd_same, ni_app]; rfl
          · rcases List.mem_append.mp hy with hy | hy
            · exact List.mem_append.mpr (.inl (S6.wf y hy))
            · exact List.mem_append.mpr (.inr hy)
          · rcases List.mem_append.mp hy with hy | hy
            · exact List.mem_append.mpr (.inl (S6.dn y hy (fun z => hn (List.mem_append.mpr (.inl z))) hne c hc))
            · exact absurd (List.mem_append.mpr (.inr hy)) hn
          · rw [take_snoc hbj] at hc
            rcases List.mem_append.mp hc with hc | hc
            · exact List.mem_append.mpr (.inl (S6.dz c hc))
            · rw [List.mem_singleton.mp hc]; exact List.mem_append.mpr (.inr (List.mem_singleton.mpr rfl))
          · rw [List.length_append, List.length_append, List.length_singleton]
            omega
      · rintro σ H6 ⟨fs', ws', y4, rfl, s6, ep, eF6, eW6, S6, hm⟩
        rw [ni_len, List.length_map] at S6
        refine ⟨fs', ws', y4, rfl, s6, eF6, eW6, ⟨S6.nd, S6.x0, S6.rc, S6.wf, S6.wl, fun y hy hn b hb => ?_⟩, ?_⟩
        · by_cases e : y = z
          · subst e
            have := S6.dz
            rw [List.take_length] at this
            exact this b hb
          · exact S6.dn y hy hn e b hb
        · rw [List.length_append, List.length_singleton]; omega
end
end Mw
set_option Elab.async false
set_option linter.all false
set_option maxRecDepth 100000
set_option autoImplicit false
namespace Mw
open PySem PySem.Spec PyProof.Rows L2
/-- lists of places in a list -/
def ClsAt (H : Hp) (p : Addr) (cls : List (List Nat)) : Prop := ∃ rs : List Addr, H p = some (.lst (rs.map V.ref)) ∧ Paired (fun q cl => H q = some (.lst (ni cl))) rs cls
theorem ClsAt.same {H H' : Hp} {p : Addr} {cls : List (List Nat)} (h : ClsAt H p cls) (s : Same H H') : ClsAt H' p cls := by
  obtain ⟨rs, e, h⟩ := h
  exact ⟨rs, s _ _ e, Paired.mapP h fun _ _ z => s _ _ z⟩
section
variable {P : Program} {w : World} {K : PySem.W.Frag} {mg : Str → Option Value} {base : Heap}
/-! ### closed_classes -/
abbrev sClosed : Stmt := topS 19
abbrev nClosed : List Str := ["chain", "place", "ways", "found", "way", "other"]
theorem scClosed : FnScope nClosed ["chain"] (defScope sClosed) := ⟨rfl, rfl, rfl, by decide +kernel, rfl, by decide +kernel, by decide +kernel⟩
def spClosed (K : PySem.W.Frag) : Sp := fun vs H Q _ => ∃ (a : Addr) (C : Mh.Ch), vs = [.ref a] ∧ ChAt K H a C ∧ C.Ok ∧ C.n ≤ 60 ∧ (∀ y, y < C.n → (C.brs y).length ≤ 100) ∧
  ∀ H' p, Same H H' → H p = none → ClsAt H' p (Mh.clsOf C) → Q (.ref p) H'
theorem cal_closed {f fR : Addr} {fd fdR : FuncData} (F : Fun K "closed_classes" "closed_classes" sClosed f fd) (g : mg "closed_classes" = some (.ref f)) (B : Bi mg) (CR : Cal P w K mg base "reached" ["chain", "place"] 2 fR fdR (spReached K)) : Cal P w K mg base "closed_classes" ["chain"] 3 f fd (spClosed K) := by
  refine ⟨g, F.kp, F.binds fun _ _ _ _ _ _ us hl => match us, hl with | [_], _ => rfl, ?_⟩
  refine F.ok scClosed (fun vs H Q E h => ?_) (fun cdv A outer s H vs Q E hr h => ?_)
  · obtain ⟨a, C, rfl, _⟩ := h
    rfl
  · obtain ⟨a, C, rfl, hC, ok, hn, hb100, k⟩ := h
    have nd := scClosed.nd
    refine ⟨_, pss_cons (ps_set (i := 2) nd rfl (.inr rfl) (pe_lc (own := [("place", 1)]) (g := gName 1) (tt := tYes) (te := tCall (spReached K) [] E0 (tCons (tVar 0) (tCons (tVar 1) tNil))) rfl nd (pi_range1 rfl B.range (pa_cons (pe_callB call_len_seq (by rfl) B.len PySem.boot_len (pa_cons (pv 0) pa_nil)) pa_nil))
        (blkOk_by (N := nClosed) (sc := defScope sClosed) (by decide +kernel)) (fun _ _ _ _ _ => pg_name (i := 1) nd rfl (.inl rfl)) (fun _ _ _ _ _ => pts_nil) (fun _ _ _ _ _ => pe_call CR.ok hr (by rfl) CR.g CR.kp CR.b .nil pass0 (pa_cons (pv 0) (pa_cons (pv 1) pa_nil)))))
      (pss_cons (ps_set (i := 3) nd rfl (.inl rfl) (pe_lst pa_nil))
      (pss_cons (ps_for PassesOwn.never rfl (pi_enum (by rfl) B.enum (pa_cons (pv 2) pa_nil)) (pg_tup rfl (pgs_cons (pg_name (i := 1) nd rfl (.inr rfl)) (pgs_cons (pg_name (i := 4) nd rfl (.inl rfl)) pgs_nil)))
        (pss_one (ps_if (PW.pt (pw_and (pt_cmpR op_eq (pe_ix ix_list (pv 4) pe_int (fun _ _ => rfl)) (pv 1) (nomark _)) (pw_and1 (pt_val (pe_callB (cr_all rfl) (by rfl) B.all (by decide +kernel) (pa_cons
            (pe_lc (own := [("other", 5)]) (g := gName 5) (tt := tYes) (te := tOp (rIn K false) (tVar 1) (tOp (rIxL K) (tVar 2) (tVar 5))) rfl nd (pi_list (pv 4)) (blkOk_by (N := nClosed) (sc := defScope sClosed) (by decide +kernel)) (fun _ _ _ _ _ => pg_name (i := 5) nd rfl (.inl rfl)) (fun _ _ _ _ _ => pts_nil)
              (fun _ _ _ _ _ => pe_cmpR (inR K) (pv 1) (pe_ix (ixL K) (pv 2) (pv 5) (fun _ _ => rfl)) (by rfl))) pa_nil))))))
          (pss_one (ps_expr (pe_bm PySem.F.plainAttrs_list PySem.F.slot_list_append PySem.F.type_list_append mt_append (pv 3) (pa_cons (pv 4) pa_nil)))) pss_nil)))
      (pss_one (ps_ret (pv 3))))), ?_⟩
    obtain ⟨cvs, hcv, hcl, _⟩ := id hC
    refine ⟨_, rfl, a, _, rfl, .inl (.of hcv), _, rfl, by rw [hcl]; omega, by rw [hcl]; omega, fun D hD => ?_⟩
    rw [hcl, show (C.n : Int).toNat = C.n from rfl]
    refine lc_range (lo := 0) (n := C.n) (fun i H2 => Same H H2 ∧ ∃ (qs : List Addr) (W : Nat → List Nat), H2 D = some (.lst (qs.map V.ref)) ∧ qs.length = i ∧ ∀ (x : Nat) (q : Addr), qs[x]? = some q → q ≠ D ∧ H2 q = some (.lst (ni (W x))) ∧ (W x).Pairwise (· < ·) ∧ ∀ y, y ∈ W x ↔ Mh.Reach C x y)
      ⟨same_upd hD, [], fun _ => [], upd_same, rfl, fun x q e => by simp at e⟩ ?_ ?_
    · rintro i H2 hi ⟨s2, qs, W, eD, el, hq⟩
      rw [show (0 : Int) + (i : Int) = (i : Int) from Int.zero_add _]
      refine ⟨rfl, _, rfl, _, rfl, a, i, C, rfl, hC.same s2, ok, hi, hn, hb100, fun H3 p ws s3 hp hpv ha hm => ?_⟩
      refine ⟨_, s3 _ _ eD, by rw [List.length_map]; exact small1000 (by omega), Ex.same ex_upd (s2.trans s3) hD, qs ++ [p], fun x => if x = i then ws else W x, ?_, ?_, fun x q e => ?_⟩
      · rw [upd_same, List.map_append]; rfl
      · rw [List.length_append, el]; rfl
      · show q ≠ D ∧ upd _ _ _ q = some (.lst (ni (if x = i then ws else W x))) ∧ (if x = i then ws else W x).Pairwise (· < ·) ∧ ∀ y, y ∈ (if x = i then ws else W x) ↔ Mh.Reach C x y
        by_cases hx : x < qs.length
        · rw [List.getElem?_append_left hx] at e
          obtain ⟨n1, e1, h1⟩ := hq x q e
          rw [if_neg (by omega), upd_ne n1]
          exact ⟨n1, s3 _ _ e1, h1⟩
        · have hxi : x = i := by have := (List.getElem?_eq_some_iff.mp e).1; rw [List.length_append, List.length_singleton] at this; omega
          subst hxi
          rw [List.getElem?_append_right (by omega), el, Nat.sub_self] at e
          cases e
          have npD : p ≠ D := fun e => by rw [e, eD] at hp; cases hp
          rw [if_pos rfl, upd_ne npD]
          exact ⟨npD, hpv, ha, hm⟩
    · rintro H2 ⟨s2, qs, W, eD, el, hq⟩
      have hqx : ∀ x, x < C.n → ∃ q, qs[x]? = some q ∧ H2 q = some (.lst (ni (W x))) := fun x hx => by
        have e := List.getElem?_eq_getElem (show x < qs.length by omega)
        exact ⟨_, e, (hq x _ e).2.1⟩
      have A : Mh.Ways C W := ⟨fun x hx => by obtain ⟨q, e, _⟩ := hqx x hx; exact (hq x q e).2.2.1, fun x hx => by obtain ⟨q, e, _⟩ := hqx x hx; exact (hq x q e).2.2.2⟩
      have ll : ([] : List V).length ≤ sizeLine := Nat.zero_le _
      refine ⟨ll, fun Fd hFd => ?_⟩
      have sF := same_upd (o := .lst ([] : List V)) hFd
      refine ⟨_, rfl, D, _, rfl, .of (sF _ _ eD), ?_⟩
      refine for_it walk_enum (fun i σ H3 => ∃ (rs : List Addr) (y1 y4 y5 : Option V), σ = [some (.ref a), y1, some (.ref D), some (.ref Fd), y4, y5] ∧ Same H2 H3 ∧ H3 Fd = some (.lst (rs.map V.ref)) ∧ Paired (fun q cl => H2 q = some (.lst (ni cl))) rs ((Mh.begs W i).map W) ∧ rs.length ≤ i)
        ⟨[], none, none, none, rfl, sF, upd_same, .nil, Nat.le_refl _⟩ (fun i σ H3 _ ⟨_, _, _, _, _, s3, _⟩ => .of (s3 _ _ eD)) ?_ ?_
      · rintro i v σ H3 H4 hi ⟨rs, y1, y4, y5, rfl, s3, eF, hp, hl⟩ ⟨T, v1, v2, rfl, nT, rfl, h1, h2⟩
        have hin : i < C.n := by rw [List.length_map] at hi; omega
        obtain ⟨q, hqi, eq⟩ := hqx i hin
        have h2' : (qs.map V.ref)[i]? = some v2 := h2
        rw [List.getElem?_map, hqi] at h2'
        cases h1
        cases h2'
        have sT := same_upd (o := .tup [V.int (i : Int), V.ref q]) nT
        have s34 := s3.trans sT
        refine ⟨T, _, rfl, .of upd_same, rfl, _, _, rfl, _, _, rfl, rfl, ?_⟩
        have hii := (A.mem i hin i).mpr (.refl i)
        obtain ⟨u, hu⟩ : ∃ u, (W i)[0]? = some u := ⟨_, List.getElem?_eq_getElem (List.length_pos_of_mem hii)⟩
        have hu2 : (ni (W i))[0]? = some (.int (u : Int)) := by unfold ni; rw [List.getElem?_map, hu]; rfl
        refine ⟨_, rfl, q, _, _, _, rfl, rfl, .of (s34 _ _ eq), atI_nat (j := 0) hu2, _, rfl, rfl, _, rfl, ?_⟩
        have eF4 : (upd H3 T (.tup [V.int (i : Int), V.ref q])) Fd = some (.lst (rs.map V.ref)) := sT _ _ eF
        by_cases e1 : u = i
        · rw [decide_eq_true (congrArg (fun z : Nat => V.int (z : Int)) e1)]
          refine iteT ⟨_, rfl, q, rfl, ⟨_, .of (s34 _ _ eq)⟩, fun D2 hD2 => ?_⟩
          refine lc_list (K := K) (a := q) (xs := ni (W i)) (fun j H5 => Same (upd H3 T (.tup [V.int (i : Int), V.ref q])) H5 ∧ H5 D2 = some (.lst ((((W i).take j).map fun o => decide (i ∈ W o)).map V.bl))) ⟨same_upd hD2, upd_same⟩ (fun j H5 _ ⟨s5, _⟩ => (s34.trans s5).seq (.of eq)) ?_ ?_
          · rintro j v H5 hj ⟨s5, eD5⟩
            have hjl : j < (W i).length := by have := (List.getElem?_eq_some_iff.mp hj).1; rw [ni_len] at this; exact this
            rw [ni_get hjl] at hj
            cases hj
            have hoc := (A.mem i hin _).mp (Mh.at_mem hjl)
            obtain ⟨q2, hq2, eq2⟩ := hqx (Mh.at_ (W i) j) (hoc.lt ok hin)
            have hq2' : (qs.map V.ref)[Mh.at_ (W i) j]? = some (.ref q2) := by rw [List.getElem?_map, hq2]; rfl
            have htj : (W i)[j]? = some (Mh.at_ (W i) j) := by unfold Mh.at_; rw [List.getD_eq_getElem?_getD, List.getElem?_eq_getElem hjl]; rfl
            have lW : (W i).length ≤ C.n := nd_len (Mh.asc_nd (A.asc i hin)) fun y hy => ((A.mem i hin y).mp hy).lt ok hin
            refine ⟨rfl, _, rfl, _, rfl, _, rfl, D, _, _, _, rfl, rfl, .of ((s34.trans s5) _ _ eD), atI_nat hq2', q2, _, rfl, .inl (.of ((s34.trans s5) _ _ eq2)), rfl, ni_flat _, _, eD5, ?_, Ex.same ex_upd s5 hD2, ?_⟩
            · rw [List.length_map, List.length_map, List.length_take]; exact small1000 (by omega)
            · rw [upd_same, take_snoc htj, List.map_append, List.map_append, inV_ni]; rfl
          · rintro H5 ⟨s5, eD5⟩
            rw [ni_len, List.take_length] at eD5
            refine ⟨D2, _, rfl, .of eD5, _, rfl, ?_⟩
            have eF5 := s5 _ _ eF4
            have s35 := s34.trans s5
            by_cases hall : ∀ o ∈ W i, i ∈ W o
            · have : ((W i).map fun o => decide (i ∈ W o)).all id = true := by
                rw [List.all_eq_true]
                intro b hb
                obtain ⟨o, ho, rfl⟩ := List.mem_map.mp hb
                exact decide_eq_true (hall o ho)
              rw [this]
              have hcl : Mh.IsCl W i := ⟨by rw [hu, e1], hall⟩
              refine iteT ⟨_, rfl, .inl ⟨rfl, _, .of eF5⟩, _, rfl, Fd, _, _, rfl, rfl, eF5, by rw [List.length_map]; exact small1000 (by omega), ?_⟩
              refine ⟨rs ++ [q], _, _, _, rfl, Ex.same ex_upd s35 hFd, ?_, ?_, ?_⟩
              · rw [upd_same, List.map_append]; rfl
              · rw [Mh.begs_succ, if_pos (@decide_eq_true _ (Classical.propDecidable _) hcl), List.map_append]
                exact Paired.snoc hp eq
              · rw [List.length_append]; exact Nat.succ_le_succ hl
            · have : ((W i).map fun o => decide (i ∈ W o)).all id = false := by
                rw [Bool.eq_false_iff]
                intro z
                rw [List.all_eq_true] at z
                exact hall fun o ho => of_decide_eq_true (z _ (List.mem_map.mpr ⟨o, ho, rfl⟩))
              rw [this]
              refine iteF ⟨rs, _, _, _, rfl, s35, eF5, ?_, by omega⟩
              rw [Mh.begs_succ, if_neg (fun z => hall (@of_decide_eq_true _ (Classical.propDecidable _) z).2), List.append_nil]
              exact hp
        · rw [decide_eq_false (fun z => e1 (by have := V.int.inj z; omega))]
          refine iteF (iteF ⟨rs, _, _, _, rfl, s34, eF4, ?_, by omega⟩)
          rw [Mh.begs_succ, if_neg (fun z => e1 (by have := (@of_decide_eq_true _ (Classical.propDecidable _) z).1; rw [hu] at this; exact Option.some.inj this)), List.append_nil]
          exact hp
      · rintro σ H3 ⟨rs, y1, y4, y5, rfl, s3, eF, hp, hl⟩
        rw [List.length_map, el] at hp
        rw [A.cls_eq ok] at hp
        exact ⟨_, rfl, k H3 Fd (s2.trans s3) (s2.free hFd) ⟨rs, eF, Paired.mapP hp fun _ _ z => s3 _ _ z⟩⟩
end
end Mw
set_option Elab.async false
set_option linter.all false
set_option maxRecDepth 100000
set_option autoImplicit false
namespace Mw
open PySem PySem.Spec PyProof.Rows L2
theorem cut1 (xs : List V) : cutV xs (some 1) none = xs.drop 1 := by
  unfold cutV
  rw [show HT.sIx xs.length 0 (some 1) = min 1 xs.length from HT.sIx_nat xs.length 0 1, HT.sIx_none]
  cases xs with
  | nil => rfl
  | cons x r =>
    rw [show min 1 (x :: r).length = 1 by
      rw [List.length_cons]
      omega]
    show (List.take ((x :: r).length - 1) r) = r
    rw [List.length_cons, Nat.add_sub_cancel]
    exact List.take_length
theorem ni_drop (l : List Nat) (i : Nat) : (ni l).drop i = ni (l.drop i) := by unfold ni; rw [List.map_drop]
theorem at_drop (l : List Nat) (i : Nat) : Mh.at_ (l.drop 1) i = Mh.at_ l (i + 1) := by
  unfold Mh.at_
  rw [List.getD_eq_getElem?_getD, List.getD_eq_getElem?_getD, List.getElem?_drop, Nat.add_comm]
/-- the chances of the branches to y -/
def cto (l : List (Rat × Nat)) (y : Nat) : List Rat := (l.filter fun b => decide (b.2 = y)).map (·.1)
theorem cto_sum (l : List (Rat × Nat)) (y : Nat) : (cto l y).sum = Mh.cf l y := by
  induction l with
  | nil => rfl
  | cons b r ih =>
    unfold cto Mh.cf at *
    simp only [Mh.bm]
    rw [List.filter_cons]
    by_cases h : b.2 = y
    · rw [if_pos (decide_eq_true h), if_pos h, List.map_cons, List.sum_cons, ih]; grind
    · rw [if_neg (by simpa using h), if_neg h, ih]; grind
theorem cto_snoc (l : List (Rat × Nat)) (b : Rat × Nat) (y : Nat) : cto (l ++ [b]) y = if b.2 = y then cto l y ++ [b.1] else cto l y := by
  unfold cto
  rw [List.filter_append, List.map_append, List.filter_cons, List.filter_nil]
  by_cases h : b.2 = y
  · rw [if_pos h, if_pos (decide_eq_true h)]; rfl
  · rw [if_neg h, if_neg (by simpa using h)]; simp
theorem cto_mem {l : List (Rat × Nat)} {y : Nat} {q : Rat} (h : q ∈ cto l y) : ∃ b ∈ l, q = b.1 := by
  unfold cto at h
  obtain ⟨b, hb, e⟩ := List.mem_map.mp h
  exact ⟨b, (List.mem_filter.mp hb).1, e.symm⟩
theorem cto_len (l : List (Rat × Nat)) (y : Nat) : (cto l y).length ≤ l.length := by
  unfold cto; rw [List.length_map]; exact List.length_filter_le _ _
/-- a row of shares_in, j of its numbers told -/
def shp (C : Mh.Ch) (k : Nat) (p : Nat → Nat) (i j : Nat) : Nat → Rat := fun x =>
  if x < k then (if p x = p i then -1 else 0) + (if x < j then Mh.cf (C.brs (p x)) (p i) else 0) else 0
section
variable {P : Program} {w : World} {K : PySem.W.Frag} {mg : Str → Option Value} {base : Heap}
/-! ### shares_in -/
abbrev sShares : Stmt := topS 20
abbrev nShares : List Str := ["chain", "closed", "rows", "place", "other", "row", "at", "_", "chance", "target"]
theorem scShares : FnScope nShares ["chain", "closed"] (defScope sShares) := ⟨rfl, rfl, rfl, by decide +kernel, rfl, by decide +kernel, by decide +kernel⟩
def spShares (K : PySem.W.Frag) : Sp := fun vs H Q _ => ∃ (a cl : Addr) (C : Mh.Ch) (wt : Nat → Nat) (l : List Nat), vs = [.ref a, .ref cl] ∧ ChAt K H a C ∧ H cl = some (.lst (ni l)) ∧ C.Ok ∧ C.Sized wt ∧ Mh.Cls C l.length (Mh.at_ l) ∧
  ∀ H' p v, Same H H' → H p = none → RowN K H' p (tab l.length v) → Mh.sm l.length v = 1 → Mh.Sty C l.length (Mh.at_ l) v → (∃ D : Nat, 0 < D ∧ D ≤ 2 ^ (63 * l.length) ∧ ∀ i, i < l.length → Mh.Bd D (2 ^ (63 * l.length)) (v i)) → Q (.ref p) H'
theorem cal_shares {f fM fP fT fS tN tO : Addr} {fd fdM fdP fdT fdS : FuncData} (F : Fun K "shares_in" "shares_in" sShares f fd) (g : mg "shares_in" = some (.ref f)) (B : Bi mg) (T : Con0 K mg tN tO)
    (CM : Cal P w K mg base "minus" ["a", "b"] 2 fM fdM (spBin K (· - ·) Z4)) (CP : Cal P w K mg base "plus" ["a", "b"] 2 fP fdP (spBin K (· + ·) Z4)) (CT : Cal P w K mg base "total" ["numbers"] 3 fT fdT (spTotal K)) (CS : Cal P w K mg base "solved" ["rows"] 4 fS fdS (spSolved K)) :
    Cal P w K mg base "shares_in" ["chain", "closed"] 5 f fd (spShares K) := by
  refine ⟨g, F.kp, F.binds fun _ _ _ _ _ _ us hl => match us, hl with | [_, _], _ => rfl, ?_⟩
  refine F.ok scShares (fun vs H Q E h => ?_) (fun cdv A outer s H vs Q E hr h => ?_)
  · obtain ⟨a, cl, C, wt, l, rfl, _⟩ := h
    rfl
  · obtain ⟨a, cl, C, wt, l, rfl, hC, hcl, ok, sz, L, k⟩ := h
    have hr2 : Room 2 _ := hr.mono (by decide)
    have hr3 : Room 3 _ := hr.mono (by decide)
    have nd := scShares.nd
    refine ⟨_, pss_cons (ps_set (i := 2) nd rfl (.inl rfl) (pe_lst (pa_cons (pe_op op_cat (pe_lc (own := [("_", 7)]) (g := gName 7) (tt := tYes) (te := tC (.ref tO)) rfl nd (pi_list (pv 1)) (blkOk_by (N := nShares) (sc := defScope sShares) (by decide +kernel)) (fun _ _ _ _ _ => pg_name (i := 7) nd rfl (.inl rfl)) (fun _ _ _ _ _ => pts_nil)
          (fun _ _ _ _ _ => pe_glob (v := .ref tO) (by rfl) T.zO rfl)) (pe_lst (pa_cons (pe_glob (v := .ref tO) (by rfl) T.zO rfl) pa_nil))) pa_nil)))
      (pss_cons (ps_for PassesOwn.never rfl (pi_list (pe_slice sl_list (pv 1) (po_some pe_int) po_none)) (pg_name (i := 3) nd rfl (.inr rfl))
        (pss_cons (ps_set (i := 5) nd rfl (.inl rfl) (pe_op op_cat (pe_lc (own := [("other", 4)]) (g := gName 4) (tt := tYes) (te := tIf (tTest (tOp rEq (tVar 4) (tVar 3))) (tCall (spBin K (· - ·) Z4) [] E0 (tCons (tC (.ref tN)) (tCons (tC (.ref tO)) tNil))) (tC (.ref tN))) rfl nd (pi_list (pv 1)) (blkOk_by (N := nShares) (sc := defScope sShares) (by decide +kernel))
            (fun _ _ _ _ _ => pg_name (i := 4) nd rfl (.inl rfl)) (fun _ _ _ _ _ => pts_nil) (fun _ _ _ _ _ => pe_ifExp (pt_cmpR op_eq (pv 4) (pv 3) (nomark _)) (pe_call CM.ok hr2 (by rfl) CM.g CM.kp CM.b .nil pass0 (pa_cons (pe_glob (v := .ref tN) (by rfl) T.zN rfl) (pa_cons (pe_glob (v := .ref tO) (by rfl) T.zO rfl) pa_nil))) (pe_glob (v := .ref tN) (by rfl) T.zN rfl)))
          (pe_lst (pa_cons (pe_glob (v := .ref tN) (by rfl) T.zN rfl) pa_nil))))
        (pss_cons (ps_for PassesOwn.never rfl (pi_enum (by rfl) B.enum (pa_cons (pv 1) pa_nil)) (pg_tup rfl (pgs_cons (pg_name (i := 6) nd rfl (.inl rfl)) (pgs_cons (pg_name (i := 4) nd rfl (.inl rfl)) pgs_nil)))
          (pss_one (ps_asg (pe_call CP.ok hr2 (by rfl) CP.g CP.kp CP.b .nil pass0 (pa_cons (pe_ix ix_list (pv 5) (pv 6) (fun _ _ => rfl)) (pa_cons (pe_call CT.ok hr3 (by rfl) CT.g CT.kp CT.b .nil pass0 (pa_cons
              (pe_lc (own := [("chance", 8), ("target", 9)]) (g := gTup K 2 (gCons (gName 8) (gCons (gName 9) gNil))) (tt := tTest (tOp rEq (tVar 9) (tVar 3))) (te := tVar 8) rfl nd (pi_list (pe_ix ix_tup (pe_ix ix_list (pv 0) (pv 4) (fun _ _ => rfl)) pe_int (fun _ _ => rfl))) (blkOk_by (N := nShares) (sc := defScope sShares) (by decide +kernel))
                (fun _ _ _ _ _ => pg_tup rfl (pgs_cons (pg_name (i := 8) nd rfl (.inl rfl)) (pgs_cons (pg_name (i := 9) nd rfl (.inl rfl)) pgs_nil))) (fun _ _ _ _ _ => pts_one (pt_cmpR op_eq (pv 9) (pv 3) (nomark _))) (fun _ _ _ _ _ => pv 8)) pa_nil)) pa_nil))) (pg_sub (pv 5) (pv 6) set_list))))
        (pss_one (ps_expr (pe_bm PySem.F.plainAttrs_list PySem.F.slot_list_append PySem.F.type_list_append mt_append (pv 2) (pa_cons (pv 5) pa_nil)))))))
      (pss_one (ps_ret (pe_call CS.ok hr (by rfl) CS.g CS.kp CS.b .nil pass0 (pa_cons (pv 2) pa_nil))))), ?_⟩
    have k0 := L.k0
    have k6 : l.length ≤ 6 := Nat.le_trans (nd_len (l := l) (List.nodup_iff_pairwise_ne.mpr (List.pairwise_iff_getElem.mpr fun i j hi hj hij e => by
        have := L.inj i j hi hj (by unfold Mh.at_; rw [List.getD_eq_getElem?_getD, List.getD_eq_getElem?_getD, List.getElem?_eq_getElem hi, List.getElem?_eq_getElem hj]; exact e)
        omega)) (fun x hx => by obtain ⟨i, hi, e⟩ := Mh.mem_at hx; rw [← e]; exact L.lt i hi)) sz.n6
    obtain ⟨cvs, hcv, hcvl, hcp⟩ := id hC
    have nO : ∀ H, NumV K H (.ref tO) 1 := fun H => ⟨tO, rfl, T.wO _⟩
    have nN : ∀ H, NumV K H (.ref tN) 0 := fun H => ⟨tN, rfl, T.wN _⟩
    -- rows = [[ONE for _ in closed] + [ONE]]
    refine ⟨_, rfl, cl, rfl, ⟨_, .of hcl⟩, fun D hD => ?_⟩
    refine lc_list (K := K) (a := cl) (xs := ni l) (fun j H3 => Same H H3 ∧ RowN K H3 D (tab j (fun _ => 1))) ⟨same_upd hD, _, upd_same, .nil⟩ (fun j H3 _ ⟨s3, _⟩ => s3.seq (.of hcl)) ?_ ?_
    · rintro j x H3 hj ⟨s3, vs, eD, pD⟩
      have hjn : j < l.length := by have := (List.getElem?_eq_some_iff.mp hj).1; rw [ni_len] at this; exact this
      refine ⟨rfl, vs, eD, by rw [pD.length, tab_len]; exact small1000 (by omega), Ex.same ex_upd s3 hD, ?_⟩
      rw [tab_succ]
      exact RowN.snoc eD pD (.refl _) (nO _)
    rintro H3 ⟨s3, vs, eD, pD⟩
    rw [ni_len] at pD
    refine ⟨by show 1 ≤ sizeLine; decide, fun L1 hL1 => ?_⟩
    have sL1 := same_upd (o := .lst [V.ref tO]) hL1
    have lv : vs.length = l.length := by rw [pD.length, tab_len]
    refine ⟨D, L1, vs, [.ref tO], rfl, rfl, sL1 _ _ eD, upd_same, by rw [lv]; exact Nat.le_of_lt (small1000 (by show l.length + 1 ≤ 1000; omega)), fun r0 hr0 => ?_⟩
    have sr0 := same_upd (o := .lst (vs ++ [V.ref tO])) hr0
    refine ⟨by show 1 ≤ sizeLine; decide, fun R hR => ?_⟩
    have sR := same_upd (o := .lst [V.ref r0]) hR
    have s03 : Same H3 _ := (sL1.trans sr0).trans sR
    have nr0 : r0 ≠ R := fun e => by rw [← e, upd_same] at hR; cases hR
    have A0 : RowsAt K (upd (upd (upd H3 L1 (.lst [.ref tO])) r0 (.lst (vs ++ [.ref tO]))) R (.lst [.ref r0])) R [r0] 1 (l.length + 1) (Mh.shr C l.length (Mh.at_ l)) := by
      refine ⟨upd_same, rfl, fun i p e => ?_⟩
      have hi : i = 0 := by have := (List.getElem?_eq_some_iff.mp e).1; rw [List.length_singleton] at this; omega
      subst hi
      cases e
      refine ⟨nr0, vs ++ [.ref tO], by rw [upd_ne nr0, upd_same], ?_⟩
      have e1 : tab (l.length + 1) (Mh.shr C l.length (Mh.at_ l) 0) = tab l.length (fun _ => (1 : Rat)) ++ [1] := by
        rw [tab_succ]
        congr 1
      rw [e1]
      exact Paired.snoc (NumV.all pD s03) (nO _)
    have hRH : H R = none := ((s3.trans (sL1.trans sr0))).free hR
    have s4 := s3.trans s03
    generalize upd (upd (upd H3 L1 (.lst [.ref tO])) r0 (.lst (vs ++ [.ref tO]))) R (.lst [.ref r0]) = H4 at A0 s4 ⊢
    -- for place in closed[1:]
    refine ⟨_, rfl, 1, rfl, cl, _, rfl, .of (s4 _ _ hcl), fun c1 hc1 => ⟨c1, rfl, ⟨_, .of upd_same⟩, ?_⟩⟩
    rw [cut1, ni_drop]
    have sc1 := same_upd (o := .lst (ni (l.drop 1))) hc1
    have hcl1 : c1 ≠ R := fun e => by rw [e, A0.li] at hc1; cases hc1
    have ld : (l.drop 1).length = l.length - 1 := List.length_drop
    refine for_list (K := K) (a := c1) (xs := ni (l.drop 1)) (fun i σ H5 => ∃ (as : List Addr) (y3 y4 y5 y6 y7 y8 y9 : Option V), σ = [some (.ref a), some (.ref cl), some (.ref R), y3, y4, y5, y6, y7, y8, y9] ∧ Same H H5 ∧ H5 c1 = some (.lst (ni (l.drop 1))) ∧ RowsAt K H5 R as (i + 1) (l.length + 1) (Mh.shr C l.length (Mh.at_ l)))
      ⟨[r0], none, none, none, none, none, none, none, rfl, s4.trans sc1, upd_same, A0.same sc1⟩ (fun i σ H5 _ ⟨_, _, _, _, _, _, _, _, _, _, h, _⟩ => .of h) ?_ ?_
    · rintro i x σ H5 hi ⟨as, y3, y4, y5, y6, y7, y8, y9, rfl, s5, ec1, A5⟩
      have hin : i < (l.drop 1).length := by have := (List.getElem?_eq_some_iff.mp hi).1; rw [ni_len] at this; exact this
      rw [ni_get hin, at_drop] at hi
      cases hi
      have hik : i + 1 < l.length := by omega
      -- row
      refine ⟨_, rfl, cl, rfl, ⟨_, .of (s5 _ _ hcl)⟩, fun D2 hD2 => ?_⟩
      refine lc_list (K := K) (a := cl) (xs := ni l) (fun j H6 => Same H5 H6 ∧ RowN K H6 D2 (tab j (fun j => if Mh.at_ l j = Mh.at_ l (i + 1) then -1 else 0))) ⟨same_upd hD2, _, upd_same, .nil⟩ (fun j H6 _ ⟨s6, _⟩ => (s5.trans s6).seq (.of hcl)) ?_ ?_
      · rintro j x H6 hj ⟨s6, us, eD2, pD2⟩
        have hjn : j < l.length := by have := (List.getElem?_eq_some_iff.mp hj).1; rw [ni_len] at this; exact this
        rw [ni_get hjn] at hj
        cases hj
        have hsz : us.length < sizeLine := by rw [pD2.length, tab_len]; exact small1000 (by omega)
        refine ⟨rfl, _, rfl, _, rfl, rfl, _, rfl, ?_⟩
        by_cases e : Mh.at_ l j = Mh.at_ l (i + 1)
        · rw [decide_eq_true (congrArg (fun z : Nat => V.int (z : Int)) e)]
          refine iteT ⟨_, _, 0, 1, rfl, nN _, nO _, ⟨.zero (by decide), .one (by decide)⟩, fun H7 v7 s7 n7 => ⟨us, s7 _ _ eD2, hsz, Ex.same ex_upd (s6.trans s7) hD2, ?_⟩⟩
          rw [tab_succ, if_pos e]
          have n7' : NumV K H7 v7 (-1) := by
            have e : (0 : Rat) - 1 = -1 := by grind
            rw [← e]
            exact n7
          exact RowN.snoc eD2 pD2 s7 n7'
        · rw [decide_eq_false (fun z => e (by have := V.int.inj z; omega))]
          refine iteF ⟨us, eD2, hsz, Ex.same ex_upd s6 hD2, ?_⟩
          rw [tab_succ, if_neg e]
          exact RowN.snoc eD2 pD2 (.refl _) (nN _)
      rintro H6 ⟨s6, us, eD2, pD2⟩
      rw [ni_len] at pD2
      refine ⟨by show 1 ≤ sizeLine; decide, fun L2 hL2 => ?_⟩
      have sL2 := same_upd (o := .lst [V.ref tN]) hL2
      have lu : us.length = l.length := by rw [pD2.length, tab_len]
      refine ⟨D2, L2, us, [.ref tN], rfl, rfl, sL2 _ _ eD2, upd_same, by rw [lu]; exact Nat.le_of_lt (small1000 (by show l.length + 1 ≤ 1000; omega)), fun r hrn => ?_⟩
      have sr := same_upd (o := .lst (us ++ [V.ref tN])) hrn
      have s56 := (s6.trans sL2).trans sr
      have s7 := s5.trans s56
      have rr : RowN K (upd (upd H6 L2 (.lst [.ref tN])) r (.lst (us ++ [.ref tN]))) r (tab (l.length + 1) (shp C l.length (Mh.at_ l) (i + 1) 0)) := by
        refine ⟨_, upd_same, ?_⟩
        have e1 : tab (l.length + 1) (shp C l.length (Mh.at_ l) (i + 1) 0) = tab l.length (fun j => if Mh.at_ l j = Mh.at_ l (i + 1) then -1 else 0) ++ [0] := by
          rw [tab_succ]
          congr 1
          · refine tab_congr fun j hj => ?_
            unfold shp; rw [if_pos hj, if_neg (Nat.not_lt_zero _)]; grind
          · unfold shp; rw [if_neg (Nat.lt_irrefl _)]
        rw [e1]
        exact Paired.snoc (NumV.all pD2 (sL2.trans sr)) (nN _)
      have hrH : H r = none := (s5.trans (s6.trans sL2)).free hrn
      have hrR : r ≠ R := fun e => by
        have := (s6.trans sL2) _ _ A5.li
        rw [← e, hrn] at this
        cases this
      have hrc : c1 ≠ r := fun e => by
        have := (s6.trans sL2) _ _ ec1
        rw [e, hrn] at this
        cases this
      have har : ∀ (q : Nat) (p : Addr), as[q]? = some p → p ≠ r := fun q p e => by
        obtain ⟨_, vs, e1, _⟩ := A5.ro q p e
        exact ne_of_none ((s6.trans sL2) _ _ e1) hrn
      have A7 := A5.same s56
      have ec7 := s56 _ _ ec1
      generalize upd (upd H6 L2 (.lst [.ref tN])) r (.lst (us ++ [.ref tN])) = H7 at s56 s7 rr A7 ec7 ⊢
      -- for at, other in enumerate(closed)
      refine ⟨_, rfl, cl, _, rfl, .of (s7 _ _ hcl), ?_⟩
      refine for_it walk_enum (fun j σ H8 => ∃ (z4 z6 z7 z8 z9 : Option V), σ = [some (.ref a), some (.ref cl), some (.ref R), some (.int ((Mh.at_ l (i + 1) : Nat) : Int)), z4, some (.ref r), z6, z7, z8, z9] ∧ Same H H8 ∧ H8 c1 = some (.lst (ni (l.drop 1))) ∧ RowsAt K H8 R as (i + 1) (l.length + 1) (Mh.shr C l.length (Mh.at_ l)) ∧
          RowN K H8 r (tab (l.length + 1) (shp C l.length (Mh.at_ l) (i + 1) j)))
        ⟨_, _, _, _, _, rfl, s7, ec7, A7, rr⟩ (fun j σ H8 _ ⟨_, _, _, _, _, _, s8, _⟩ => .of (s8 _ _ hcl)) ?_ ?_
      · rintro j v σ H8 H9 hj ⟨z4, z6, z7, z8, z9, rfl, s8, ec8, A8, rv, er, pr⟩ ⟨T9, v1, v2, rfl, nT9, rfl, h1, h2⟩
        rw [ni_len] at hj
        have h2' : (ni l)[j]? = some v2 := h2
        rw [ni_get hj] at h2'
        cases h1
        cases h2'
        have sT := same_upd (o := .tup [V.int (j : Int), V.int ((Mh.at_ l j : Nat) : Int)]) nT9
        have s9 := s8.trans sT
        have hjn := L.lt j hj
        obtain ⟨rz, hrz, nrz⟩ := pgetr pr (tab_get (f := shp C l.length (Mh.at_ l) (i + 1) j) (show j < l.length + 1 by omega))
        have lrv : rv.length = l.length + 1 := by rw [pr.length, tab_len]
        have esh : shp C l.length (Mh.at_ l) (i + 1) j j = if Mh.at_ l j = Mh.at_ l (i + 1) then -1 else 0 := by
          unfold shp; rw [if_pos hj, if_neg (Nat.lt_irrefl _)]; grind
        refine ⟨T9, _, rfl, .of upd_same, rfl, _, _, rfl, _, _, rfl, rfl, ?_⟩
        obtain ⟨cv, hcvi⟩ : ∃ cv, cvs[Mh.at_ l j]? = some cv := ⟨_, List.getElem?_eq_getElem (by rw [hcvl]; exact hjn)⟩
        obtain ⟨t, gv, b, bs, rfl, ht, _, hb, hbp⟩ := hcp _ _ hcvi
        have hb6 := sz.bl _ hjn
        have hw := sz.w0 _ hjn
        refine ⟨_, rfl, _, rfl, r, _, _, rz, rfl, rfl, .of (sT _ _ er), atI_nat hrz, ?_⟩
        refine ⟨_, rfl, _, rfl, a, _, _, _, rfl, rfl, .of (s9 _ _ hcv), atI_nat hcvi, t, _, 2, .ref b, rfl, rfl, same_tup s9 ht, rfl, b, rfl, ⟨_, .of (s9 _ _ hb)⟩, fun D3 hD3 => ?_⟩
        refine lc_list (K := K) (a := b) (xs := bs) (fun m H10 => Same (upd H8 T9 (.tup [V.int (j : Int), V.int ((Mh.at_ l j : Nat) : Int)])) H10 ∧ RowN K H10 D3 (cto ((C.brs (Mh.at_ l j)).take m) (Mh.at_ l (i + 1)))) ⟨same_upd hD3, _, upd_same, .nil⟩ (fun m H10 _ ⟨s10, _⟩ => (s9.trans s10).seq (.of hb)) ?_ ?_
        · rintro m v H10 hm ⟨s10, us3, e3, p3⟩
          obtain ⟨⟨ch, tt⟩, hbm, t2, cv2, rfl, ht2, hch⟩ := pget hbp hm
          have s910 := s9.trans s10
          refine ⟨t2, [cv2, .int (tt : Int)], rfl, same_tup s910 ht2, rfl, cv2, [.int (tt : Int)], rfl, .int (tt : Int), [], rfl, rfl, rfl, _, rfl, _, rfl, rfl, _, rfl, ?_⟩
          rw [take_snoc hbm, cto_snoc]
          have hlen : us3.length ≤ 6 := by rw [p3.length]; exact Nat.le_trans (cto_len _ _) (by rw [List.length_take]; omega)
          by_cases e : tt = Mh.at_ l (i + 1)
          · rw [decide_eq_true (congrArg (fun z : Nat => V.int (z : Int)) e)]
            refine ⟨_, rfl, us3, e3, small1000 (by omega), Ex.same ex_upd s10 hD3, ?_⟩
            rw [if_pos e]
            exact RowN.snoc e3 p3 (.refl _) (hch.same s910)
          · rw [decide_eq_false (fun z => e (by have := V.int.inj z; omega))]
            refine iteF ⟨s10, ?_⟩
            rw [if_neg e]
            exact ⟨us3, e3, p3⟩
        · rintro H10 ⟨s10, us3, e3, p3⟩
          rw [hbp.length, List.take_length] at p3
          have hN : ((cto (C.brs (Mh.at_ l j)) (Mh.at_ l (i + 1))).length + 1) * wt (Mh.at_ l j) < 2 ^ 4000 := by
            have h1 := cto_len (C.brs (Mh.at_ l j)) (Mh.at_ l (i + 1))
            have h3 : ((cto (C.brs (Mh.at_ l j)) (Mh.at_ l (i + 1))).length + 1) * wt (Mh.at_ l j) ≤ 7 * 24 := Nat.mul_le_mul (by omega) hw.2
            exact Nat.lt_of_le_of_lt (Nat.le_trans h3 (show 7 * 24 ≤ 2 ^ 8 by decide)) (Nat.pow_lt_pow_right (by decide) (by decide))
          refine ⟨D3, us3, _, wt (Mh.at_ l j), wt (Mh.at_ l j), rfl, .of e3, p3, hw.1, Nat.lt_of_le_of_lt (Mh.le_pow5 hw.2) (Nat.pow_lt_pow_right (by decide) (by decide)), hN, fun q hq => ?_, fun H11 v11 s11 n11 => ?_⟩
          · obtain ⟨b', hb', rfl⟩ := cto_mem hq
            exact sz.ch ok hjn hb'
          rw [cto_sum] at n11
          have s811 := (sT.trans s10).trans s11
          have sz1 : Mh.Sz 4000 (shp C l.length (Mh.at_ l) (i + 1) j j) := by
            rw [esh]
            split
            · exact Mh.Sz.neg (.one (by decide))
            · exact .zero (by decide)
          have sz2 : Mh.Sz 4000 (Mh.cf (C.brs (Mh.at_ l j)) (Mh.at_ l (i + 1))) := by
            have hc := Mh.cf_le (ok.pos _ hjn) (ok.one _ hjn) (Mh.at_ l (i + 1))
            have h1 : Mh.Bd (wt (Mh.at_ l j) * 1) (wt (Mh.at_ l j) * 1) (Mh.cf (C.brs (Mh.at_ l j)) (Mh.at_ l (i + 1))) := sz.mean ok hjn fun b hb => by
              split
              · exact ⟨1, by rw [Rat.one_mul]; rfl, by decide⟩
              · exact .zero _ _
            rw [Nat.mul_one] at h1
            have h24 : wt (Mh.at_ l j) < 2 ^ 4000 := Nat.lt_of_le_of_lt (Mh.le_pow5 hw.2) (Nat.pow_lt_pow_right (by decide) (by decide))
            exact h1.sz hw.1 h24 h24
          refine ⟨rz, v11, _, _, rfl, nrz.same s811, n11, ⟨sz1, sz2⟩, fun H12 v12 s12 n12 => ?_⟩
          have s812 := s811.trans s12
          refine ⟨_, rfl, _, rfl, r, rv, _, j, rfl, rfl, s812 _ _ er, ixN_nat (by omega), ?_⟩
          refine ⟨_, _, _, _, _, rfl, Ex.same ex_upd (s8.trans s812) hrH, by rw [upd_ne hrc]; exact s812 _ _ ec8, (A8.same s812).ex ex_upd (s812 _ _ er) hrR.symm har, ?_⟩
          have := RowN.put (j := j) (s812 _ _ er) (NumV.all pr s812) n12
          rw [tab_congr (g := fun x => if x = j then shp C l.length (Mh.at_ l) (i + 1) j j + Mh.cf (C.brs (Mh.at_ l j)) (Mh.at_ l (i + 1)) else shp C l.length (Mh.at_ l) (i + 1) j x)]
          · exact this
          · intro x hx
            by_cases e : x = j
            · subst e
              rw [if_pos rfl, esh]
              unfold shp
              rw [if_pos hj, show (if x < x + 1 then Mh.cf (C.brs (Mh.at_ l x)) (Mh.at_ l (i + 1)) else 0) = Mh.cf (C.brs (Mh.at_ l x)) (Mh.at_ l (i + 1)) from if_pos (Nat.lt_succ_self x)]
            · rw [if_neg e]
              unfold shp
              by_cases h : x < l.length
              · rw [if_pos h, if_pos h]
                congr 1
                by_cases h3 : x < j
                · rw [if_pos h3, if_pos (by omega)]
                · rw [if_neg h3, if_neg (by omega)]
              · rw [if_neg h, if_neg h]
      · rintro σ H8 ⟨z4, z6, z7, z8, z9, rfl, s8, ec8, A8, rr8⟩
        rw [ni_len] at rr8
        refine ⟨_, rfl, .inl ⟨rfl, _, .of A8.li⟩, _, rfl, R, _, _, rfl, rfl, A8.li, by rw [List.length_map, A8.le]; exact small1000 (by omega), ?_⟩
        refine ⟨as ++ [r], _, _, _, _, _, _, _, rfl, Ex.same ex_upd s8 hRH, by rw [upd_ne hcl1]; exact ec8, A8.snoc hrR ?_⟩
        rw [tab_congr (g := shp C l.length (Mh.at_ l) (i + 1) l.length)]
        · exact rr8
        · intro x hx
          unfold Mh.shr shp
          rw [if_neg (by omega)]
          by_cases h : x < l.length
          · rw [if_pos h, if_pos h, show (if x < l.length then Mh.cf (C.brs (Mh.at_ l x)) (Mh.at_ l (i + 1)) else 0) = Mh.cf (C.brs (Mh.at_ l x)) (Mh.at_ l (i + 1)) from if_pos h]
          · rw [if_neg h, if_neg h]
    · rintro σ H5 ⟨as, y3, y4, y5, y6, y7, y8, y9, rfl, s5, ec1, A5⟩
      rw [ni_len, ld, Nat.sub_add_cancel k0] at A5
      have hela := Mh.shr_ela sz ok L
      refine ⟨_, rfl, R, as, l.length, _, _, 0, rfl, A5.mat, k6, fun j hj => ?_, ?_, ?_, by decide, hela, fun H6 p x s6 hp hx hsat hbd => ?_⟩
      · rw [if_pos hj]; have := sz.w0 _ (L.lt j hj); omega
      · rw [if_neg (Nat.lt_irrefl _)]; decide
      · rw [if_neg (Nat.lt_irrefl _)]; exact Nat.one_le_two_pow
      · obtain ⟨h1, h2⟩ := Mh.shr_sty L hsat
        obtain ⟨Dn, d0, d1, d2⟩ := hbd
        rw [if_neg (Nat.lt_irrefl _), Nat.mul_one, Nat.zero_add] at d2
        exact k H6 p x (s5.trans s6) (s5.free hp) hx h1 h2 ⟨Dn, d0, d1, d2⟩
end
end Mw
set_option Elab.async false
set_option linter.all false
set_option maxRecDepth 100000
set_option autoImplicit false
namespace Mw
open PySem PySem.Spec PyProof.Rows L2
/-! ### dicts that are filled -/
def DictB (K : PySem.W.Frag) (H : Hp) (d : Addr) (dom : Nat → Prop) (kn : Nat → Rat) (m : Nat) : Prop := ∃ kvs : List (Key × V), H d = some (.dK kvs) ∧ kvs.length ≤ m ∧
  ∀ t : Nat, (dom t ∧ ∃ v, valV kvs (Sum.inl (t : Int)) = some v ∧ NumV K H v (kn t)) ∨ (¬ dom t ∧ valV kvs (Sum.inl (t : Int)) = none)
theorem DictB.dictN {K : PySem.W.Frag} {H : Hp} {d : Addr} {dom : Nat → Prop} {kn : Nat → Rat} {m : Nat} (h : DictB K H d dom kn m) (hm : m ≤ 500) : DictN K H d dom kn := by
  obtain ⟨kvs, e, hl, h⟩ := h
  exact ⟨kvs, e, Nat.le_trans hl hm, h⟩
theorem DictB.same {K : PySem.W.Frag} {H H' : Hp} {d : Addr} {dom : Nat → Prop} {kn : Nat → Rat} {m : Nat} (h : DictB K H d dom kn m) (s : Same H H') : DictB K H' d dom kn m := by
  obtain ⟨kvs, e, hl, h⟩ := h
  refine ⟨kvs, s _ _ e, hl, fun t => ?_⟩
  rcases h t with ⟨a, v, b, c⟩ | z
  · exact .inl ⟨a, v, b, c.same s⟩
  · exact .inr z
theorem NumV.exd {K : PySem.W.Frag} {H : Hp} {v : V} {q : Rat} {d : Addr} {o : HO} {kvs : List (Key × V)} (h : NumV K H v q) (hd : H d = some (.dK kvs)) : NumV K (upd H d o) v q := by
  obtain ⟨t, e, h⟩ := h
  refine ⟨t, e, ?_⟩
  rcases h with (h | ⟨u, h⟩) | h
  · exact .inl (.inl (by rw [upd_ne (ne_of h hd (by intro z; cases z))]; exact h))
  · exact .inl (.inr ⟨u, by rw [upd_ne (ne_of h hd (by intro z; cases z))]; exact h⟩)
  · exact .inr h
theorem NumV.exn {K : PySem.W.Frag} {H H' : Hp} {v : V} {q : Rat} {d : Addr} {kvs : List (Key × V)} (h : NumV K H v q) (s : Ex d H H') (hd : H d = some (.dK kvs)) : NumV K H' v q := by
  obtain ⟨t, e, h⟩ := h
  refine ⟨t, e, ?_⟩
  rcases h with (h | ⟨u, h⟩) | h
  · exact .inl (.inl (s _ _ h (ne_of h hd (by intro z; cases z))))
  · exact .inl (.inr ⟨u, s _ _ h (ne_of h hd (by intro z; cases z))⟩)
  · exact .inr h
theorem inl_ne {a b : Nat} (h : a ≠ b) : ¬ (Sum.inl (a : Int) : Key) = Sum.inl (b : Int) := fun e => h (by injection e with e; omega)
theorem DictB.put {K : PySem.W.Frag} {H : Hp} {d : Addr} {dom : Nat → Prop} {kn : Nat → Rat} {m t : Nat} {v : V} {q : Rat} (h : DictB K H d dom kn m) (hm : m ≤ 500) (n : NumV K H v q) :
    ∃ H', DPut H d (.int (t : Int)) v H' ∧ (∃ o, H' = upd H d o) ∧ DictB K H' d (fun s => s = t ∨ dom s) (fun s => if s = t then q else kn s) (m + 1) := by
  obtain ⟨kvs, e, hl, h⟩ := h
  refine ⟨_, DPut.k (k := Sum.inl (t : Int)) e (small1000 (by omega)), ⟨_, rfl⟩, _, upd_same, Nat.le_trans (length_putK kvs _ v) (by omega), fun s => ?_⟩
  by_cases hs : s = t
  · subst hs
    refine .inl ⟨.inl rfl, v, by rw [valV_put, if_pos rfl], ?_⟩
    show NumV K _ v (if s = s then q else kn s)
    rw [if_pos rfl]
    exact n.exd e
  · rcases h s with ⟨a, u, b, c⟩ | ⟨a, b⟩
    · refine .inl ⟨.inr a, u, by rw [valV_put, if_neg (inl_ne hs)]; exact b, ?_⟩
      show NumV K _ u (if s = t then q else kn s)
      rw [if_neg hs]
      exact c.exd e
    · exact .inr ⟨fun z => z.elim hs a, by rw [valV_put, if_neg (inl_ne hs)]; exact b⟩
theorem DictB.congr {K : PySem.W.Frag} {H : Hp} {d : Addr} {dom dom' : Nat → Prop} {kn kn' : Nat → Rat} {m : Nat} (h : DictB K H d dom kn m) (hd : ∀ t, dom t ↔ dom' t) (hk : ∀ t, kn t = kn' t) : DictB K H d dom' kn' m := by
  obtain ⟨kvs, e, hl, h⟩ := h
  refine ⟨kvs, e, hl, fun t => ?_⟩
  rw [← hk, ← hd]
  exact h t
theorem Same.upd {H H' : Hp} {d : Addr} {o : HO} (s : Same H H') (h : H d = none) : Same H (upd H' d o) := fun b u e => by
  rw [upd_ne (ne_of_none e h)]
  exact s b u e
section
variable {P : Program} {w : World} {K : PySem.W.Frag} {mg : Str → Option Value} {base : Heap}
/-! ### weighed_by -/
abbrev sWeighed : Stmt := topS 21
abbrev nWeighed : List Str := ["shares", "numbers", "share", "one"]
theorem scWeighed : FnScope nWeighed ["shares", "numbers"] (defScope sWeighed) := ⟨rfl, rfl, rfl, by decide +kernel, rfl, by decide +kernel, by decide +kernel⟩
def spWeighed (K : PySem.W.Frag) : Sp := fun vs H Q _ => ∃ (a b : Addr) (f r : Nat → Rat) (n B N : Nat), vs = [.ref a, .ref b] ∧ RowN K H a (tab n f) ∧ RowN K H b (tab n r) ∧ n ≤ 100 ∧ (∀ j, j < n → Z4 (f j) (r j)) ∧ 0 < B ∧ B < 2 ^ 4000 ∧ (n + 1) * N < 2 ^ 4000 ∧ (∀ j, j < n → Mh.Bd B N (f j * r j)) ∧
  ∀ H' v, Same H H' → NumV K H' v (Mh.sm n (fun j => f j * r j)) → Q v H'
theorem cal_weighed {f fM fT : Addr} {fd fdM fdT : FuncData} (F : Fun K "weighed_by" "weighed_by" sWeighed f fd) (g : mg "weighed_by" = some (.ref f)) (B : Bi mg)
    (CM : Cal P w K mg base "times" ["a", "b"] 2 fM fdM (spBin K (· * ·) Z4)) (CT : Cal P w K mg base "total" ["numbers"] 3 fT fdT (spTotal K)) : Cal P w K mg base "weighed_by" ["shares", "numbers"] 4 f fd (spWeighed K) := by
  refine ⟨g, F.kp, F.binds fun _ _ _ _ _ _ us hl => match us, hl with | [_, _], _ => rfl, ?_⟩
  refine F.ok scWeighed (fun vs H Q E h => ?_) (fun cdv A outer s H vs Q E hr h => ?_)
  · obtain ⟨a, b, f, r, n, B, N, rfl, _⟩ := h
    rfl
  · obtain ⟨a, b, f, r, n, Bn, N, rfl, ⟨va, ea, pa⟩, ⟨vb, eb, pb⟩, hn, hz, b0, b1, b2, hb, k⟩ := h
    have hr2 : Room 2 _ := hr.mono (by decide)
    have nd := scWeighed.nd
    refine ⟨_, pss_one (ps_ret (pe_call CT.ok hr (by rfl) CT.g CT.kp CT.b .nil pass0 (pa_cons (pe_lc (own := [("share", 2), ("one", 3)]) (g := gTup K 2 (gCons (gName 2) (gCons (gName 3) gNil))) (tt := tYes) (te := tCall (spBin K (· * ·) Z4) [] E0 (tCons (tVar 2) (tCons (tVar 3) tNil))) rfl nd
      (pi_zip (by rfl) B.zip (pa_cons (pv 0) (pa_cons (pv 1) pa_nil))) (blkOk_by (N := nWeighed) (sc := defScope sWeighed) (by decide +kernel)) (fun _ _ _ _ _ => pg_tup rfl (pgs_cons (pg_name (i := 2) nd rfl (.inl rfl)) (pgs_cons (pg_name (i := 3) nd rfl (.inl rfl)) pgs_nil))) (fun _ _ _ _ _ => pts_nil)
      (fun _ _ _ _ _ => pe_call CM.ok hr2 (by rfl) CM.g CM.kp CM.b .nil pass0 (pa_cons (pv 2) (pa_cons (pv 3) pa_nil)))) pa_nil))), ?_⟩
    have la : va.length = n := by rw [pa.length, tab_len]
    have lb : vb.length = n := by rw [pb.length, tab_len]
    refine ⟨_, rfl, _, rfl, a, b, va, vb, rfl, .of ea, .of eb, fun D hD => lc_it (walk_zip (n := n) (by omega)) (fun i H2 => Same H H2 ∧ RowN K H2 D (tab i (fun j => f j * r j))) ⟨same_upd hD, _, upd_same, .nil⟩ (fun i H2 _ ⟨s2, _⟩ => ⟨s2.seq (.of ea), s2.seq (.of eb)⟩) ?_ ?_⟩
    · rintro i x H2 H3 hi ⟨s2, vs, eD, pD⟩ ⟨T, x1, x2, rfl, nT, rfl, hx1, hx2⟩
      obtain ⟨q1, hq1, n1⟩ := pget pa hx1
      obtain ⟨q2, hq2, n2⟩ := pget pb hx2
      rw [tab_get hi] at hq1 hq2
      cases hq1
      cases hq2
      have sT : Same H2 (upd H2 T (.tup [x1, x2])) := same_upd nT
      have s3 := s2.trans sT
      refine ⟨T, [x1, x2], rfl, .of upd_same, rfl, x1, [x2], rfl, x2, [], rfl, rfl, rfl, ?_⟩
      refine ⟨_, rfl, _, rfl, x1, x2, _, _, rfl, n1.same s3, n2.same s3, hz i hi, fun H4 v4 s4 n4 => ?_⟩
      have s6 := sT.trans s4
      refine ⟨vs, s6 _ _ eD, ?_, Ex.same ex_upd (s2.trans s6) hD, ?_⟩
      · rw [pD.length, tab_len]; exact small1000 (by omega)
      · rw [tab_succ]
        exact RowN.snoc eD pD s6 n4
    · rintro H2 ⟨s2, vs, eD, pD⟩
      refine ⟨D, vs, _, Bn, N, rfl, .of eD, pD, b0, b1, by rw [tab_len]; exact b2, fun q hq => ?_, fun H3 v s3 n3 => ?_⟩
      · obtain ⟨j, hj, rfl⟩ := tab_mem hq
        exact hb j hj
      · rw [tab_sum] at n3
        exact k H3 v (s2.trans s3) n3
/-! ### with_rest -/
abbrev sRest : Stmt := topS 22
abbrev nRest : List Str := ["chain", "known", "extras", "place", "others", "found", "one"]
theorem scRest : FnScope nRest ["chain", "known", "extras"] (defScope sRest) := ⟨rfl, rfl, rfl, by decide +kernel, rfl, by decide +kernel, by decide +kernel⟩
def spRest (K : PySem.W.Frag) : Sp := fun vs H Q _ => ∃ (a kd ex : Addr) (C : Mh.Ch) (wt : Nat → Nat) (dom : Nat → Prop) (kn ext : Nat → Rat) (B y m : Nat), vs = [.ref a, .ref kd, .ref ex] ∧ ChAt K H a C ∧ DictB K H kd dom kn m ∧ m ≤ 400 ∧ RowN K H ex (tab C.n ext) ∧ MetOk C wt (Mh.oth C.n dom) dom kn ext B y ∧
  ∀ H' p F, Same H H' → H p = none → RowN K H' p (tab C.n F) → (∀ x, x < C.n → dom x → F x = kn x) → (∀ x, x < C.n → ¬ dom x → F x = ext x + Mh.bm (C.brs x) F) →
    (∃ D : Nat, 0 < D ∧ D ≤ 2 ^ (63 * (Mh.oth C.n dom).length) ∧ ∀ x, x < C.n → ¬ dom x → Mh.Bd (D * B) (2 ^ (y + 6 + 63 * (Mh.oth C.n dom).length)) (F x)) → Q (.ref p) H'
theorem cal_rest {f fM : Addr} {fd fdM : FuncData} (F : Fun K "with_rest" "with_rest" sRest f fd) (g : mg "with_rest" = some (.ref f)) (B : Bi mg) (CM : Cal P w K mg base "met" ["chain", "places", "known", "extras"] 5 fM fdM (spMet K)) : Cal P w K mg base "with_rest" ["chain", "known", "extras"] 6 f fd (spRest K) := by
  refine ⟨g, F.kp, F.binds fun _ _ _ _ _ _ us hl => match us, hl with | [_, _, _], _ => rfl, ?_⟩
  refine F.ok scRest (fun vs H Q E h => ?_) (fun cdv A outer s H vs Q E hr h => ?_)
  · obtain ⟨a, kd, ex, C, wt, dom, kn, ext, B, y, m, rfl, _⟩ := h
    rfl
  · obtain ⟨a, kd, ex, C, wt, dom, kn, ext, Bn, y, m, rfl, hC, hkd, hm, hex, M, k⟩ := h
    have hu := hu_of hr
    have nd := scRest.nd
    refine ⟨_, pss_cons (ps_setLc (i := 4) (own := [("place", 3)]) (g := gName 3) (tt := tB (tDNotIn (tVar 3) (tVar 1))) (te := tVar 3) rfl nd rfl rfl (sw_true rfl rfl rfl (by decide +kernel)) (pi_range1 rfl B.range (pa_cons (pe_callB call_len_seq (by rfl) B.len PySem.boot_len (pa_cons (pv 0) pa_nil)) pa_nil))
        (blkOk_by (N := nRest) (sc := defScope sRest) (by decide +kernel)) (fun _ _ _ _ _ => pg_name (i := 3) nd rfl (.inl rfl)) (fun _ _ _ _ _ => pts_one (pt_cmp (pc_dnotin hu (pv 3) (pv 1)))) (fun _ _ _ _ _ => pv 3))
      (pss_cons (ps_set (i := 5) nd rfl (.inr rfl) (pe_callTy call_dictD (by rfl) B.dict (by decide +kernel) (pa_cons (pv 1) pa_nil)))
      (pss_cons (ps_for PassesOwn.never rfl (pi_zip (by rfl) B.zip (pa_cons (pv 4) (pa_cons (pe_call CM.ok hr (by rfl) CM.g CM.kp CM.b .nil pass0 (pa_cons (pv 0) (pa_cons (pv 4) (pa_cons (pv 1) (pa_cons (pv 2) pa_nil))))) pa_nil)))
          (pg_tup rfl (pgs_cons (pg_name (i := 3) nd rfl (.inl rfl)) (pgs_cons (pg_name (i := 6) nd rfl (.inl rfl)) pgs_nil)))
        (pss_one (ps_dput hu (pv 5) (pv 3) (pv 6) rfl)))
      (pss_one (ps_ret (pe_lc (own := [("place", 3)]) (g := gName 3) (tt := tYes) (te := tDGet (tVar 5) (tVar 3)) rfl nd (pi_range1 rfl B.range (pa_cons (pe_callB call_len_seq (by rfl) B.len PySem.boot_len (pa_cons (pv 0) pa_nil)) pa_nil))
        (blkOk_by (N := nRest) (sc := defScope sRest) (by decide +kernel)) (fun _ _ _ _ _ => pg_name (i := 3) nd rfl (.inl rfl)) (fun _ _ _ _ _ => pts_nil) (fun _ _ _ _ _ => pe_dget hu (pv 5) (pv 3) (fun _ _ => rfl))))))), ?_⟩
    obtain ⟨cvs, hcv, hcl, _⟩ := id hC
    obtain ⟨kvs, hkv, hkl, hkt⟩ := id hkd
    have n6 := M.sz.n6
    -- others
    refine ⟨_, rfl, a, _, rfl, .inl (.of hcv), _, rfl, by rw [hcl]; omega, by rw [hcl]; omega, fun D hD => ?_⟩
    rw [hcl, show (C.n : Int).toNat = C.n from rfl]
    refine lc_range (lo := 0) (n := C.n) (fun i H2 => Same H H2 ∧ H2 D = some (.lst (ni (Mh.oth i dom)))) ⟨same_upd hD, upd_same⟩ ?_ ?_
    · rintro i H2 hi ⟨s2, eD⟩
      rw [show (0 : Int) + (i : Int) = (i : Int) from Int.zero_add _]
      refine ⟨rfl, _, rfl, _, rfl, kd, _, rfl, DGet.k (k := Sum.inl (i : Int)) (s2 _ _ hkv), _, rfl, ?_⟩
      have hlen : (Mh.oth i dom).length ≤ i := Mh.nd_bound (Mh.oth_nd _ _) fun x hx => (Mh.oth_mem.mp hx).1
      rcases hkt i with ⟨hd, v, hv, nv⟩ | ⟨hd, hv⟩
      · rw [hv]
        refine iteF ⟨s2, ?_⟩
        rw [Mh.oth_succ, if_neg (fun z => (@of_decide_eq_true _ (Classical.propDecidable _) z) hd), List.append_nil]
        exact eD
      · rw [hv]
        refine ⟨_, rfl, _, eD, by rw [ni_len]; exact small1000 (by omega), Ex.same ex_upd s2 hD, ?_⟩
        rw [upd_same, Mh.oth_succ, if_pos (@decide_eq_true _ (Classical.propDecidable _) hd), ni_app]
        rfl
    rintro H2 ⟨s2, eD⟩
    -- found = dict(known)
    refine ⟨_, rfl, kd, kvs, rfl, .of (s2 _ _ hkv), fun fo hfo => ?_⟩
    have sf := same_upd (o := .dK kvs) hfo
    have s3 := s2.trans sf
    have hfoH : H fo = none := s2.free hfo
    have B3 : DictB K (upd H2 fo (.dK kvs)) fo dom kn m := ⟨kvs, upd_same, hkl, fun t => by
      rcases hkt t with ⟨a, v, b, c⟩ | z
      · exact .inl ⟨a, v, b, c.same s3⟩
      · exact .inr z⟩
    have eD3 := sf _ _ eD
    generalize upd H2 fo (.dK kvs) = H3 at s3 B3 eD3 ⊢
    -- the loop over zip(others, met(..))
    have dN : DictN K H kd dom kn := hkd.dictN (by omega)
    refine ⟨_, rfl, _, rfl, _, rfl, _, rfl, _, rfl, a, D, kd, ex, C, wt, Mh.oth C.n dom, dom, kn, ext, Bn, y, rfl, hC.same s3, eD3, dN.same s3, hex.same s3, M, fun H4 p x s4 hp hx hful hbd => ?_⟩
    obtain ⟨xvs, exv, pxv⟩ := hx
    have lx : xvs.length = (Mh.oth C.n dom).length := by rw [pxv.length, tab_len]
    have s34 := s3.trans s4
    have ko : (Mh.oth C.n dom).length ≤ 6 := Nat.le_trans (Mh.nd_bound (Mh.oth_nd _ _) fun x hx => (Mh.oth_mem.mp hx).1) n6
    have inj := Mh.at_inj' (Mh.oth_nd C.n dom)
    refine ⟨D, p, ni (Mh.oth C.n dom), xvs, rfl, .of (s4 _ _ eD3), .of exv, ?_⟩
    have npf : p ≠ fo := fun e => by
      obtain ⟨kvs', ek, _⟩ := B3
      rw [e, ek] at hp
      cases hp
    have nDf : D ≠ fo := fun e => by
      obtain ⟨kvs', ek, _⟩ := B3
      rw [← e, eD3] at ek
      cases ek
    have kv4 := B3.same s4
    obtain ⟨kvs4, ek4, _⟩ := id kv4
    refine for_it (walk_zip (n := (Mh.oth C.n dom).length) (by rw [ni_len, lx, Nat.min_self])) (fun i σ H5 => ∃ (y3 y6 : Option V), σ = [some (.ref a), some (.ref kd), some (.ref ex), y3, some (.ref D), some (.ref fo), y6] ∧ Ex fo H4 H5 ∧
        DictB K H5 fo (fun t => t ∈ (Mh.oth C.n dom).take i ∨ dom t) (fun t => if t ∈ (Mh.oth C.n dom).take i then Mh.ful (Mh.oth C.n dom).length (Mh.at_ (Mh.oth C.n dom)) kn x t else kn t) (m + i))
      ⟨_, _, rfl, Same.ex (Same.refl H4) fo, kv4.congr (fun t => by simp) (fun t => by simp)⟩ (fun i σ H5 _ ⟨_, _, _, h1, _⟩ => ⟨.of (h1 _ _ (s4 _ _ eD3) nDf), .of (h1 _ _ exv npf)⟩) ?_ ?_
    · rintro i v σ H5 H6 hi ⟨y3, y6, rfl, e5, B5⟩ ⟨T, v1, v2, rfl, nT, rfl, h1, h2⟩
      have h1' : (ni (Mh.oth C.n dom))[i]? = some v1 := h1
      rw [ni_get hi] at h1'
      cases h1'
      obtain ⟨q, hq, nq⟩ := pget pxv h2
      rw [tab_get hi] at hq
      cases hq
      have sT := same_upd (o := .tup [V.int ((Mh.at_ (Mh.oth C.n dom) i : Nat) : Int), v2]) nT
      have nq5 := (nq.exn e5 ek4).same sT
      have hti : (Mh.oth C.n dom)[i]? = some (Mh.at_ (Mh.oth C.n dom) i) := by unfold Mh.at_; rw [List.getD_eq_getElem?_getD, List.getElem?_eq_getElem hi]; rfl
      obtain ⟨H7, hput, ⟨o7, rfl⟩, B7⟩ := (B5.same sT).put (t := Mh.at_ (Mh.oth C.n dom) i) (by omega) nq5
      refine ⟨T, _, rfl, .of upd_same, rfl, _, _, rfl, _, _, rfl, rfl, ?_⟩
      refine ⟨_, rfl, _, rfl, _, rfl, fo, _, rfl, hput, _, _, rfl, (e5.trans (Same.ex sT fo)).trans ex_upd, B7.congr (fun t => ?_) (fun t => ?_)⟩
      · rw [take_snoc hti, List.mem_append, List.mem_singleton]
        constructor
        · rintro (h | h | h)
          · exact .inl (.inr h)
          · exact .inl (.inl h)
          · exact .inr h
        · rintro ((h | h) | h)
          · exact .inr (.inl h)
          · exact .inl h
          · exact .inr (.inr h)
      · show (if t = Mh.at_ (Mh.oth C.n dom) i then x i else if t ∈ (Mh.oth C.n dom).take i then _ else kn t) = if t ∈ (Mh.oth C.n dom).take (i + 1) then _ else kn t
        rw [take_snoc hti]
        by_cases e : t = Mh.at_ (Mh.oth C.n dom) i
        · rw [if_pos e, if_pos (List.mem_append.mpr (.inr (List.mem_singleton.mpr e))), e, Mh.ful_at inj hi (M.kz _ (M.nk _ (Mh.at_mem hi)))]
        · rw [if_neg e]
          by_cases e2 : t ∈ (Mh.oth C.n dom).take i
          · rw [if_pos e2, if_pos (List.mem_append.mpr (.inl e2))]
          · rw [if_neg e2, if_neg (fun z => (List.mem_append.mp z).elim e2 fun z => e (List.mem_singleton.mp z))]
    · rintro σ H5 ⟨y3, y6, rfl, e5, B5⟩
      rw [List.take_length] at B5
      have s5 : Same H H5 := e5.same s34 hfoH
      have hF : ∀ t, t < C.n → (if t ∈ Mh.oth C.n dom then Mh.ful (Mh.oth C.n dom).length (Mh.at_ (Mh.oth C.n dom)) kn x t else kn t) = Mh.ful (Mh.oth C.n dom).length (Mh.at_ (Mh.oth C.n dom)) kn x t := fun t _ => by
        by_cases e : t ∈ Mh.oth C.n dom
        · rw [if_pos e]
        · rw [if_neg e, Mh.ful_out fun j hj (z : t = _) => e (z ▸ Mh.at_mem hj)]
      obtain ⟨kvs5, ek5, hl5, ht5⟩ := id B5
      have hcv5 := s5 _ _ hcv
      refine ⟨_, rfl, a, _, rfl, .inl (.of hcv5), _, rfl, by rw [hcl]; omega, by rw [hcl]; omega, fun D9 hD9 => ?_⟩
      rw [hcl, show (C.n : Int).toNat = C.n from rfl]
      refine lc_range (lo := 0) (n := C.n) (fun i H6 => Same H5 H6 ∧ RowN K H6 D9 (tab i (Mh.ful (Mh.oth C.n dom).length (Mh.at_ (Mh.oth C.n dom)) kn x))) ⟨same_upd hD9, _, upd_same, .nil⟩ ?_ ?_
      · rintro i H6 hi ⟨s6, vs, eD9, pD9⟩
        rw [show (0 : Int) + (i : Int) = (i : Int) from Int.zero_add _]
        have hdi : i ∈ Mh.oth C.n dom ∨ dom i := by
          by_cases hd : dom i
          · exact .inr hd
          · exact .inl (Mh.oth_mem.mpr ⟨hi, hd⟩)
        rcases ht5 i with ⟨_, v, hv, nv⟩ | ⟨hd, _⟩
        · have dge : DGet H6 fo (kV (Sum.inl (i : Int))) (valV kvs5 (Sum.inl (i : Int))) := DGet.k (s6 _ _ ek5)
          rw [hv] at dge
          refine ⟨rfl, _, rfl, _, rfl, fo, v, rfl, dge, vs, eD9, by rw [pD9.length, tab_len]; exact small1000 (by omega), Ex.same ex_upd s6 hD9, ?_⟩
          rw [tab_succ, ← hF i hi]
          exact RowN.snoc eD9 pD9 (.refl _) (nv.same s6)
        · exact absurd hdi hd
      · rintro H6 ⟨s6, r6⟩
        refine k H6 D9 _ (s5.trans s6) (s5.free hD9) r6 (fun t ht hd => Mh.ful_out fun j hj (e : t = _) => (Mh.oth_mem.mp (e ▸ Mh.at_mem hj : t ∈ Mh.oth C.n dom)).2 hd) (fun t ht hd => ?_) ?_
        · obtain ⟨j, hj, rfl⟩ := Mh.mem_at (Mh.oth_mem.mpr ⟨ht, hd⟩)
          exact hful j hj
        · obtain ⟨Dn, d0, d1, d2⟩ := hbd
          refine ⟨Dn, d0, d1, fun t ht hd => ?_⟩
          obtain ⟨j, hj, rfl⟩ := Mh.mem_at (Mh.oth_mem.mpr ⟨ht, hd⟩)
          rw [Mh.ful_at inj hj (M.kz _ hd)]
          exact d2 j hj
end
end Mw
set_option Elab.async false
set_option linter.all false
set_option maxRecDepth 100000
set_option autoImplicit false
namespace Mw
open PySem PySem.Spec PyProof.Rows L2
theorem p2 {a b : Nat} (h : a < b) : 2 ^ a < 2 ^ b := Nat.pow_lt_pow_right (by decide) h
theorem p2l {a b : Nat} (h : a ≤ b) : 2 ^ a ≤ 2 ^ b := Nat.pow_le_pow_right (by decide) h
theorem cls_mem {cls : List (List Nat)} {i : Nat} {cl : List Nat} (h : cls[i]? = some cl) : cl ∈ cls := List.mem_of_getElem? h
theorem flat_take {cls : List (List Nat)} {i : Nat} {cl : List Nat} (h : cls[i]? = some cl) : (cls.take (i + 1)).flatten = (cls.take i).flatten ++ cl := by
  rw [take_snoc h, List.flatten_append, List.flatten_cons, List.flatten_nil, List.append_nil]
theorem flat_apart {C : Mh.Ch} {cls : List (List Nat)} (K : Mh.Clss C cls) {i : Nat} {cl : List Nat} (h : cls[i]? = some cl) {t : Nat} (h1 : t ∈ (cls.take i).flatten) : t ∉ cl := by
  have hnd := K.nd
  have : (cls.take (i + 1)).flatten.Nodup := by
    have e : cls.flatten = (cls.take (i + 1)).flatten ++ (cls.drop (i + 1)).flatten := by rw [← List.flatten_append, List.take_append_drop]
    rw [e] at hnd
    exact (List.nodup_append.mp hnd).1
  rw [flat_take h] at this
  exact fun h2 => (List.nodup_append.mp this).2.2 t h1 t h2 rfl
theorem flat_sub {cls : List (List Nat)} {i : Nat} {t : Nat} (h : t ∈ (cls.take i).flatten) : t ∈ cls.flatten := by
  obtain ⟨cl, hcl, ht⟩ := List.mem_flatten.mp h
  exact List.mem_flatten.mpr ⟨cl, List.mem_of_mem_take hcl, ht⟩
theorem flat_len {C : Mh.Ch} {cls : List (List Nat)} (K : Mh.Clss C cls) (i : Nat) : (cls.take i).flatten.length ≤ C.n := by
  have hnd := K.nd
  have e : cls.flatten = (cls.take i).flatten ++ (cls.drop i).flatten := by rw [← List.flatten_append, List.take_append_drop]
  rw [e] at hnd
  exact Mh.nd_bound (List.nodup_append.mp hnd).1 fun x hx => K.lt (flat_sub hx)
theorem clen {C : Mh.Ch} {k : Nat} {p : Nat → Nat} (L : Mh.Cls C k p) : k ≤ C.n := by
  have := Mh.nd_bound (l := tab k p) (n := C.n) ?_ ?_
  · rw [tab_len] at this; exact this
  · refine List.pairwise_iff_getElem.mpr fun i j hi hj hij e => ?_
    rw [tab_len] at hi hj
    have h1 := tab_get (f := p) hi
    have h2 := tab_get (f := p) hj
    rw [List.getElem?_eq_getElem (by rw [tab_len]; exact hi)] at h1
    rw [List.getElem?_eq_getElem (by rw [tab_len]; exact hj)] at h2
    have := L.inj i j hi hj ((Option.some.inj h1).symm.trans (e.trans (Option.some.inj h2)))
    omega
  · intro x hx
    obtain ⟨j, hj, rfl⟩ := tab_mem hx
    exact L.lt j hj
section
variable {P : Program} {w : World} {K : PySem.W.Frag} {mg : Str → Option Value} {base : Heap}
/-! ### long_gains -/
abbrev sLong : Stmt := topS 23
abbrev nLong : List Str := ["chain", "known", "closed", "place", "gain", "_"]
theorem scLong : FnScope nLong ["chain"] (defScope sLong) := ⟨rfl, rfl, rfl, by decide +kernel, rfl, by decide +kernel, by decide +kernel⟩
def spLong (K : PySem.W.Frag) : Sp := fun vs H Q _ => ∃ (a : Addr) (C : Mh.Ch) (wt : Nat → Nat), vs = [.ref a] ∧ ChAt K H a C ∧ C.Ok ∧ C.Sized wt ∧
  ∀ H' p g, Same H H' → H p = none → RowN K H' p (tab C.n g) → Mh.LG C (Mh.clsOf C) g → (∃ F : Nat, 0 < F ∧ F ≤ 2 ^ 378 ∧ ∀ x, x < C.n → Mh.Bd (10 * F) (2 ^ 396) (g x)) → Q (.ref p) H'
theorem cal_long {f fC fS fW fR tN tO : Addr} {fd fdC fdS fdW fdR : FuncData} (F : Fun K "long_gains" "long_gains" sLong f fd) (g : mg "long_gains" = some (.ref f)) (T : Con0 K mg tN tO)
    (CC : Cal P w K mg base "closed_classes" ["chain"] 3 fC fdC (spClosed K)) (CS : Cal P w K mg base "shares_in" ["chain", "closed"] 5 fS fdS (spShares K)) (CW : Cal P w K mg base "weighed_by" ["shares", "numbers"] 4 fW fdW (spWeighed K)) (CR : Cal P w K mg base "with_rest" ["chain", "known", "extras"] 6 fR fdR (spRest K)) :
    Cal P w K mg base "long_gains" ["chain"] 7 f fd (spLong K) := by
  refine ⟨g, F.kp, F.binds fun _ _ _ _ _ _ us hl => match us, hl with | [_], _ => rfl, ?_⟩
  refine F.ok scLong (fun vs H Q E h => ?_) (fun cdv A outer s H vs Q E hr h => ?_)
  · obtain ⟨a, C, wt, rfl, _⟩ := h
    rfl
  · obtain ⟨a, C, wt, rfl, hC, ok, sz, k⟩ := h
    have hu := hu_of hr
    have hr3 : Room 3 _ := hr.mono (by decide)
    have hr4 : Room 4 _ := hr.mono (by decide)
    have hr5 : Room 5 _ := hr.mono (by decide)
    have nd := scLong.nd
    refine ⟨_, pss_cons (ps_set (i := 1) nd rfl (.inl rfl) pe_dnewK)
      (pss_cons (ps_for PassesOwn.never rfl (pi_list (pe_call CC.ok hr3 (by rfl) CC.g CC.kp CC.b .nil pass0 (pa_cons (pv 0) pa_nil))) (pg_name (i := 2) nd rfl (.inl rfl))
        (pss_cons (ps_set (i := 4) nd rfl (.inl rfl) (pe_call CW.ok hr4 (by rfl) CW.g CW.kp CW.b .nil pass0 (pa_cons (pe_call CS.ok hr5 (by rfl) CS.g CS.kp CS.b .nil pass0 (pa_cons (pv 0) (pa_cons (pv 2) pa_nil)))
            (pa_cons (pe_lc (own := [("place", 3)]) (g := gName 3) (tt := tYes) (te := tOp (rIxT K) (tOp (rIxL K) (tVar 0) (tVar 3)) (tC (.int 0))) rfl nd (pi_list (pv 2)) (blkOk_by (N := nLong) (sc := defScope sLong) (by decide +kernel)) (fun _ _ _ _ _ => pg_name (i := 3) nd rfl (.inl rfl)) (fun _ _ _ _ _ => pts_nil)
              (fun _ _ _ _ _ => pe_ix (ixT K) (pe_ix (ixL K) (pv 0) (pv 3) (fun _ _ => rfl)) pe_int (fun _ _ => rfl))) pa_nil))))
        (pss_one (ps_for PassesOwn.never rfl (pi_list (pv 2)) (pg_name (i := 3) nd rfl (.inl rfl)) (pss_one (ps_dput hu (pv 1) (pv 3) (pv 4) rfl))))))
      (pss_one (ps_ret (pe_call CR.ok hr (by rfl) CR.g CR.kp CR.b .nil pass0 (pa_cons (pv 0) (pa_cons (pv 1) (pa_cons
        (pe_lc (own := [("_", 5)]) (g := gName 5) (tt := tYes) (te := tC (.ref tN)) rfl nd (pi_list (pv 0)) (blkOk_by (N := nLong) (sc := defScope sLong) (by decide +kernel)) (fun _ _ _ _ _ => pg_name (i := 5) nd rfl (.inl rfl)) (fun _ _ _ _ _ => pts_nil) (fun _ _ _ _ _ => pe_glob (v := .ref tN) (by rfl) T.zN rfl)) pa_nil))))))), ?_⟩
    obtain ⟨cvs, hcv, hcl, hcp⟩ := id hC
    have n6 := sz.n6
    -- known = {}
    intro kd hkd
    have sk := same_upd (o := .dK ([] : List (Key × V))) hkd
    refine ⟨_, rfl, a, C, rfl, hC.same sk, ok, by omega, fun y hy => by have := sz.bl y hy; omega, fun H1 cp s1 hcpn hcls => ⟨cp, rfl, ?_⟩⟩
    have KC := Mh.clss_of ok
    generalize ecls : Mh.clsOf C = cls at hcls KC
    obtain ⟨rs, ers, prs⟩ := id hcls
    refine ⟨⟨_, .of ers⟩, ?_⟩
    have s01 := sk.trans s1
    have ek1 := s1 _ _ (upd_same (H := H) (a := kd) (o := .dK []))
    -- the classes
    refine for_list (K := K) (a := cp) (xs := rs.map V.ref) (fun i σ H2 => ∃ (kn : Nat → Rat) (y2 y3 y4 y5 : Option V), σ = [some (.ref a), some (.ref kd), y2, y3, y4, y5] ∧ Ex kd H1 H2 ∧ DictB K H2 kd (fun t => t ∈ (cls.take i).flatten) kn (cls.take i).flatten.length ∧ (∀ t, t ∉ (cls.take i).flatten → kn t = 0) ∧
        (∃ Fn : Nat, 0 < Fn ∧ Fn ≤ 2 ^ (63 * (cls.take i).flatten.length) ∧ ∀ t, Mh.Bd (10 * Fn) (2 ^ (63 * (cls.take i).flatten.length + 12)) (kn t)) ∧
        ∀ cl ∈ cls.take i, ∃ v, Mh.Sty C cl.length (Mh.at_ cl) v ∧ Mh.sm cl.length v = 1 ∧ ∀ j, j < cl.length → kn (Mh.at_ cl j) = Mh.sm cl.length (fun q => v q * C.gain (Mh.at_ cl q)))
      ⟨fun _ => 0, none, none, none, none, rfl, Same.ex (Same.refl H1) kd, ⟨[], ek1, Nat.zero_le _, fun t => .inr ⟨by simp, valV_nil⟩⟩, fun _ _ => rfl, ⟨1, by decide, Nat.one_le_two_pow, fun t => .zero _ _⟩, fun cl hc => by simp at hc⟩
      (fun i σ H2 _ ⟨_, _, _, _, _, _, h, _⟩ => .of (h _ _ ers (fun e => by rw [e, ek1] at ers; cases ers))) ?_ ?_
    · rintro i x σ H2 hi ⟨kn, y2, y3, y4, y5, rfl, e2, B2, kz, ⟨Fn, f0, f1, f2⟩, hv⟩
      rw [List.getElem?_map] at hi
      obtain ⟨q, hq, ex⟩ := Option.map_eq_some_iff.mp hi
      subst ex
      obtain ⟨cl, hci, eq⟩ := pget prs hq
      have hcm := cls_mem hci
      have L := KC.each cl hcm
      have ck := clen L
      have s2 : Same H H2 := e2.same s01 hkd
      have nqk : q ≠ kd := fun e => by rw [e, ek1] at eq; cases eq
      have eq2 := e2 _ _ eq nqk
      have hl : cl.length + (cls.take i).flatten.length ≤ C.n := by
        have := flat_len KC (i + 1)
        rw [flat_take hci, List.length_append] at this
        omega
      -- gain
      refine ⟨_, rfl, _, rfl, a, q, C, wt, cl, rfl, hC.same s2, eq2, ok, sz, L, fun H3 sp v s3 hsp rv hv1 hSty hbd => ?_⟩
      obtain ⟨Dn, d0, d1, d2⟩ := hbd
      have s23 := s2.trans s3
      refine ⟨_, rfl, q, rfl, ⟨_, .of (s3 _ _ eq2)⟩, fun D4 hD4 => ?_⟩
      refine lc_list (K := K) (a := q) (xs := ni cl) (fun j H4 => Same H3 H4 ∧ RowN K H4 D4 (tab j (fun j => C.gain (Mh.at_ cl j)))) ⟨same_upd hD4, _, upd_same, .nil⟩ (fun j H4 _ ⟨s4, _⟩ => (s3.trans s4).seq (.of eq2)) ?_ ?_
      · rintro j u H4 hj ⟨s4, vs, eD, pD⟩
        have hjn : j < cl.length := by have := (List.getElem?_eq_some_iff.mp hj).1; rw [ni_len] at this; exact this
        rw [ni_get hjn] at hj
        cases hj
        have s24 := s23.trans s4
        obtain ⟨cv, hcvi⟩ : ∃ cv, cvs[Mh.at_ cl j]? = some cv := ⟨_, List.getElem?_eq_getElem (by rw [hcl]; exact L.lt j hjn)⟩
        obtain ⟨t, gv, b, us, rfl, ht, hg, _⟩ := hcp _ _ hcvi
        refine ⟨rfl, _, rfl, _, rfl, a, _, _, _, rfl, rfl, .of (s24 _ _ hcv), atI_nat hcvi, t, _, 0, gv, rfl, rfl, same_tup s24 ht, rfl, vs, eD, ?_, Ex.same ex_upd s4 hD4, ?_⟩
        · rw [pD.length, tab_len]; exact small1000 (by omega)
        · rw [tab_succ]
          exact RowN.snoc eD pD (.refl _) (hg.same s24)
      rintro H4 ⟨s4, r4⟩
      rw [ni_len] at r4
      have b63 : 2 ^ (63 * cl.length) ≤ 2 ^ 378 := p2l (by omega)
      have hprod : ∀ j, j < cl.length → Mh.Bd (Dn * 10) (2 ^ (63 * cl.length) * 500) (v j * C.gain (Mh.at_ cl j)) := fun j hj => (d2 j hj).mul (sz.gn _ (L.lt j hj))
      have e378 : (2 : Nat) ^ 378 * 4000 < 2 ^ 4000 := by
        have : (2 : Nat) ^ 378 * 4000 ≤ 2 ^ (378 + 12) := by rw [Nat.pow_add]; exact Nat.mul_le_mul_left _ (by decide)
        exact Nat.lt_of_le_of_lt this (p2 (by decide))
      refine ⟨sp, D4, v, _, cl.length, Dn * 10, 2 ^ (63 * cl.length) * 500, rfl, rv.same s4, r4, by omega, fun j hj => ⟨?_, ?_⟩, by omega, ?_, ?_, hprod, fun H5 gv s5 n5 => ?_⟩
      · exact (d2 j hj).sz d0 (Nat.lt_of_le_of_lt b63 (p2 (by decide))) (Nat.lt_of_le_of_lt (Nat.le_trans d1 b63) (p2 (by decide)))
      · exact (sz.gn _ (L.lt j hj)).sz (by decide) (Nat.lt_of_le_of_lt (show 500 ≤ 2 ^ 9 by decide) (p2 (by decide))) (Nat.lt_of_le_of_lt (show 10 ≤ 2 ^ 4 by decide) (p2 (by decide)))
      · have : Dn * 10 ≤ 2 ^ 378 * 10 := Nat.mul_le_mul_right _ (Nat.le_trans d1 b63)
        omega
      · have h1 : (cl.length + 1) * (2 ^ (63 * cl.length) * 500) ≤ 7 * (2 ^ 378 * 500) := Nat.mul_le_mul (by omega) (Nat.mul_le_mul_right _ b63)
        omega
      have s35 := s4.trans s5
      have s25 := s23.trans s35
      have e25 : Ex kd H1 H5 := e2.trans (Same.ex (s3.trans s35) kd)
      -- known[place] = gain
      refine ⟨_, rfl, q, rfl, ⟨_, .of ((s3.trans s35) _ _ eq2)⟩, ?_⟩
      refine for_list (K := K) (a := q) (xs := ni cl) (fun j σ H6 => ∃ (z3 : Option V), σ = [some (.ref a), some (.ref kd), some (.ref q), z3, some gv, y5] ∧ Ex kd H5 H6 ∧ DictB K H6 kd (fun t => t ∈ cl.take j ∨ t ∈ (cls.take i).flatten) (fun t => if t ∈ cl.take j then Mh.sm cl.length (fun q => v q * C.gain (Mh.at_ cl q)) else kn t) ((cls.take i).flatten.length + j))
        ⟨y3, rfl, Same.ex (Same.refl H5) kd, (B2.same (s3.trans s35)).congr (fun t => by simp) (fun t => by simp)⟩ (fun j σ H6 _ ⟨_, _, h, _⟩ => .of (h _ _ ((s3.trans s35) _ _ eq2) nqk)) ?_ ?_
      · rintro j u σ H6 hj ⟨z3, rfl, e6, B6⟩
        have hjn : j < cl.length := by have := (List.getElem?_eq_some_iff.mp hj).1; rw [ni_len] at this; exact this
        rw [ni_get hjn] at hj
        cases hj
        have htj : cl[j]? = some (Mh.at_ cl j) := by unfold Mh.at_; rw [List.getD_eq_getElem?_getD, List.getElem?_eq_getElem hjn]; rfl
        obtain ⟨kvs2, ekv2, _⟩ := B2.same (s3.trans s35)
        obtain ⟨H7, hput, ⟨o7, rfl⟩, B7⟩ := B6.put (t := Mh.at_ cl j) (by omega) (n5.exn e6 ekv2)
        refine ⟨_, rfl, _, rfl, _, rfl, kd, _, rfl, hput, _, rfl, e6.trans ex_upd, B7.congr (fun t => ?_) (fun t => ?_)⟩
        · rw [take_snoc htj, List.mem_append, List.mem_singleton]
          constructor
          · rintro (h | h | h)
            · exact .inl (.inr h)
            · exact .inl (.inl h)
            · exact .inr h
          · rintro ((h | h) | h)
            · exact .inr (.inl h)
            · exact .inl h
            · exact .inr (.inr h)
        · show (if t = Mh.at_ cl j then _ else if t ∈ cl.take j then _ else kn t) = if t ∈ cl.take (j + 1) then _ else kn t
          rw [take_snoc htj]
          by_cases e : t = Mh.at_ cl j
          · rw [if_pos e, if_pos (List.mem_append.mpr (.inr (List.mem_singleton.mpr e)))]
          · rw [if_neg e]
            by_cases e2 : t ∈ cl.take j
            · rw [if_pos e2, if_pos (List.mem_append.mpr (.inl e2))]
            · rw [if_neg e2, if_neg (fun z => (List.mem_append.mp z).elim e2 fun z => e (List.mem_singleton.mp z))]
      · rintro σ H6 ⟨z3, rfl, e6, B6⟩
        rw [ni_len, List.take_length] at B6
        have hfl := flat_take hci
        have hap := fun t => flat_apart KC hci (t := t)
        have hm1 : (cls.take (i + 1)).flatten.length = (cls.take i).flatten.length + cl.length := by rw [hfl, List.length_append]
        refine ⟨fun t => if t ∈ cl then Mh.sm cl.length (fun q => v q * C.gain (Mh.at_ cl q)) else kn t, _, _, _, _, rfl, e25.trans e6, ?_, fun t ht => ?_, ⟨Fn * Dn, Nat.mul_pos f0 d0, ?_, fun t => ?_⟩, fun c hc => ?_⟩
        · rw [hm1]
          exact B6.congr (fun t => by rw [hfl, List.mem_append]; exact Or.comm) (fun t => rfl)
        · rw [hfl, List.mem_append] at ht
          show (if t ∈ cl then _ else kn t) = 0
          rw [if_neg (fun z => ht (.inr z))]
          exact kz t (fun z => ht (.inl z))
        · rw [hm1, Nat.mul_add, Nat.pow_add]
          exact Nat.mul_le_mul f1 d1
        · rw [hm1]
          show Mh.Bd _ _ (if t ∈ cl then _ else kn t)
          split
          · have hs := Mh.Bd.sm hprod
            rw [Nat.mul_comm Dn 10] at hs
            have h9 : cl.length * (2 ^ (63 * cl.length) * 500) ≤ 2 ^ (63 * cl.length + 12) := by
              have : cl.length * (2 ^ (63 * cl.length) * 500) ≤ 6 * (2 ^ (63 * cl.length) * 500) := Nat.mul_le_mul_right _ (by omega)
              rw [Nat.pow_add]
              have e9 : (2 : Nat) ^ 12 = 4096 := rfl
              rw [e9]
              omega
            have hs2 := (hs.mono h9).ext f1
            rw [Nat.mul_comm Dn Fn] at hs2
            have e : 63 * cl.length + 12 + 63 * (cls.take i).flatten.length = 63 * ((cls.take i).flatten.length + cl.length) + 12 := by omega
            rw [e] at hs2
            exact hs2
          · have hs2 := (f2 t).ext d1
            have e : 63 * (cls.take i).flatten.length + 12 + 63 * cl.length = 63 * ((cls.take i).flatten.length + cl.length) + 12 := by omega
            rw [e] at hs2
            exact hs2
        · rw [take_snoc hci] at hc
          rcases List.mem_append.mp hc with hc | hc
          · obtain ⟨v', h1, h2, h3⟩ := hv c hc
            refine ⟨v', h1, h2, fun j hj => ?_⟩
            show (if Mh.at_ c j ∈ cl then _ else kn (Mh.at_ c j)) = _
            rw [if_neg (hap _ (List.mem_flatten.mpr ⟨c, hc, Mh.at_mem hj⟩))]
            exact h3 j hj
          · rw [List.mem_singleton.mp hc]
            refine ⟨v, hSty, hv1, fun j hj => ?_⟩
            show (if Mh.at_ cl j ∈ cl then _ else kn (Mh.at_ cl j)) = _
            rw [if_pos (Mh.at_mem hj)]
    · rintro σ H2 ⟨kn, y2, y3, y4, y5, rfl, e2, B2, kz, ⟨Fn, f0, f1, f2⟩, hv⟩
      have lrs : (rs.map V.ref).length = cls.length := by rw [List.length_map, prs.length]
      rw [lrs, List.take_length] at B2 kz f1 f2 hv
      have s2 : Same H H2 := e2.same s01 hkd
      have hcv2 := s2 _ _ hcv
      refine ⟨_, rfl, _, rfl, _, rfl, a, rfl, ⟨_, .of hcv2⟩, fun D4 hD4 => ?_⟩
      refine lc_list (K := K) (a := a) (xs := cvs) (fun j H4 => Same H2 H4 ∧ RowN K H4 D4 (tab j (fun _ => 0))) ⟨same_upd hD4, _, upd_same, .nil⟩ (fun j H4 _ ⟨s4, _⟩ => s4.seq (.of hcv2)) ?_ ?_
      · rintro j u H4 hj ⟨s4, vs, eD, pD⟩
        have hjn : j < C.n := by have := (List.getElem?_eq_some_iff.mp hj).1; omega
        refine ⟨rfl, vs, eD, by rw [pD.length, tab_len]; exact small1000 (by omega), Ex.same ex_upd s4 hD4, ?_⟩
        rw [tab_succ]
        exact RowN.snoc eD pD (.refl _) ⟨tN, rfl, T.wN _⟩
      rintro H4 ⟨s4, r4⟩
      rw [hcl] at r4
      have hol := KC.oth_len (dom := fun t => t ∈ cls.flatten) (fun x => Iff.rfl)
      have hot : ∀ x ∈ Mh.oth C.n (fun t => t ∈ cls.flatten), x < C.n ∧ x ∉ cls.flatten := fun x hx => Mh.oth_mem.mp hx
      have b378 : 63 * cls.flatten.length ≤ 378 := by omega
      have m : MetOk C wt (Mh.oth C.n (fun t => t ∈ cls.flatten)) (fun t => t ∈ cls.flatten) kn (fun _ => 0) (10 * Fn) (63 * cls.flatten.length + 12) := by
        refine ⟨ok, sz, Mh.oth_nd _ _, fun x hx => (hot x hx).1, fun x hx b hb => ?_, fun x hx => (hot x hx).2, kz, KC.oth_triv ok (fun x => Iff.rfl), by omega, ?_, by omega, fun x hx => .zero _ _, fun t ht => f2 t⟩
        · by_cases h : b.2 ∈ cls.flatten
          · exact .inl h
          · exact .inr (Mh.oth_mem.mpr ⟨ok.tg x (hot x hx).1 b hb, h⟩)
        · have h1 : 10 * Fn ≤ 2 ^ 4 * 2 ^ 378 := Nat.mul_le_mul (by decide) (Nat.le_trans f1 (p2l b378))
          rw [← Nat.pow_add] at h1
          exact Nat.le_trans h1 (p2l (by decide))
      refine ⟨a, kd, D4, C, wt, _, kn, _, 10 * Fn, _, cls.flatten.length, rfl, hC.same (s2.trans s4), B2.same s4, by omega, r4, m, fun H5 p G s5 hp rG hk ho hbd => ?_⟩
      obtain ⟨Dn, d0, d1, d2⟩ := hbd
      refine k H5 p G ((s2.trans s4).trans s5) ((s2.trans s4).free hp) rG (ecls ▸ Mh.lg_of ok KC (fun cl hcl => ?_) (fun x hx hn => ho x hx hn)) ⟨Fn * Dn, Nat.mul_pos f0 d0, ?_, fun x hx => ?_⟩
      · obtain ⟨v, h1, h2, h3⟩ := hv cl hcl
        refine ⟨v, h1, h2, fun j hj => ?_⟩
        rw [hk _ ((KC.each cl hcl).lt j hj) (List.mem_flatten.mpr ⟨cl, hcl, Mh.at_mem hj⟩)]
        exact h3 j hj
      · have h1 := Nat.mul_le_mul f1 d1
        rw [← Nat.pow_add] at h1
        exact Nat.le_trans h1 (p2l (by omega))
      · by_cases hd : x ∈ cls.flatten
        · rw [hk x hx hd]
          exact ((f2 x).ext d1).mono (p2l (by omega))
        · have h1 := d2 x hx hd
          have e : Dn * (10 * Fn) = 10 * (Fn * Dn) := by rw [Nat.mul_comm Dn, Nat.mul_assoc]
          rw [e] at h1
          exact h1.mono (p2l (by omega))
end
end Mw
set_option Elab.async false
set_option linter.all false
set_option maxRecDepth 100000
set_option autoImplicit false
namespace Mw
open PySem PySem.Spec PyProof.Rows L2
theorem cls_nd {C : Mh.Ch} {l : List Nat} (L : Mh.Cls C l.length (Mh.at_ l)) : l.Nodup := List.pairwise_iff_getElem.mpr fun i j hi hj hij e => by
  have := L.inj i j hi hj (by unfold Mh.at_; rw [List.getD_eq_getElem?_getD, List.getD_eq_getElem?_getD, List.getElem?_eq_getElem hi, List.getElem?_eq_getElem hj]; exact congrArg (fun z => (some z).getD 0) e)
  omega
theorem dict1 {K : PySem.W.Frag} {H : Hp} {p : Addr} {v : V} {q : Rat} {t0 : Nat} (n : NumV K (upd H p (.dK (mergeK [] [(Sum.inl (t0 : Int), v)]))) v q) : DictN K (upd H p (.dK (mergeK [] [(Sum.inl (t0 : Int), v)]))) p (fun t => t = t0) (fun t => if t = t0 then q else 0) := by
  refine ⟨_, upd_same, by show 1 ≤ 500; decide, fun t => ?_⟩
  have e : mergeK [] [((Sum.inl (t0 : Int) : Key), v)] = putK [] (Sum.inl (t0 : Int)) v := rfl
  by_cases h : t = t0
  · refine .inl ⟨h, v, by rw [e, valV_put, if_pos (by rw [h])], ?_⟩
    show NumV K _ v (if t = t0 then q else 0)
    rw [if_pos h]
    exact n
  · exact .inr ⟨h, by rw [e, valV_put, if_neg (inl_ne h)]; rfl⟩
section
variable {P : Program} {w : World} {K : PySem.W.Frag} {mg : Str → Option Value} {base : Heap}
/-! ### leads -/
abbrev sLeads : Stmt := topS 24
abbrev nLeads : List Str := ["chain", "extras", "known", "closed", "rough", "less", "place", "one", "here", "gain"]
theorem scLeads : FnScope nLeads ["chain"] (defScope sLeads) := ⟨rfl, rfl, rfl, by decide +kernel, rfl, by decide +kernel, by decide +kernel⟩
def spLeads (K : PySem.W.Frag) : Sp := fun vs H Q _ => ∃ (a : Addr) (C : Mh.Ch) (wt : Nat → Nat), vs = [.ref a] ∧ ChAt K H a C ∧ C.Ok ∧ C.Sized wt ∧
  ∀ H' p g h, Same H H' → H p = none → RowN K H' p (tab C.n h) → Mh.LG C (Mh.clsOf C) g → Mh.GH C g h → (∀ cl ∈ Mh.clsOf C, Mh.LdCl C g cl h) → (∃ F : Nat, 0 < F ∧ F ≤ 2 ^ 1134 ∧ ∀ x, x < C.n → Mh.Bd (10 * F) (2 ^ 1165) (h x)) → Q (.ref p) H'
theorem cal_leads {f fM fL fC fE fS fW fR tN tO : Addr} {fd fdM fdL fdC fdE fdS fdW fdR : FuncData} (F : Fun K "leads" "leads" sLeads f fd) (g : mg "leads" = some (.ref f)) (B : Bi mg) (T : Con0 K mg tN tO)
    (CM : Cal P w K mg base "minus" ["a", "b"] 2 fM fdM (spBin K (· - ·) Z4)) (CL : Cal P w K mg base "long_gains" ["chain"] 7 fL fdL (spLong K)) (CC : Cal P w K mg base "closed_classes" ["chain"] 3 fC fdC (spClosed K)) (CE : Cal P w K mg base "met" ["chain", "places", "known", "extras"] 5 fE fdE (spMet K))
    (CS : Cal P w K mg base "shares_in" ["chain", "closed"] 5 fS fdS (spShares K)) (CW : Cal P w K mg base "weighed_by" ["shares", "numbers"] 4 fW fdW (spWeighed K)) (CR : Cal P w K mg base "with_rest" ["chain", "known", "extras"] 6 fR fdR (spRest K)) :
    Cal P w K mg base "leads" ["chain"] 8 f fd (spLeads K) := by
  refine ⟨g, F.kp, F.binds fun _ _ _ _ _ _ us hl => match us, hl with | [_], _ => rfl, ?_⟩
  refine F.ok scLeads (fun vs H Q E h => ?_) (fun cdv A outer s H vs Q E hr h => ?_)
  · obtain ⟨a, C, wt, rfl, _⟩ := h
    rfl
  · obtain ⟨a, C, wt, rfl, hC, ok, sz, k⟩ := h
    have hu := hu_of hr
    have hr2 : Room 2 _ := hr.mono (by decide)
    have hr3 : Room 3 _ := hr.mono (by decide)
    have hr4 : Room 4 _ := hr.mono (by decide)
    have hr5 : Room 5 _ := hr.mono (by decide)
    have hr6 : Room 6 _ := hr.mono (by decide)
    have nd := scLeads.nd
    refine ⟨_, pss_cons (ps_setLc (i := 1) (own := [("here", 8), ("gain", 9)]) (g := gTup K 2 (gCons (gName 8) (gCons (gName 9) gNil))) (tt := tYes) (te := tCall (spBin K (· - ·) Z4) [] E0 (tCons (tOp (rIxT K) (tVar 8) (tC (.int 0))) (tCons (tVar 9) tNil))) rfl nd rfl rfl (sw_true rfl rfl rfl (by decide +kernel))
        (pi_zip (by rfl) B.zip (pa_cons (pv 0) (pa_cons (pe_call CL.ok hr (by rfl) CL.g CL.kp CL.b .nil pass0 (pa_cons (pv 0) pa_nil)) pa_nil))) (blkOk_by (N := nLeads) (sc := defScope sLeads) (by decide +kernel)) (fun _ _ _ _ _ => pg_tup rfl (pgs_cons (pg_name (i := 8) nd rfl (.inl rfl)) (pgs_cons (pg_name (i := 9) nd rfl (.inl rfl)) pgs_nil))) (fun _ _ _ _ _ => pts_nil)
        (fun _ _ _ _ _ => pe_call CM.ok hr2 (by rfl) CM.g CM.kp CM.b .nil pass0 (pa_cons (pe_ix (ixT K) (pv 8) pe_int (fun _ _ => rfl)) (pa_cons (pv 9) pa_nil))))
      (pss_cons (ps_set (i := 2) nd rfl (.inl rfl) pe_dnewK)
      (pss_cons (ps_for PassesOwn.never rfl (pi_list (pe_call CC.ok hr3 (by rfl) CC.g CC.kp CC.b .nil pass0 (pa_cons (pv 0) pa_nil))) (pg_name (i := 3) nd rfl (.inl rfl))
        (pss_cons (ps_set (i := 4) nd rfl (.inl rfl) (pe_op op_cat (pe_lst (pa_cons (pe_glob (v := .ref tN) (by rfl) T.zN rfl) pa_nil)) (pe_call CE.ok hr5 (by rfl) CE.g CE.kp CE.b .nil pass0 (pa_cons (pv 0) (pa_cons (pe_slice sl_list (pv 3) (po_some pe_int) po_none)
            (pa_cons (pe_disp (pps_cons (pe_ix ix_list (pv 3) pe_int (fun _ _ => rfl)) (pe_glob (v := .ref tN) (by rfl) T.zN rfl) pps_nil) (by rfl) (by rfl) (fun z => by cases z) (by decide)) (pa_cons (pv 1) pa_nil)))))))
        (pss_cons (ps_set (i := 5) nd rfl (.inl rfl) (pe_call CW.ok hr4 (by rfl) CW.g CW.kp CW.b .nil pass0 (pa_cons (pe_call CS.ok hr5 (by rfl) CS.g CS.kp CS.b .nil pass0 (pa_cons (pv 0) (pa_cons (pv 3) pa_nil))) (pa_cons (pv 4) pa_nil))))
        (pss_one (ps_for PassesOwn.never rfl (pi_zip (by rfl) B.zip (pa_cons (pv 3) (pa_cons (pv 4) pa_nil))) (pg_tup rfl (pgs_cons (pg_name (i := 6) nd rfl (.inl rfl)) (pgs_cons (pg_name (i := 7) nd rfl (.inl rfl)) pgs_nil)))
          (pss_one (ps_dput hu (pv 2) (pv 6) (pe_call CM.ok hr2 (by rfl) CM.g CM.kp CM.b .nil pass0 (pa_cons (pv 7) (pa_cons (pv 5) pa_nil))) rfl)))))))
      (pss_one (ps_ret (pe_call CR.ok hr6 (by rfl) CR.g CR.kp CR.b .nil pass0 (pa_cons (pv 0) (pa_cons (pv 2) (pa_cons (pv 1) pa_nil)))))))), ?_⟩
    obtain ⟨cvs, hcv, hcl, hcp⟩ := id hC
    have n6 := sz.n6
    -- extras
    refine ⟨_, rfl, _, rfl, a, C, wt, rfl, hC, ok, sz, fun H1 gp gg s1 hgp rg LGg hgb => ?_⟩
    obtain ⟨Fg, fg0, fg1, fg2⟩ := hgb
    obtain ⟨gvs, hgv, pgv⟩ := id rg
    have lgv : gvs.length = C.n := by rw [pgv.length, tab_len]
    have szg : ∀ x, x < C.n → Mh.Sz 2000 (gg x) := fun x hx => (fg2 x hx).sz (by omega) (p2 (by decide)) (Nat.lt_of_le_of_lt (show 10 * Fg ≤ 2 ^ 4 * 2 ^ 378 from Nat.mul_le_mul (by decide) fg1) (by rw [← Nat.pow_add]; exact p2 (by decide)))
    have sza : ∀ x, x < C.n → Mh.Sz 2000 (C.gain x) := fun x hx => (sz.gn x hx).sz (by decide) (Nat.lt_of_le_of_lt (show 500 ≤ 2 ^ 9 by decide) (p2 (by decide))) (Nat.lt_of_le_of_lt (show 10 ≤ 2 ^ 4 by decide) (p2 (by decide)))
    have hext : ∀ x, x < C.n → Mh.Bd (10 * Fg) (2 ^ 397) (C.gain x - gg x) := fun x hx => by
      refine (((sz.gn x hx).up Fg).sub (fg2 x hx)).mono ?_
      have h1 : 500 * Fg ≤ 2 ^ 9 * 2 ^ 378 := Nat.mul_le_mul (by decide) fg1
      rw [← Nat.pow_add] at h1
      have h2 : (2 : Nat) ^ (9 + 378) ≤ 2 ^ 396 := p2l (by decide)
      have h3 : (2 : Nat) ^ 397 = 2 ^ 396 * 2 := by rw [← Nat.pow_succ]
      omega
    refine ⟨a, gp, cvs, gvs, rfl, .of (s1 _ _ hcv), .of hgv, fun ep hep => ?_⟩
    refine lc_it (walk_zip (n := C.n) (by omega)) (fun i H2 => Same H1 H2 ∧ RowN K H2 ep (tab i (fun x => C.gain x - gg x))) ⟨same_upd hep, _, upd_same, .nil⟩ (fun i H2 _ ⟨s2, _⟩ => ⟨(s1.trans s2).seq (.of hcv), s2.seq (.of hgv)⟩) ?_ ?_
    · rintro i x H2 H3 hi ⟨s2, vs, eD, pD⟩ ⟨T2, x1, x2, rfl, nT, rfl, hx1, hx2⟩
      obtain ⟨t, gv, b, us, rfl, ht, hg, _⟩ := hcp _ _ hx1
      obtain ⟨q2, hq2, n2⟩ := pget pgv hx2
      rw [tab_get hi] at hq2
      cases hq2
      have sT := same_upd (o := .tup [V.ref t, x2]) nT
      have s12 := s2.trans sT
      have s3 := s1.trans s12
      refine ⟨T2, _, rfl, .of upd_same, rfl, _, _, rfl, x2, _, rfl, rfl, rfl, ?_⟩
      refine ⟨_, rfl, t, _, 0, gv, rfl, rfl, same_tup s3 ht, rfl, _, rfl, gv, x2, _, _, rfl, hg.same s3, n2.same s12, ⟨(sza i hi).mono (by decide), (szg i hi).mono (by decide)⟩, fun H4 v4 s4 n4 => ?_⟩
      have s6 := sT.trans s4
      refine ⟨vs, s6 _ _ eD, ?_, Ex.same ex_upd (s2.trans s6) hep, ?_⟩
      · rw [pD.length, tab_len]; exact small1000 (by omega)
      · rw [tab_succ]
        exact RowN.snoc eD pD s6 n4
    rintro H2 ⟨s2, rex⟩
    have s02 := s1.trans s2
    -- known = {}
    intro kd hkd
    have sk := same_upd (o := .dK ([] : List (Key × V))) hkd
    have hkdH : H kd = none := s02.free hkd
    refine ⟨_, rfl, a, C, rfl, hC.same (s02.trans sk), ok, by omega, fun y hy => by have := sz.bl y hy; omega, fun H3 cp s3 hcpn hcls => ⟨cp, rfl, ?_⟩⟩
    have KC := Mh.clss_of ok
    generalize Mh.clsOf C = cls at hcls KC LGg k
    obtain ⟨rs, ers, prs⟩ := id hcls
    refine ⟨⟨_, .of ers⟩, ?_⟩
    have s23 := sk.trans s3
    have s03 := s02.trans s23
    have ek3 := s3 _ _ (upd_same (H := H2) (a := kd) (o := .dK []))
    -- the classes
    have hepk : ep ≠ kd := fun e => by obtain ⟨vs, e1, _⟩ := rex; rw [← e, e1] at hkd; cases hkd
    refine for_list (K := K) (a := cp) (xs := rs.map V.ref) (fun i σ H4 => ∃ (kn : Nat → Rat) (y3 y4 y5 y6 y7 y8 y9 : Option V), σ = [some (.ref a), some (.ref ep), some (.ref kd), y3, y4, y5, y6, y7, y8, y9] ∧ Ex kd H3 H4 ∧ DictB K H4 kd (fun t => t ∈ (cls.take i).flatten) kn (cls.take i).flatten.length ∧ (∀ t, t ∉ (cls.take i).flatten → kn t = 0) ∧
        (∃ Fn : Nat, 0 < Fn ∧ Fn ≤ 2 ^ (126 * (cls.take i).flatten.length) ∧ ∀ t, Mh.Bd (10 * Fg * Fn) (2 ^ (126 * (cls.take i).flatten.length + 403)) (kn t)) ∧
        ∀ cl ∈ cls.take i, Mh.LdCl C gg cl kn)
      ⟨fun _ => 0, none, none, none, none, none, none, none, rfl, Same.ex (Same.refl H3) kd, ⟨[], ek3, Nat.zero_le _, fun t => .inr ⟨by simp, valV_nil⟩⟩, fun _ _ => rfl, ⟨1, by decide, Nat.one_le_two_pow, fun t => .zero _ _⟩, fun cl hc => by simp at hc⟩
      (fun i σ H4 _ ⟨_, _, _, _, _, _, _, _, _, h, _⟩ => .of (h _ _ ers (fun e => by rw [e, ek3] at ers; cases ers))) ?_ ?_
    · rintro i x σ H4 hi ⟨kn, y3, y4, y5, y6, y7, y8, y9, rfl, e4, B4, kz, ⟨Fn, f0, f1, f2⟩, hv⟩
      rw [List.getElem?_map] at hi
      obtain ⟨q, hq, ex⟩ := Option.map_eq_some_iff.mp hi
      subst ex
      obtain ⟨cl, hci, eq⟩ := pget prs hq
      have hcm := cls_mem hci
      have L := KC.each cl hcm
      have ck := clen L
      have k0 := L.k0
      have hndc := cls_nd L
      have s4 : Same H H4 := e4.same s03 hkdH
      have nqk : q ≠ kd := fun e => by rw [e, ek3] at eq; cases eq
      have eq4 := e4 _ _ eq nqk
      have hl : cl.length + (cls.take i).flatten.length ≤ C.n := by
        have := flat_len KC (i + 1)
        rw [flat_take hci, List.length_append] at this
        omega
      have rex4 : RowN K H4 ep (tab C.n (fun x => C.gain x - gg x)) := by
        obtain ⟨vs, e1, p1⟩ := rex.same s23
        exact ⟨vs, e4 _ _ e1 hepk, Paired.mapP p1 fun _ _ n => n.exn e4 ek3⟩
      have h0c : (ni cl)[0]? = some (.int ((Mh.at_ cl 0 : Nat) : Int)) := ni_get k0
      -- rough
      refine ⟨by show 1 ≤ sizeLine; decide, fun L1 hL1 => ?_⟩
      have sL := same_upd (o := .lst [V.ref tN]) hL1
      have s4L := s4.trans sL
      refine ⟨_, rfl, _, rfl, 1, rfl, q, _, rfl, .of (sL _ _ eq4), fun c1 hc1 => ?_⟩
      rw [cut1, ni_drop]
      have sc1 := same_upd (o := .lst (ni (cl.drop 1))) hc1
      have s4c := s4L.trans sc1
      intro d1 hd1
      have sd1 := same_upd (o := .dK ([] : List (Key × V))) hd1
      have s4d := s4c.trans sd1
      have eqd := (sL.trans (sc1.trans sd1)) _ _ eq4
      refine ⟨_, rfl, q, _, 0, _, rfl, rfl, .of eqd, atI_nat (j := 0) h0c, upd_same, [(Sum.inl ((Mh.at_ cl 0 : Nat) : Int), .ref tN)], rfl, by show 1 ≤ 15; decide, ?_⟩
      rw [upd_upd]
      have sd2 := same_upd (o := .dK (mergeK [] [((Sum.inl ((Mh.at_ cl 0 : Nat) : Int) : Key), V.ref tN)])) hd1
      have s4e := s4c.trans sd2
      have s44 := sL.trans (sc1.trans sd2)
      refine ⟨_, rfl, ?_⟩
      have eat : Mh.at_ (cl.drop 1) = fun i => Mh.at_ cl (i + 1) := funext (at_drop cl)
      have ld : (cl.drop 1).length = cl.length - 1 := List.length_drop
      have hmd : ∀ x ∈ cl.drop 1, ∃ j, 0 < j ∧ j < cl.length ∧ x = Mh.at_ cl j := fun x hx => by
        obtain ⟨j, hj, e⟩ := Mh.mem_at hx
        rw [at_drop] at e
        exact ⟨j + 1, by omega, by omega, e.symm⟩
      have hdm : ∀ j, 0 < j → j < cl.length → Mh.at_ cl j ∈ cl.drop 1 := fun j h0 hj => by
        have := Mh.at_mem (l := cl.drop 1) (i := j - 1) (by omega)
        rw [at_drop, show j - 1 + 1 = j by omega] at this
        exact this
      have hn0 : ∀ x ∈ cl.drop 1, x ≠ Mh.at_ cl 0 := fun x hx e => by
        obtain ⟨j, h1, h2, h3⟩ := hmd x hx
        have := L.inj j 0 h2 k0 (h3.symm.trans e)
        omega
      have m : MetOk C wt (cl.drop 1) (fun t => t = Mh.at_ cl 0) (fun t => if t = Mh.at_ cl 0 then 0 else 0) (fun x => C.gain x - gg x) (10 * Fg) 397 := by
        refine ⟨ok, sz, hndc.sublist (List.drop_sublist 1 cl), fun x hx => ?_, fun x hx b hb => ?_, hn0, fun t ht => by split <;> rfl, ?_, by omega, ?_, by decide, fun x hx => ?_, fun t ht => ?_⟩
        · obtain ⟨j, _, h2, h3⟩ := hmd x hx
          rw [h3]; exact L.lt j h2
        · obtain ⟨j, _, h2, h3⟩ := hmd x hx
          subst h3
          obtain ⟨u, hu, e⟩ := L.cl j h2 b hb
          by_cases z : u = 0
          · subst z; exact .inl e
          · rw [e]; exact .inr (hdm u (by omega) hu)
        · rw [eat, ld]; exact L.tail_triv ok
        · have h1 : 10 * Fg ≤ 2 ^ 4 * 2 ^ 378 := Nat.mul_le_mul (by decide) fg1
          rw [← Nat.pow_add] at h1
          exact Nat.le_trans h1 (p2l (by decide))
        · obtain ⟨j, _, h2, h3⟩ := hmd x hx
          rw [h3]; exact hext _ (L.lt j h2)
        · split <;> exact .zero _ _
      refine ⟨a, c1, d1, ep, C, wt, cl.drop 1, _, _, _, 10 * Fg, 397, rfl, hC.same s4e, sd2 _ _ upd_same, dict1 ⟨tN, rfl, T.wN _⟩, rex4.same s44, m, fun H5 xp xx s5 hxp rx hful hbd => ?_⟩
      obtain ⟨D1, d10, d11, d12⟩ := hbd
      have s45 := s44.trans s5
      have s05 := s4.trans s45
      have ez : (fun t => if t = Mh.at_ cl 0 then (0 : Rat) else 0) = fun _ => 0 := funext fun t => by split <;> rfl
      rw [ez, eat] at hful
      obtain ⟨xvs, exv, pxv⟩ := id rx
      have lxv : xvs.length = cl.length - 1 := by rw [pxv.length, tab_len, ld]
      refine ⟨L1, xp, [.ref tN], xvs, rfl, rfl, (sc1.trans (sd2.trans s5)) _ _ upd_same, exv, by show 1 + xvs.length ≤ sizeLine; exact Nat.le_of_lt (small1000 (by omega)), fun r hrn => ?_⟩
      have sr := same_upd (o := .lst ([V.ref tN] ++ xvs)) hrn
      have s46 := s45.trans sr
      have s06 := s4.trans s46
      -- the rough leads
      have hrho : RowN K (upd H5 r (.lst ([V.ref tN] ++ xvs))) r (tab cl.length (fun j => if j = 0 then 0 else xx (j - 1))) := by
        refine ⟨_, upd_same, ?_⟩
        have e1 : tab cl.length (fun j => if j = 0 then 0 else xx (j - 1)) = 0 :: tab (cl.drop 1).length xx := by
          refine (tab_eq (by rw [List.length_cons, tab_len, ld]; omega) fun j hj => ?_).symm
          cases j with
          | zero => rfl
          | succ j =>
            rw [List.getElem?_cons_succ, tab_get (by omega)]
            rfl
        rw [e1]
        exact .cons ⟨tN, rfl, T.wN _⟩ (NumV.all pxv sr)
      have hsub : ∀ j, j < cl.length → Mh.at_ cl j < C.n := L.lt
      have hrb : ∀ j, j < cl.length → Mh.Bd (10 * Fg * D1) (2 ^ (403 + 63 * (cl.length - 1))) (if j = 0 then 0 else xx (j - 1) : Rat) := fun j hj => by
        split
        · exact .zero _ _
        · have := d12 (j - 1) (by omega)
          rw [ld] at this
          rw [Nat.mul_comm (10 * Fg)]
          exact this
      rw [ld] at d11
      generalize upd H5 r (.lst ([V.ref tN] ++ xvs)) = H6 at s46 s06 hrho ⊢
      -- less
      refine ⟨_, rfl, _, rfl, a, q, C, wt, cl, rfl, hC.same s06, s46 _ _ eq4, ok, sz, L, fun H7 sp v s7 hsp rv hv1 hSty hbd2 => ?_⟩
      obtain ⟨D2, d20, d21, d22⟩ := hbd2
      have b315 : 63 * (cl.length - 1) ≤ 315 := by omega
      have b378 : 63 * cl.length ≤ 378 := by omega
      have hE : 10 * Fg * D1 ≤ 2 ^ (4 + 378 + 315) := by
        have h1 : 10 * Fg ≤ 2 ^ 4 * 2 ^ 378 := Nat.mul_le_mul (by decide) fg1
        have h2 := Nat.mul_le_mul h1 (Nat.le_trans d11 (p2l b315))
        rw [← Nat.pow_add, ← Nat.pow_add] at h2
        exact h2
      have hprod : ∀ j, j < cl.length → Mh.Bd (D2 * (10 * Fg * D1)) (2 ^ (63 * cl.length + (403 + 63 * (cl.length - 1)))) (v j * (if j = 0 then 0 else xx (j - 1) : Rat)) := fun j hj => by
        have := (d22 j hj).mul (hrb j hj)
        rw [← Nat.pow_add] at this
        exact this
      have hE2 : D2 * (10 * Fg * D1) ≤ 2 ^ (378 + (4 + 378 + 315)) := by
        rw [Nat.pow_add]
        exact Nat.mul_le_mul (Nat.le_trans d21 (p2l b378)) hE
      have hE0 : 0 < 10 * Fg * D1 := Nat.mul_pos (by omega) d10
      refine ⟨_, rfl, sp, r, v, _, cl.length, D2 * (10 * Fg * D1), 2 ^ (63 * cl.length + (403 + 63 * (cl.length - 1))), rfl, rv, hrho.same s7, by omega, fun j hj => ⟨?_, ?_⟩, Nat.mul_pos d20 hE0, Nat.lt_of_le_of_lt hE2 (p2 (by decide)), ?_, hprod, fun H8 lv s8 nl => ?_⟩
      · exact (d22 j hj).sz d20 (p2 (by omega)) (Nat.lt_of_le_of_lt d21 (p2 (by omega)))
      · exact (hrb j hj).sz hE0 (p2 (by omega)) (Nat.lt_of_le_of_lt hE (p2 (by decide)))
      · have h1 : (cl.length + 1) * 2 ^ (63 * cl.length + (403 + 63 * (cl.length - 1))) ≤ 2 ^ 3 * 2 ^ (63 * cl.length + (403 + 63 * (cl.length - 1))) := Nat.mul_le_mul_right _ (by omega)
        rw [← Nat.pow_add] at h1
        exact Nat.lt_of_le_of_lt h1 (p2 (by omega))
      have s78 := s7.trans s8
      have s48 := s46.trans s78
      have s08 := s4.trans s48
      have hless : Mh.Bd (10 * Fg * (D1 * D2)) (2 ^ (126 * cl.length + 343)) (Mh.sm cl.length (fun j => v j * (if j = 0 then 0 else xx (j - 1) : Rat))) := by
        have h1 := Mh.Bd.sm hprod
        rw [Nat.mul_comm D2, Nat.mul_assoc] at h1
        refine h1.mono ?_
        have h2 : cl.length * 2 ^ (63 * cl.length + (403 + 63 * (cl.length - 1))) ≤ 2 ^ 3 * 2 ^ (63 * cl.length + (403 + 63 * (cl.length - 1))) := Nat.mul_le_mul_right _ (by omega)
        rw [← Nat.pow_add] at h2
        exact Nat.le_trans h2 (p2l (by omega))
      have hD12 : D1 * D2 ≤ 2 ^ (126 * cl.length) := by
        have := Nat.mul_le_mul d11 d21
        rw [← Nat.pow_add] at this
        exact Nat.le_trans this (p2l (by omega))
      have hld : ∀ j, j < cl.length → Mh.Bd (10 * Fg * (D1 * D2)) (2 ^ (126 * cl.length + 344)) ((if j = 0 then 0 else xx (j - 1) : Rat) - Mh.sm cl.length (fun j => v j * (if j = 0 then 0 else xx (j - 1) : Rat))) := fun j hj => by
        refine (((hrb j hj).ext d21).sub hless).mono ?_
        have h1 : 2 ^ (403 + 63 * (cl.length - 1) + 63 * cl.length) ≤ 2 ^ (126 * cl.length + 343) := p2l (by omega)
        rw [Nat.pow_succ 2 (126 * cl.length + 343)]
        omega
      have szl : Mh.Sz 4000 (Mh.sm cl.length (fun j => v j * (if j = 0 then 0 else xx (j - 1) : Rat))) := by
        refine hless.sz (Nat.mul_pos (by omega) (Nat.mul_pos d10 d20)) (p2 (by omega)) ?_
        rw [Nat.mul_comm D1, ← Nat.mul_assoc, Nat.mul_comm (10 * Fg), Nat.mul_assoc]
        exact Nat.lt_of_le_of_lt hE2 (p2 (by decide))
      -- the leads of the class
      have Φ0 : Mh.ful (cl.length - 1) (fun i => Mh.at_ cl (i + 1)) (fun _ => 0) xx (Mh.at_ cl 0) = 0 := Mh.ful_out fun j hj e => by
        have := L.inj 0 (j + 1) k0 (by omega) e; omega
      have Φs : ∀ j, j < cl.length - 1 → Mh.ful (cl.length - 1) (fun i => Mh.at_ cl (i + 1)) (fun _ => 0) xx (Mh.at_ cl (j + 1)) = xx j := fun j hj =>
        Mh.ful_at (p := fun i => Mh.at_ cl (i + 1)) (fun i j hi hj e => by have := L.inj _ _ (by omega) (by omega) e; omega) hj rfl
      rw [ld] at hful
      generalize hΦ : Mh.ful (cl.length - 1) (fun i => Mh.at_ cl (i + 1)) (fun _ => 0) xx = Φ at Φ0 Φs hful
      have hρ : ∀ j, j < cl.length → (if j = 0 then 0 else xx (j - 1) : Rat) = Φ (Mh.at_ cl j) := fun j hj => by
        by_cases z : j = 0
        · rw [if_pos z, z, Φ0]
        · rw [if_neg z, ← Φs (j - 1) (by omega), show j - 1 + 1 = j by omega]
      have hLd : ∀ h : Nat → Rat, (∀ j, j < cl.length → h (Mh.at_ cl j) = (if j = 0 then 0 else xx (j - 1) : Rat) - Mh.sm cl.length (fun j => v j * (if j = 0 then 0 else xx (j - 1) : Rat))) → Mh.LdCl C gg cl h := by
        intro h hh
        obtain ⟨v1, a1, a2, a3⟩ := LGg.cl cl hcm
        refine ⟨Φ, _, fun i hi => ?_, fun i hi => by rw [hh i hi, hρ i hi], v, hSty, hv1, ?_⟩
        · rw [a3 i hi]
          refine a1.lead ok L a2 rfl Φ0 (fun i h0 hi => ?_) i hi
          have := hful (i - 1) (by omega)
          simp only [show i - 1 + 1 = i by omega] at this
          rw [this, a3 i hi]
        · have e1 : Mh.sm cl.length (fun j => v j * h (Mh.at_ cl j)) = Mh.sm cl.length (fun j => v j * (if j = 0 then 0 else xx (j - 1) : Rat)) - Mh.sm cl.length v * Mh.sm cl.length (fun j => v j * (if j = 0 then 0 else xx (j - 1) : Rat)) := by
            rw [← Mh.sm_mulr, ← Mh.sm_sub]
            refine Mh.sm_congr fun j hj => ?_
            rw [hh j hj]; grind
          rw [e1, hv1]; grind
      -- known[place] = minus(one, less)
      obtain ⟨ρvs, eρ, pρ⟩ := hrho
      have lρ : ρvs.length = cl.length := by rw [pρ.length, tab_len]
      have nrk : r ≠ kd := fun e => by
        obtain ⟨kvs4, ek4, _⟩ := id B4
        rw [e, s45 _ _ ek4] at hrn
        cases hrn
      obtain ⟨kvs4, ek4, _⟩ := B4.same s48
      refine ⟨_, rfl, _, rfl, q, r, ni cl, ρvs, rfl, .of (s48 _ _ eq4), .of (s78 _ _ eρ), ?_⟩
      refine for_it (walk_zip (n := cl.length) (by rw [ni_len, lρ, Nat.min_self])) (fun j σ H9 => ∃ (z6 z7 : Option V), σ = [some (.ref a), some (.ref ep), some (.ref kd), some (.ref q), some (.ref r), some lv, z6, z7, y8, y9] ∧ Ex kd H8 H9 ∧
          DictB K H9 kd (fun t => t ∈ cl.take j ∨ t ∈ (cls.take i).flatten) (fun t => if t ∈ cl.take j then Φ t - Mh.sm cl.length (fun j => v j * (if j = 0 then 0 else xx (j - 1) : Rat)) else kn t) ((cls.take i).flatten.length + j))
        ⟨y6, y7, rfl, Same.ex (Same.refl H8) kd, (B4.same s48).congr (fun t => by simp) (fun t => by simp)⟩ (fun j σ H9 _ ⟨_, _, _, h, _⟩ => ⟨.of (h _ _ (s48 _ _ eq4) nqk), .of (h _ _ (s78 _ _ eρ) nrk)⟩) ?_ ?_
      · rintro j u σ H9 H10 hj ⟨z6, z7, rfl, e9, B9⟩ ⟨T9, v1, v2, rfl, nT9, rfl, h1, h2⟩
        have h1' : (ni cl)[j]? = some v1 := h1
        rw [ni_get hj] at h1'
        cases h1'
        obtain ⟨qz, hqz, nqz⟩ := pget pρ h2
        rw [tab_get hj] at hqz
        cases hqz
        have sT := same_upd (o := .tup [V.int ((Mh.at_ cl j : Nat) : Int), v2]) nT9
        have htj : cl[j]? = some (Mh.at_ cl j) := by unfold Mh.at_; rw [List.getD_eq_getElem?_getD, List.getElem?_eq_getElem hj]; rfl
        have nl9 := (nl.exn e9 ek4).same sT
        have nz9 := ((nqz.same s78).exn e9 ek4).same sT
        have szj : Mh.Sz 4000 (if j = 0 then 0 else xx (j - 1) : Rat) := (hrb j hj).sz hE0 (p2 (by omega)) (Nat.lt_of_le_of_lt hE (p2 (by decide)))
        refine ⟨T9, _, rfl, .of upd_same, rfl, _, _, rfl, v2, _, rfl, rfl, ?_⟩
        refine ⟨_, rfl, _, rfl, v2, lv, _, _, rfl, nz9, nl9, ⟨szj, szl⟩, fun H11 v11 s11 n11 => ?_⟩
        obtain ⟨H12, hput, ⟨o12, rfl⟩, B12⟩ := ((B9.same sT).same s11).put (t := Mh.at_ cl j) (by omega) n11
        refine ⟨_, rfl, _, rfl, kd, _, rfl, hput, _, _, rfl, (e9.trans (Same.ex (sT.trans s11) kd)).trans ex_upd, B12.congr (fun t => ?_) (fun t => ?_)⟩
        · rw [take_snoc htj, List.mem_append, List.mem_singleton]
          constructor
          · rintro (h | h | h)
            · exact .inl (.inr h)
            · exact .inl (.inl h)
            · exact .inr h
          · rintro ((h | h) | h)
            · exact .inr (.inl h)
            · exact .inl h
            · exact .inr (.inr h)
        · show (if t = Mh.at_ cl j then _ else if t ∈ cl.take j then _ else kn t) = if t ∈ cl.take (j + 1) then _ else kn t
          rw [take_snoc htj]
          by_cases e : t = Mh.at_ cl j
          · rw [if_pos e, if_pos (List.mem_append.mpr (.inr (List.mem_singleton.mpr e))), e]
            exact congrArg (· - _) (hρ j hj)
          · rw [if_neg e]
            by_cases e2 : t ∈ cl.take j
            · rw [if_pos e2, if_pos (List.mem_append.mpr (.inl e2))]
            · rw [if_neg e2, if_neg (fun z => (List.mem_append.mp z).elim e2 fun z => e (List.mem_singleton.mp z))]
      · rintro σ H9 ⟨z6, z7, rfl, e9, B9⟩
        rw [List.take_length] at B9
        have hfl := flat_take hci
        have hap := fun t => flat_apart KC hci (t := t)
        have hm1 : (cls.take (i + 1)).flatten.length = (cls.take i).flatten.length + cl.length := by rw [hfl, List.length_append]
        refine ⟨fun t => if t ∈ cl then Φ t - Mh.sm cl.length (fun j => v j * (if j = 0 then 0 else xx (j - 1) : Rat)) else kn t, _, _, _, _, _, _, _, rfl, (e4.trans (Same.ex s48 kd)).trans e9, ?_, fun t ht => ?_, ⟨Fn * (D1 * D2), Nat.mul_pos f0 (Nat.mul_pos d10 d20), ?_, fun t => ?_⟩, fun c hc => ?_⟩
        · rw [hm1]
          exact B9.congr (fun t => by rw [hfl, List.mem_append]; exact Or.comm) (fun t => rfl)
        · rw [hfl, List.mem_append] at ht
          show (if t ∈ cl then _ else kn t) = 0
          rw [if_neg (fun z => ht (.inr z))]
          exact kz t (fun z => ht (.inl z))
        · rw [hm1, Nat.mul_add, Nat.pow_add]
          exact Nat.mul_le_mul f1 hD12
        · rw [hm1]
          show Mh.Bd _ _ (if t ∈ cl then _ else kn t)
          split
          · rename_i htc
            obtain ⟨j, hj, ej⟩ := Mh.mem_at htc
            rw [← ej, ← hρ j hj]
            have hs2 := (hld j hj).ext f1
            rw [Nat.mul_comm (D1 * D2) Fn] at hs2
            exact hs2.mono (p2l (by omega))
          · exact ((f2 t).ext hD12).mono (p2l (by omega))
        · rw [take_snoc hci] at hc
          rcases List.mem_append.mp hc with hc | hc
          · refine (hv c hc).congr fun x hx => ?_
            show kn x = if x ∈ cl then _ else kn x
            rw [if_neg (hap _ (List.mem_flatten.mpr ⟨c, hc, hx⟩))]
          · rw [List.mem_singleton.mp hc]
            refine hLd _ fun j hj => ?_
            show (if Mh.at_ cl j ∈ cl then _ else kn (Mh.at_ cl j)) = _
            rw [if_pos (Mh.at_mem hj), hρ j hj]
    · rintro σ H4 ⟨kn, y3, y4, y5, y6, y7, y8, y9, rfl, e4, B4, kz, ⟨Fn, f0, f1, f2⟩, hv⟩
      have lrs : (rs.map V.ref).length = cls.length := by rw [List.length_map, prs.length]
      rw [lrs, List.take_length] at B4 kz f1 f2 hv
      have s4 : Same H H4 := e4.same s03 hkdH
      have rex4 : RowN K H4 ep (tab C.n (fun x => C.gain x - gg x)) := by
        obtain ⟨vs, e1, p1⟩ := rex.same s23
        exact ⟨vs, e4 _ _ e1 hepk, Paired.mapP p1 fun _ _ n => n.exn e4 ek3⟩
      have hol := KC.oth_len (dom := fun t => t ∈ cls.flatten) (fun x => Iff.rfl)
      have hot : ∀ x ∈ Mh.oth C.n (fun t => t ∈ cls.flatten), x < C.n ∧ x ∉ cls.flatten := fun x hx => Mh.oth_mem.mp hx
      have b756 : 126 * cls.flatten.length ≤ 756 := by omega
      have hE : 10 * Fg * Fn ≤ 2 ^ (4 + 378 + 756) := by
        have h1 : 10 * Fg ≤ 2 ^ 4 * 2 ^ 378 := Nat.mul_le_mul (by decide) fg1
        have h2 := Nat.mul_le_mul h1 (Nat.le_trans f1 (p2l b756))
        rw [← Nat.pow_add, ← Nat.pow_add] at h2
        exact h2
      have m : MetOk C wt (Mh.oth C.n (fun t => t ∈ cls.flatten)) (fun t => t ∈ cls.flatten) kn (fun x => C.gain x - gg x) (10 * Fg * Fn) (126 * cls.flatten.length + 403) := by
        refine ⟨ok, sz, Mh.oth_nd _ _, fun x hx => (hot x hx).1, fun x hx b hb => ?_, fun x hx => (hot x hx).2, kz, KC.oth_triv ok (fun x => Iff.rfl), Nat.mul_pos (by omega) f0, Nat.le_trans hE (p2l (by decide)), by omega, fun x hx => ?_, fun t ht => f2 t⟩
        · by_cases h : b.2 ∈ cls.flatten
          · exact .inl h
          · exact .inr (Mh.oth_mem.mpr ⟨ok.tg x (hot x hx).1 b hb, h⟩)
        · have h1 := (hext x (hot x hx).1).up Fn
          have h2 : 2 ^ 397 * Fn ≤ 2 ^ (126 * cls.flatten.length + 403) := by
            have := Nat.mul_le_mul_left (2 ^ 397) f1
            rw [← Nat.pow_add] at this
            exact Nat.le_trans this (p2l (by omega))
          exact h1.mono h2
      refine ⟨_, rfl, _, rfl, _, rfl, a, kd, ep, C, wt, _, kn, _, 10 * Fg * Fn, _, cls.flatten.length, rfl, hC.same s4, B4, by omega, rex4, m, fun H5 p G s5 hp rG hk ho hbd => ?_⟩
      obtain ⟨Dn, d0, d1, d2⟩ := hbd
      have hcl' : ∀ cl ∈ cls, Mh.LdCl C gg cl G := fun cl hcl => (hv cl hcl).congr fun x hx => (hk x (KC.lt (List.mem_flatten.mpr ⟨cl, hcl, hx⟩)) (List.mem_flatten.mpr ⟨cl, hcl, hx⟩)).symm
      refine k H5 p gg G (s4.trans s5) (s4.free hp) rG LGg (Mh.gh_of ok KC LGg hcl' (fun x hx hn => ho x hx hn)) hcl' ⟨Fg * (Fn * Dn), Nat.mul_pos fg0 (Nat.mul_pos f0 d0), ?_, fun x hx => ?_⟩
      · have h1 := Nat.mul_le_mul fg1 (Nat.mul_le_mul f1 d1)
        rw [← Nat.pow_add, ← Nat.pow_add] at h1
        exact Nat.le_trans h1 (p2l (by omega))
      · have e0 : 10 * (Fg * (Fn * Dn)) = 10 * Fg * (Fn * Dn) := by rw [Nat.mul_assoc]
        rw [e0]
        by_cases hd : x ∈ cls.flatten
        · rw [hk x hx hd]
          exact ((f2 x).ext d1).mono (p2l (by omega))
        · have h1 := d2 x hx hd
          have e : Dn * (10 * Fg * Fn) = 10 * Fg * (Fn * Dn) := by rw [Nat.mul_comm Dn, Nat.mul_assoc]
          rw [e] at h1
          exact h1.mono (p2l (by omega))
end
end Mw
set_option Elab.async false
set_option linter.all false
set_option maxRecDepth 100000
set_option autoImplicit false
namespace Mw
open PySem PySem.Spec PyProof.Rows L2
section
variable {P : Program} {w : World} {K : PySem.W.Frag} {mg : Str → Option Value} {base : Heap}
/-! ### mean_at -/
abbrev sMean : Stmt := topS 25
abbrev nMean : List Str := ["chain", "place", "numbers", "chance", "target"]
theorem scMean : FnScope nMean ["chain", "place", "numbers"] (defScope sMean) := ⟨rfl, rfl, rfl, by decide +kernel, rfl, by decide +kernel, by decide +kernel⟩
def spMean (K : PySem.W.Frag) : Sp := fun vs H Q _ => ∃ (a nb : Addr) (x : Nat) (C : Mh.Ch) (wt : Nat → Nat) (f : Nat → Rat) (B Y : Nat), vs = [.ref a, .int (x : Int), .ref nb] ∧ ChAt K H a C ∧ C.Ok ∧ C.Sized wt ∧ x < C.n ∧ RowN K H nb (tab C.n f) ∧ 0 < B ∧ B ≤ 2 ^ 3900 ∧ Y ≤ 2 ^ 3900 ∧ (∀ t, t < C.n → Mh.Bd B Y (f t)) ∧
  ∀ H' v, Same H H' → NumV K H' v (Mh.bm (C.brs x) f) → Q v H'
theorem take_map_snoc {α β : Type} {l : List α} {i : Nat} {a : α} (f : α → β) (h : l[i]? = some a) : (l.take (i + 1)).map f = (l.take i).map f ++ [f a] := by
  rw [take_snoc h, List.map_append]; rfl
theorem br_terms {C : Mh.Ch} {wt : Nat → Nat} (sz : C.Sized wt) (ok : C.Ok) {x B Y : Nat} {f : Nat → Rat} (hx : x < C.n) (hf : ∀ t, t < C.n → Mh.Bd B Y (f t)) : ∀ q ∈ (C.brs x).map (fun b => b.1 * f b.2), Mh.Bd (wt x * B) (wt x * Y) q := by
  intro q hq
  obtain ⟨b, hb, rfl⟩ := List.mem_map.mp hq
  exact (sz.ch ok hx hb).mul (hf b.2 (ok.tg x hx b hb))
theorem w_mul {a B : Nat} (h : a ≤ 24) (hB : B ≤ 2 ^ 3900) : a * B < 2 ^ 4000 := by
  have h1 : a * B ≤ 2 ^ 5 * 2 ^ 3900 := Nat.mul_le_mul (Mh.le_pow5 h) hB
  rw [← Nat.pow_add] at h1
  exact Nat.lt_of_le_of_lt h1 (p2 (by decide))
theorem w_mul7 {a k B : Nat} (hk : k ≤ 6) (h : a ≤ 24) (hB : B ≤ 2 ^ 3900) : (k + 1) * (a * B) < 2 ^ 4000 := by
  have h1 : (k + 1) * (a * B) ≤ 2 ^ 3 * (2 ^ 5 * 2 ^ 3900) := Nat.mul_le_mul (by omega) (Nat.mul_le_mul (Mh.le_pow5 h) hB)
  rw [← Nat.pow_add, ← Nat.pow_add] at h1
  exact Nat.lt_of_le_of_lt h1 (p2 (by decide))
theorem cal_mean {f fM fT : Addr} {fd fdM fdT : FuncData} (F : Fun K "mean_at" "mean_at" sMean f fd) (g : mg "mean_at" = some (.ref f)) (CM : Cal P w K mg base "times" ["a", "b"] 2 fM fdM (spBin K (· * ·) Z4)) (CT : Cal P w K mg base "total" ["numbers"] 3 fT fdT (spTotal K)) :
    Cal P w K mg base "mean_at" ["chain", "place", "numbers"] 4 f fd (spMean K) := by
  refine ⟨g, F.kp, F.binds fun _ _ _ _ _ _ us hl => match us, hl with | [_, _, _], _ => rfl, ?_⟩
  refine F.ok scMean (fun vs H Q E h => ?_) (fun cdv A outer s H vs Q E hr h => ?_)
  · obtain ⟨a, nb, x, C, wt, f, B, Y, rfl, _⟩ := h
    rfl
  · obtain ⟨a, nb, x, C, wt, f, Bn, Y, rfl, hC, ok, sz, hx, ⟨nvs, env, pnv⟩, b0, b1, y1, hf, k⟩ := h
    have hr2 : Room 2 _ := hr.mono (by decide)
    have nd := scMean.nd
    refine ⟨_, pss_one (ps_ret (pe_call CT.ok hr (by rfl) CT.g CT.kp CT.b .nil pass0 (pa_cons (pe_lc (own := [("chance", 3), ("target", 4)]) (g := gTup K 2 (gCons (gName 3) (gCons (gName 4) gNil))) (tt := tYes) (te := tCall (spBin K (· * ·) Z4) [] E0 (tCons (tVar 3) (tCons (tOp (rIxL K) (tVar 2) (tVar 4)) tNil))) rfl nd
      (pi_list (pe_ix ix_tup (pe_ix ix_list (pv 0) (pv 1) (fun _ _ => rfl)) pe_int (fun _ _ => rfl))) (blkOk_by (N := nMean) (sc := defScope sMean) (by decide +kernel)) (fun _ _ _ _ _ => pg_tup rfl (pgs_cons (pg_name (i := 3) nd rfl (.inl rfl)) (pgs_cons (pg_name (i := 4) nd rfl (.inl rfl)) pgs_nil))) (fun _ _ _ _ _ => pts_nil)
      (fun _ _ _ _ _ => pe_call CM.ok hr2 (by rfl) CM.g CM.kp CM.b .nil pass0 (pa_cons (pv 3) (pa_cons (pe_ix (ixL K) (pv 2) (pv 4) (fun _ _ => rfl)) pa_nil)))) pa_nil))), ?_⟩
    obtain ⟨cvs, hcv, hcl, hcp⟩ := id hC
    obtain ⟨cv, hcvi⟩ : ∃ cv, cvs[x]? = some cv := ⟨_, List.getElem?_eq_getElem (by rw [hcl]; exact hx)⟩
    obtain ⟨t, gv, b, us, rfl, ht, _, hb, hbp⟩ := hcp _ _ hcvi
    have hw := sz.w0 x hx
    have h6 := sz.bl x hx
    refine ⟨_, rfl, _, rfl, a, _, _, _, rfl, rfl, .of hcv, atI_nat hcvi, t, _, 2, .ref b, rfl, rfl, ht, rfl, b, rfl, ⟨_, .of hb⟩, fun D hD => ?_⟩
    refine lc_list (K := K) (a := b) (xs := us) (fun m H2 => Same H H2 ∧ RowN K H2 D (((C.brs x).take m).map fun b => b.1 * f b.2)) ⟨same_upd hD, _, upd_same, .nil⟩ (fun m H2 _ ⟨s2, _⟩ => s2.seq (.of hb)) ?_ ?_
    · rintro m v H2 hm ⟨s2, vs, eD, pD⟩
      obtain ⟨⟨ch, tt⟩, hbm, t2, cv2, rfl, ht2, hch⟩ := pget hbp hm
      have hmem : (ch, tt) ∈ C.brs x := List.mem_of_getElem? hbm
      have htt := ok.tg x hx _ hmem
      obtain ⟨nv, hnv, nn⟩ := pgetr pnv (tab_get (f := f) htt)
      have szc : Mh.Sz 4000 ch := by
        have h24 : wt x < 2 ^ 4000 := Nat.lt_of_le_of_lt (Mh.le_pow5 hw.2) (p2 (by decide))
        exact (sz.ch ok hx hmem).sz hw.1 h24 h24
      have szf : Mh.Sz 4000 (f tt) := (hf tt htt).sz b0 (Nat.lt_of_le_of_lt y1 (p2 (by decide))) (Nat.lt_of_le_of_lt b1 (p2 (by decide)))
      refine ⟨t2, [cv2, .int (tt : Int)], rfl, same_tup s2 ht2, rfl, cv2, [.int (tt : Int)], rfl, .int (tt : Int), [], rfl, rfl, rfl, ?_⟩
      refine ⟨_, rfl, _, rfl, _, rfl, nb, _, _, nv, rfl, rfl, .of (s2 _ _ env), atI_nat hnv, cv2, nv, ch, f tt, rfl, hch.same s2, nn.same s2, ⟨szc, szf⟩, fun H3 v3 s3 n3 => ?_⟩
      refine ⟨vs, s3 _ _ eD, ?_, Ex.same ex_upd (s2.trans s3) hD, ?_⟩
      · rw [pD.length, List.length_map, List.length_take]; exact small1000 (by omega)
      · rw [take_map_snoc _ hbm]
        exact RowN.snoc eD pD s3 n3
    · rintro H2 ⟨s2, vs, eD, pD⟩
      rw [hbp.length, List.take_length] at pD
      refine ⟨D, vs, _, wt x * Bn, wt x * Y, rfl, .of eD, pD, Nat.mul_pos hw.1 b0, w_mul hw.2 b1, by rw [List.length_map]; exact w_mul7 h6 hw.2 y1, br_terms sz ok hx hf, fun H3 v s3 n3 => ?_⟩
      rw [Mh.bm_sum] at n3
      exact k H3 v (s2.trans s3) n3
/-! ### first_gains -/
abbrev sFirst : Stmt := topS 26
abbrev nFirst : List Str := ["chain", "steps", "_", "found", "place", "here"]
theorem scFirst : FnScope nFirst ["chain", "steps"] (defScope sFirst) := ⟨rfl, rfl, rfl, by decide +kernel, rfl, by decide +kernel, by decide +kernel⟩
def spFirst (K : PySem.W.Frag) : Sp := fun vs H Q _ => ∃ (a : Addr) (m : Nat) (C : Mh.Ch) (wt : Nat → Nat), vs = [.ref a, .int (m : Int)] ∧ ChAt K H a C ∧ C.Ok ∧ C.Sized wt ∧ m ≤ 30 ∧ ∀ H' p, Same H H' → H p = none → RowN K H' p (tab C.n (Mh.told C m)) → Q (.ref p) H'
def g1k : List Value → List Value → List Value
  | [u], [v] => [u, v]
  | _, _ => []
def g1kV : List V → List V → List V
  | [u], [v] => [u, v]
  | _, _ => []
/-- a def with one keyword, as its callers see it -/
structure CalK (P : Program) (w : World) (K : PySem.W.Frag) (mg : Str → Option Value) (base : Heap) (x : Str) (ps ks : List Str) (k : Nat) (f : Addr) (fd : FuncData) (sp : Sp) : Prop where
  g : mg x = some (.ref f)
  kp : PySem.W.keepIn K (.ref f) = true
  b : KBinds K fd ps ks g1k g1kV
  ok : FnOk P w K mg base CX0 k f fd ps sp
theorem g1k_rel {vs : List V} {us : List Value} {zs : List V} {ws : List Value} (h : Vals vs us) (h' : Vals zs ws) : Vals (g1kV vs zs) (g1k us ws) := by
  cases h with
  | nil => exact .nil
  | cons a t =>
    cases t with
    | nil =>
      cases h' with
      | nil => exact .nil
      | cons b t' =>
        cases t' with
        | nil => exact .cons a (.cons b .nil)
        | cons _ _ => exact .nil
    | cons _ _ => exact .nil
theorem cal_first {f fP fM tN tO : Addr} {fd fdP fdM : FuncData} (F : Fun K "first_gains" "first_gains" sFirst f fd) (g : mg "first_gains" = some (.ref f)) (B : Bi mg) (T : Con0 K mg tN tO) (CP : Cal P w K mg base "plus" ["a", "b"] 2 fP fdP (spBin K (· + ·) Z4)) (CM : Cal P w K mg base "mean_at" ["chain", "place", "numbers"] 4 fM fdM (spMean K)) :
    CalK P w K mg base "first_gains" ["chain", "steps"] ["steps"] 5 f fd (spFirst K) := by
  refine ⟨g, F.kp, ⟨fun s us ws hK hl => ?_, g1k_rel⟩, ?_⟩
  · obtain ⟨oc, od, kV, doc, pm, an, cdv, ct, osl, rfl, lk, hcd⟩ := F.ex
    match us, ws, hl with
    | [u], [v], _ => exact .of_eq rfl
    | [], _, h => exact nomatch (show (0 : Nat) = 2 from h)
    | [_], [], h => exact nomatch (show (0 : Nat) = 2 from h)
    | [_], _ :: _ :: _, h => exact nomatch (show (0 : Nat) = 2 from h)
    | _ :: _ :: _, _, h => exact nomatch (show (0 : Nat) = 2 from h)
  refine F.ok scFirst (fun vs H Q E h => ?_) (fun cdv A outer s H vs Q E hr h => ?_)
  · obtain ⟨a, m, C, wt, rfl, _⟩ := h
    rfl
  · obtain ⟨a, m, C, wt, rfl, hC, ok, sz, hm, k⟩ := h
    have hr2 : Room 2 _ := hr.mono (by decide)
    have nd := scFirst.nd
    refine ⟨_, pss_cons (ps_set (i := 3) nd rfl (.inr rfl) (pe_lc (own := [("_", 2)]) (g := gName 2) (tt := tYes) (te := tC (.ref tN)) rfl nd (pi_list (pv 0)) (blkOk_by (N := nFirst) (sc := defScope sFirst) (by decide +kernel)) (fun _ _ _ _ _ => pg_name (i := 2) nd rfl (.inl rfl)) (fun _ _ _ _ _ => pts_nil) (fun _ _ _ _ _ => pe_glob (v := .ref tN) (by rfl) T.zN rfl)))
      (pss_cons (ps_for PassesOwn.never rfl (pi_range1 rfl B.range (pa_cons (pv 1) pa_nil)) (pg_name (i := 2) nd rfl (.inl rfl))
        (pss_one (ps_set (i := 3) nd rfl (.inr rfl) (pe_lc (own := [("place", 4), ("here", 5)]) (g := gTup K 2 (gCons (gName 4) (gCons (gName 5) gNil))) (tt := tYes) (te := tCall (spBin K (· + ·) Z4) [] E0 (tCons (tOp (rIxT K) (tVar 5) (tC (.int 0))) (tCons (tCall (spMean K) [] E0 (tCons (tVar 0) (tCons (tVar 4) (tCons (tVar 3) tNil)))) tNil))) rfl nd
          (pi_enum (by rfl) B.enum (pa_cons (pv 0) pa_nil)) (blkOk_by (N := nFirst) (sc := defScope sFirst) (by decide +kernel)) (fun _ _ _ _ _ => pg_tup rfl (pgs_cons (pg_name (i := 4) nd rfl (.inl rfl)) (pgs_cons (pg_name (i := 5) nd rfl (.inl rfl)) pgs_nil))) (fun _ _ _ _ _ => pts_nil)
          (fun _ _ _ _ _ => pe_call CP.ok hr2 (by rfl) CP.g CP.kp CP.b .nil pass0 (pa_cons (pe_ix (ixT K) (pv 5) pe_int (fun _ _ => rfl)) (pa_cons (pe_call CM.ok hr (by rfl) CM.g CM.kp CM.b .nil pass0 (pa_cons (pv 0) (pa_cons (pv 4) (pa_cons (pv 3) pa_nil)))) pa_nil)))))))
      (pss_one (ps_ret (pv 3)))), ?_⟩
    obtain ⟨cvs, hcv, hcl, hcp⟩ := id hC
    have n6 := sz.n6
    obtain ⟨L, l0, l1, hL⟩ := sz.com
    have hbd : ∀ i, i ≤ 30 → ∀ t, t < C.n → Mh.Bd (10 * L ^ i) (500 * i * L ^ i) (Mh.told C i t) := fun i _ t ht => Mh.told_bd sz ok hL i t ht
    have hLi : ∀ i, i ≤ 30 → L ^ i ≤ 2 ^ 840 := fun i hi => Nat.le_trans (Mh.pow_le28 l1 i) (p2l (by omega))
    have hB : ∀ i, i ≤ 30 → 10 * L ^ i ≤ 2 ^ 3000 := fun i hi => by
      have h1 : 10 * L ^ i ≤ 2 ^ 4 * 2 ^ 840 := Nat.mul_le_mul (by decide) (hLi i hi)
      rw [← Nat.pow_add] at h1
      exact Nat.le_trans h1 (p2l (by decide))
    have hY : ∀ i, i ≤ 30 → 500 * i * L ^ i ≤ 2 ^ 3000 := fun i hi => by
      have h0 : 500 * i ≤ 2 ^ 14 := by
        have : (2 : Nat) ^ 14 = 16384 := rfl
        omega
      have h1 : 500 * i * L ^ i ≤ 2 ^ 14 * 2 ^ 840 := Nat.mul_le_mul h0 (hLi i hi)
      rw [← Nat.pow_add] at h1
      exact Nat.le_trans h1 (p2l (by decide))
    refine ⟨_, rfl, a, rfl, ⟨_, .of hcv⟩, fun D hD => ?_⟩
    refine lc_list (K := K) (a := a) (xs := cvs) (fun j H2 => Same H H2 ∧ RowN K H2 D (tab j (fun _ => 0))) ⟨same_upd hD, _, upd_same, .nil⟩ (fun j H2 _ ⟨s2, _⟩ => s2.seq (.of hcv)) ?_ ?_
    · rintro j u H2 hj ⟨s2, vs, eD, pD⟩
      have hjn : j < C.n := by have := (List.getElem?_eq_some_iff.mp hj).1; omega
      refine ⟨rfl, vs, eD, by rw [pD.length, tab_len]; exact small1000 (by omega), Ex.same ex_upd s2 hD, ?_⟩
      rw [tab_succ]
      exact RowN.snoc eD pD (.refl _) ⟨tN, rfl, T.wN _⟩
    rintro H2 ⟨s2, r2⟩
    rw [hcl] at r2
    refine ⟨_, rfl, _, rfl, by omega, by omega, ?_⟩
    rw [show ((m : Nat) : Int).toNat = m from rfl]
    refine for_range (lo := 0) (n := m) (fun i σ H3 => ∃ (fo : Addr) (y2 y4 y5 : Option V), σ = [some (.ref a), some (.int (m : Int)), y2, some (.ref fo), y4, y5] ∧ Same H H3 ∧ H fo = none ∧ RowN K H3 fo (tab C.n (Mh.told C i)))
      ⟨D, none, none, none, rfl, s2, hD, r2⟩ ?_ ?_
    · rintro i σ H3 hi ⟨fo, y2, y4, y5, rfl, s3, hfo, r3⟩
      have hi30 : i ≤ 30 := by omega
      refine ⟨_, rfl, a, cvs, rfl, .of (s3 _ _ hcv), fun D4 hD4 => ?_⟩
      refine lc_it walk_enum (fun j H4 => Same H3 H4 ∧ RowN K H4 D4 (tab j (Mh.told C (i + 1)))) ⟨same_upd hD4, _, upd_same, .nil⟩ (fun j H4 _ ⟨s4, _⟩ => (s3.trans s4).seq (.of hcv)) ?_ ?_
      · rintro j v H4 H5 hj ⟨s4, vs, eD, pD⟩ ⟨T5, v1, v2, rfl, nT, rfl, h1, h2⟩
        have hjn : j < C.n := by omega
        cases h1
        obtain ⟨t, gv, b, us, rfl, ht, hg, _⟩ := hcp j v2 h2
        have sT := same_upd (o := .tup [V.int (j : Int), V.ref t]) nT
        have s45 := s4.trans sT
        have s35 := s3.trans s45
        refine ⟨T5, _, rfl, .of upd_same, rfl, _, _, rfl, _, _, rfl, rfl, rfl, ?_⟩
        refine ⟨_, rfl, t, _, 0, gv, rfl, rfl, same_tup s35 ht, rfl, _, rfl, _, rfl, _, rfl, ?_⟩
        refine ⟨a, fo, j, C, wt, Mh.told C i, _, _, rfl, hC.same s35, ok, sz, hjn, r3.same s45, Nat.mul_pos (by decide) (Nat.pow_pos l0), Nat.le_trans (hB i hi30) (p2l (by decide)), Nat.le_trans (hY i hi30) (p2l (by decide)), hbd i hi30, fun H6 v6 s6 n6' => ?_⟩
        have hmb := sz.meanL ok hjn (hL j hjn) (hbd i hi30)
        have szm : Mh.Sz 4000 (Mh.bm (C.brs j) (Mh.told C i)) := by
          have e1 : L * (10 * L ^ i) ≤ 2 ^ 28 * 2 ^ 3000 := Nat.mul_le_mul l1 (hB i hi30)
          have e2 : L * (500 * i * L ^ i) ≤ 2 ^ 28 * 2 ^ 3000 := Nat.mul_le_mul l1 (hY i hi30)
          rw [← Nat.pow_add] at e1 e2
          exact hmb.sz (Nat.mul_pos l0 (Nat.mul_pos (by decide) (Nat.pow_pos l0))) (Nat.lt_of_le_of_lt e2 (p2 (by decide))) (Nat.lt_of_le_of_lt e1 (p2 (by decide)))
        have sza : Mh.Sz 4000 (C.gain j) := (sz.gn j hjn).sz (by decide) (Nat.lt_of_le_of_lt (show 500 ≤ 2 ^ 9 by decide) (p2 (by decide))) (Nat.lt_of_le_of_lt (show 10 ≤ 2 ^ 4 by decide) (p2 (by decide)))
        refine ⟨gv, v6, _, _, rfl, (hg.same s35).same s6, n6', ⟨sza, szm⟩, fun H7 v7 s7 n7 => ?_⟩
        have s47 := (sT.trans s6).trans s7
        refine ⟨vs, s47 _ _ eD, by rw [pD.length, tab_len]; exact small1000 (by omega), Ex.same ex_upd (s4.trans s47) hD4, ?_⟩
        rw [tab_succ]
        exact RowN.snoc eD pD s47 n7
      · rintro H4 ⟨s4, r4⟩
        rw [hcl] at r4
        exact ⟨D4, _, _, _, rfl, s3.trans s4, s3.free hD4, r4⟩
    · rintro σ H3 ⟨fo, y2, y4, y5, rfl, s3, hfo, r3⟩
      exact ⟨_, rfl, k H3 fo s3 hfo r3⟩
/-! ### spread -/
abbrev sSpreadOf : Stmt := topS 27
abbrev nSpreadOf : List Str := ["numbers", "high", "low", "one"]
theorem scSpreadOf : FnScope nSpreadOf ["numbers"] (defScope sSpreadOf) := ⟨rfl, rfl, rfl, by decide +kernel, rfl, by decide +kernel, by decide +kernel⟩
/-- the greatest and the least of the first m numbers -/
structure HiLo (h : Nat → Rat) (m : Nat) (hi lo : Rat) : Prop where
  h1 : ∀ x, x < m → h x ≤ hi
  h2 : ∀ x, x < m → lo ≤ h x
  h3 : ∃ x, x < m ∧ h x = hi
  h4 : ∃ x, x < m ∧ h x = lo
theorem HiLo.next {h : Nat → Rat} {m : Nat} {hi lo : Rat} (A : HiLo h m hi lo) : HiLo h (m + 1) (if hi < h m then h m else hi) (if h m < lo then h m else lo) := by
  refine ⟨fun x hx => ?_, fun x hx => ?_, ?_, ?_⟩
  · by_cases e : x = m
    · subst e; split <;> grind
    · have := A.h1 x (by omega); split <;> grind
  · by_cases e : x = m
    · subst e; split <;> grind
    · have := A.h2 x (by omega); split <;> grind
  · split
    · exact ⟨m, by omega, rfl⟩
    · obtain ⟨x, a, b⟩ := A.h3; exact ⟨x, by omega, b⟩
  · split
    · exact ⟨m, by omega, rfl⟩
    · obtain ⟨x, a, b⟩ := A.h4; exact ⟨x, by omega, b⟩
theorem HiLo.uniq {h h' : Nat → Rat} {m : Nat} {hi lo hi' lo' : Rat} (A : HiLo h m hi lo) (B : HiLo h' m hi' lo') (e : ∀ x, x < m → h x = h' x) : hi = hi' ∧ lo = lo' := by
  obtain ⟨x, a1, a2⟩ := A.h3
  obtain ⟨y, b1, b2⟩ := B.h3
  obtain ⟨u, c1, c2⟩ := A.h4
  obtain ⟨v, d1, d2⟩ := B.h4
  have := A.h1 y b1; have := B.h1 x a1; have := A.h2 v d1; have := B.h2 u c1
  have := e x a1; have := e y b1; have := e u c1; have := e v d1
  constructor <;> grind
def spSpreadOf (K : PySem.W.Frag) : Sp := fun vs H Q _ => ∃ (a : Addr) (n : Nat) (h : Nat → Rat), vs = [.ref a] ∧ RowN K H a (tab n h) ∧ 0 < n ∧ n ≤ 100 ∧ (∀ x, x < n → Mh.Sz 4000 (h x)) ∧ ∀ H' v hi lo, Same H H' → HiLo h n hi lo → NumV K H' v (hi - lo) → Q v H'
theorem cmp_gt {a b : Rat} : decide ((0 : Int) < (if a < b then -1 else if b < a then 1 else 0)) = decide (b < a) := by
  rw [Bool.eq_iff_iff, decide_eq_true_iff, decide_eq_true_iff]
  by_cases h1 : a < b
  · rw [if_pos h1]; constructor
    · intro z; exact absurd z (by decide)
    · intro z; grind
  · rw [if_neg h1]
    by_cases h2 : b < a
    · rw [if_pos h2]; simp [h2]
    · rw [if_neg h2]; simp [h2]
theorem cmp_lt {a b : Rat} : decide ((if a < b then -1 else if b < a then 1 else 0 : Int) < 0) = decide (a < b) := by
  rw [Bool.eq_iff_iff, decide_eq_true_iff, decide_eq_true_iff]
  by_cases h1 : a < b
  · rw [if_pos h1]; simp [h1]
  · rw [if_neg h1]
    by_cases h2 : b < a
    · rw [if_pos h2]; simp [h1]
    · rw [if_neg h2]; simp [h1]
theorem cal_spreadof {f fC fM : Addr} {fd fdC fdM : FuncData} (F : Fun K "spread_of" "spread_of" sSpreadOf f fd) (g : mg "spread_of" = some (.ref f)) (CC : Cal P w K mg base "compare" ["a", "b"] 1 fC fdC (spCompare K)) (CM : Cal P w K mg base "minus" ["a", "b"] 2 fM fdM (spBin K (· - ·) Z4)) :
    Cal P w K mg base "spread_of" ["numbers"] 3 f fd (spSpreadOf K) := by
  refine ⟨g, F.kp, F.binds fun _ _ _ _ _ _ us hl => match us, hl with | [_], _ => rfl, ?_⟩
  refine F.ok scSpreadOf (fun vs H Q E h => ?_) (fun cdv A outer s H vs Q E hr h => ?_)
  · obtain ⟨a, n, h, rfl, _⟩ := h
    rfl
  · obtain ⟨a, n, h, rfl, ⟨vs, ev, pv0⟩, h0, h100, hz, k⟩ := h
    have hr1 : Room 1 _ := hr.mono (by decide)
    have nd := scSpreadOf.nd
    refine ⟨_, pss_cons (ps_par (i := 1) (j := 2) rfl nd rfl rfl (by decide) rfl rfl (pa_cons (pe_ix ix_list (pv 0) pe_int (fun _ _ => rfl)) (pa_cons (pe_ix ix_list (pv 0) pe_int (fun _ _ => rfl)) pa_nil)) (by rfl))
      (pss_cons (ps_for PassesOwn.never rfl (pi_list (pv 0)) (pg_name (i := 3) nd rfl (.inl rfl))
        (pss_cons (ps_if (pt_cmpR op_gt (pe_call CC.ok hr1 (by rfl) CC.g CC.kp CC.b .nil pass0 (pa_cons (pv 3) (pa_cons (pv 1) pa_nil))) pe_int (nomark _)) (pss_one (ps_set (i := 1) nd rfl (.inl rfl) (pv 3))) pss_nil)
        (pss_one (ps_if (pt_cmpR op_lt (pe_call CC.ok hr1 (by rfl) CC.g CC.kp CC.b .nil pass0 (pa_cons (pv 3) (pa_cons (pv 2) pa_nil))) pe_int (nomark _)) (pss_one (ps_set (i := 2) nd rfl (.inl rfl) (pv 3))) pss_nil))))
      (pss_one (ps_ret (pe_call CM.ok hr (by rfl) CM.g CM.kp CM.b .nil pass0 (pa_cons (pv 1) (pa_cons (pv 2) pa_nil)))))), ?_⟩
    have lv : vs.length = n := by rw [pv0.length, tab_len]
    obtain ⟨v0, hv0, n0⟩ := pgetr pv0 (tab_get (f := h) h0)
    refine ⟨_, rfl, a, _, 0, v0, rfl, rfl, .of ev, atI_nat (j := 0) hv0, _, rfl, a, _, 0, v0, rfl, rfl, .of ev, atI_nat (j := 0) hv0, _, _, rfl, ?_⟩
    refine ⟨_, rfl, a, rfl, ⟨_, .of ev⟩, ?_⟩
    refine for_list (K := K) (a := a) (xs := vs) (fun i σ H2 => ∃ (v1 v2 : V) (y3 : Option V) (hi lo : Rat), σ = [some (.ref a), some v1, some v2, y3] ∧ Same H H2 ∧ NumV K H2 v1 hi ∧ NumV K H2 v2 lo ∧ HiLo h (if i = 0 then 1 else i) hi lo)
      ⟨v0, v0, none, h 0, h 0, rfl, .refl H, n0, n0, ?_⟩ (fun i σ H2 _ ⟨_, _, _, _, _, _, s2, _⟩ => s2.seq (.of ev)) ?_ ?_
    · rw [if_pos rfl]
      exact ⟨fun x hx => by rw [show x = 0 by omega]; exact Rat.le_refl, fun x hx => by rw [show x = 0 by omega]; exact Rat.le_refl, ⟨0, by decide, rfl⟩, ⟨0, by decide, rfl⟩⟩
    · rintro i x σ H2 hi ⟨v1, v2, y3, hi', lo, rfl, s2, n1, n2, A⟩
      obtain ⟨q, hq, nq⟩ := pget pv0 hi
      have hin : i < n := by have := (List.getElem?_eq_some_iff.mp hi).1; omega
      rw [tab_get hin] at hq
      cases hq
      have nq2 := nq.same s2
      have zh : Mh.Sz 4000 hi' := by obtain ⟨x, a, b⟩ := A.h3; rw [← b]; exact hz x (by split at a <;> omega)
      have zl : Mh.Sz 4000 lo := by obtain ⟨x, a, b⟩ := A.h4; rw [← b]; exact hz x (by split at a <;> omega)
      have B : HiLo h (if i + 1 = 0 then 1 else i + 1) (if hi' < h i then h i else hi') (if h i < lo then h i else lo) := by
        rw [if_neg (Nat.succ_ne_zero i)]
        by_cases e : i = 0
        · subst e
          rw [if_pos rfl] at A
          have a1 := A.h1 0 (by decide)
          have a2 := A.h2 0 (by decide)
          have e1 : ¬ hi' < h 0 := by grind
          have e2 : ¬ h 0 < lo := by grind
          rw [if_neg e1, if_neg e2]
          exact A
        · rw [if_neg e] at A
          exact A.next
      refine ⟨_, rfl, _, rfl, x, v1, _, _, rfl, nq2, n1, ⟨hz i hin, zh⟩, _, _, rfl, rfl, _, rfl, ?_⟩
      rw [cmp_gt]
      by_cases c1 : hi' < h i
      · rw [decide_eq_true c1]
        rw [if_pos c1] at B
        refine iteT ⟨_, rfl, _, rfl, _, rfl, x, v2, _, _, rfl, nq2, n2, ⟨hz i hin, zl⟩, _, _, rfl, rfl, _, rfl, ?_⟩
        rw [cmp_lt]
        by_cases c2 : h i < lo
        · rw [decide_eq_true c2]
          rw [if_pos c2] at B
          exact iteT ⟨_, rfl, _, _, _, _, _, rfl, s2, nq2, nq2, B⟩
        · rw [decide_eq_false c2]
          rw [if_neg c2] at B
          exact iteF ⟨_, _, _, _, _, rfl, s2, nq2, n2, B⟩
      · rw [decide_eq_false c1]
        rw [if_neg c1] at B
        refine iteF ⟨_, rfl, _, rfl, x, v2, _, _, rfl, nq2, n2, ⟨hz i hin, zl⟩, _, _, rfl, rfl, _, rfl, ?_⟩
        rw [cmp_lt]
        by_cases c2 : h i < lo
        · rw [decide_eq_true c2]
          rw [if_pos c2] at B
          exact iteT ⟨_, rfl, _, _, _, _, _, rfl, s2, n1, nq2, B⟩
        · rw [decide_eq_false c2]
          rw [if_neg c2] at B
          exact iteF ⟨_, _, _, _, _, rfl, s2, n1, n2, B⟩
    · rintro σ H2 ⟨v1, v2, y3, hi', lo, rfl, s2, n1, n2, A⟩
      rw [lv, if_neg (by omega)] at A
      have zh : Mh.Sz 4000 hi' := by obtain ⟨x, a, b⟩ := A.h3; rw [← b]; exact hz x a
      have zl : Mh.Sz 4000 lo := by obtain ⟨x, a, b⟩ := A.h4; rw [← b]; exact hz x a
      exact ⟨_, rfl, _, rfl, v1, v2, _, _, rfl, n1, n2, ⟨zh, zl⟩, fun H3 v s3 n3 => k H3 v hi' lo (s2.trans s3) A n3⟩
abbrev sSpread : Stmt := topS 28
theorem scSpread : FnScope ["chain"] ["chain"] (defScope sSpread) := ⟨rfl, rfl, rfl, by decide +kernel, rfl, by decide +kernel, by decide +kernel⟩
def spSpread (K : PySem.W.Frag) : Sp := fun vs H Q _ => ∃ (a : Addr) (C : Mh.Ch) (wt : Nat → Nat), vs = [.ref a] ∧ ChAt K H a C ∧ C.Ok ∧ C.Sized wt ∧
  ∀ H' v g h hi lo, Same H H' → NumV K H' v (hi - lo) → HiLo h C.n hi lo → Mh.LG C (Mh.clsOf C) g → Mh.GH C g h → (∀ cl ∈ Mh.clsOf C, Mh.LdCl C g cl h) → Q v H'
theorem cal_spread {f fS fL : Addr} {fd fdS fdL : FuncData} (F : Fun K "spread" "spread" sSpread f fd) (g : mg "spread" = some (.ref f)) (CS : Cal P w K mg base "spread_of" ["numbers"] 3 fS fdS (spSpreadOf K)) (CL : Cal P w K mg base "leads" ["chain"] 8 fL fdL (spLeads K)) :
    Cal P w K mg base "spread" ["chain"] 9 f fd (spSpread K) := by
  refine ⟨g, F.kp, F.binds fun _ _ _ _ _ _ us hl => match us, hl with | [_], _ => rfl, ?_⟩
  refine F.ok scSpread (fun vs H Q E h => ?_) (fun cdv A outer s H vs Q E hr h => ?_)
  · obtain ⟨a, C, wt, rfl, _⟩ := h
    rfl
  · obtain ⟨a, C, wt, rfl, hC, ok, sz, k⟩ := h
    have hr3 : Room 3 _ := hr.mono (by decide)
    refine ⟨_, pss_one (ps_ret (pe_call CS.ok hr3 (by rfl) CS.g CS.kp CS.b .nil pass0 (pa_cons (pe_call CL.ok hr (by rfl) CL.g CL.kp CL.b .nil pass0 (pa_cons (pv 0) pa_nil)) pa_nil))), ?_⟩
    refine ⟨_, rfl, a, C, wt, rfl, hC, ok, sz, fun H1 p gg h s1 hp rh LGg GHh hld hbd => ?_⟩
    obtain ⟨Fn, f0, f1, f2⟩ := hbd
    have hE : 10 * Fn < 2 ^ 4000 := by
      have h1 : 10 * Fn ≤ 2 ^ 4 * 2 ^ 1134 := Nat.mul_le_mul (by decide) f1
      rw [← Nat.pow_add] at h1
      exact Nat.lt_of_le_of_lt h1 (p2 (by decide))
    exact ⟨p, C.n, h, rfl, rh, ok.n0, by have := sz.n6; omega, fun x hx => (f2 x hx).sz (by omega) (p2 (by decide)) hE, fun H2 v hi lo s2 A n2 => k H2 v gg h hi lo (s1.trans s2) n2 A LGg GHh hld⟩
end
end Mw
set_option Elab.async false
set_option linter.all false
set_option maxRecDepth 100000
set_option autoImplicit false
namespace Mw
open PySem PySem.Spec PyProof.Rows L2
section
variable {P : Program} {w : World} {K : PySem.W.Frag} {mg : Str → Option Value} {base : Heap}
/-! ### the law's own gcd -/
abbrev sLgcd : Stmt := topS 31
abbrev nLgcd : List Str := ["_law_a", "_law_b", "_law_step", "_law_rest"]
theorem scLgcd : FnScope nLgcd ["_law_a", "_law_b"] (defScope sLgcd) := ⟨rfl, rfl, rfl, by decide +kernel, rfl, by decide +kernel, by decide +kernel⟩
def spLgcd (K : PySem.W.Frag) : Sp := fun vs H Q _ => ∃ (a b : Int) (q : Nat), vs = [.int a, .int b] ∧ b.natAbs = Nat.gcd a.natAbs b.natAbs * q ∧ q < 2 ^ 2565 ∧ Q (.int ((Nat.gcd a.natAbs b.natAbs : Nat) : Int)) H
theorem abs_if (i : Int) : (if i < 0 then -i else i) = ((i.natAbs : Nat) : Int) := by split <;> omega
theorem cal_lgcd {f : Addr} {fd : FuncData} (F : Fun K "_law_gcd" "_law_gcd" sLgcd f fd) (g : mg "_law_gcd" = some (.ref f)) (B : Bi mg) : Cal P w K mg base "_law_gcd" ["_law_a", "_law_b"] 1 f fd (spLgcd K) := by
  refine ⟨g, F.kp, F.binds fun _ _ _ _ _ _ us hl => match us, hl with | [_, _], _ => rfl, ?_⟩
  refine F.ok scLgcd (fun vs H Q E h => ?_) (fun cdv A outer s H vs Q E hr h => ?_)
  · obtain ⟨a, b, q, rfl, _⟩ := h
    rfl
  · obtain ⟨a, b, q, rfl, hq, hq2, k⟩ := h
    have nd := scLgcd.nd
    refine ⟨_, pss_cons (ps_set (i := 0) nd rfl (.inl rfl) (pe_callB call_abs (by rfl) B.abs (by decide +kernel) (pa_cons (pv 0) pa_nil)))
      (pss_cons (ps_set (i := 1) nd rfl (.inl rfl) (pe_callB call_abs (by rfl) B.abs (by decide +kernel) (pa_cons (pv 1) pa_nil)))
      (pss_cons (ps_for PassesOwn.never rfl (pi_range1 rfl B.range (pa_cons pe_int pa_nil)) (pg_name (i := 2) nd rfl (.inl rfl))
        (pss_cons (ps_if (pt_cmpR op_eq (pv 1) pe_int (nomark _)) (pss_one ps_break) pss_nil)
        (pss_cons (ps_set (i := 3) nd rfl (.inl rfl) (pe_op op_mod (pe_callTy call_int1 (by rfl) B.int (by decide +kernel) (pa_cons (pv 0) pa_nil)) (pv 1)))
        (pss_cons (ps_set (i := 0) nd rfl (.inl rfl) (pv 1))
        (pss_one (ps_set (i := 1) nd rfl (.inl rfl) (pv 3)))))))
      (pss_one (ps_ret (pv 0))))), ?_⟩
    refine ⟨_, rfl, _, rfl, ?_⟩
    rw [abs_if]
    refine ⟨_, rfl, _, rfl, ?_⟩
    rw [abs_if]
    refine ⟨4000, rfl, by decide, by decide, ?_⟩
    refine for_range (lo := 0) (n := 4000) (fun i σ H2 => ∃ (y2 y3 : Option V), σ = [some (.int (((Mh.eu i a.natAbs b.natAbs).1 : Nat) : Int)), some (.int (((Mh.eu i a.natAbs b.natAbs).2 : Nat) : Int)), y2, y3] ∧ H2 = H) ⟨none, none, rfl, rfl⟩ ?_ ?_
    · rintro i σ H2 hi ⟨y2, y3, rfl, rfl⟩
      refine ⟨_, rfl, rfl, _, rfl, ?_⟩
      by_cases e : (Mh.eu i a.natAbs b.natAbs).2 = 0
      · rw [decide_eq_true (by rw [e]; rfl)]
        refine iteT ⟨_, rfl, ?_⟩
        rw [Mh.eu_fst_of e]
        exact k
      · rw [decide_eq_false (fun z => e (by have := V.int.inj z; omega))]
        refine iteF ⟨_, rfl, .inl ⟨_, rfl, _, rfl, _, _, rfl, rfl, by omega, _, rfl, _, rfl, ?_⟩⟩
        refine ⟨some (.int (0 + (i : Int))), some (.int ((((Mh.eu i a.natAbs b.natAbs).1 : Nat) : Int) % (((Mh.eu i a.natAbs b.natAbs).2 : Nat) : Int))), ?_, rfl⟩
        rw [Mh.eu_snoc, if_neg e]
        rfl
    · rintro σ H2 ⟨y2, y3, rfl, rfl⟩
      rw [Mh.eu_gcd_lt hq hq2]
      exact ⟨_, rfl, k⟩
/-! ### the law's own numbers -/
abbrev sLnum : Stmt := topS 32
abbrev nLnum : List Str := ["_law_n", "_law_d", "_law_common"]
theorem scLnum : FnScope nLnum ["_law_n", "_law_d"] (defScope sLnum) := ⟨rfl, rfl, rfl, by decide +kernel, rfl, by decide +kernel, by decide +kernel⟩
def spLnum (K : PySem.W.Frag) : Sp := fun vs H Q _ => ∃ n d : Int, vs = [.int n, .int d] ∧ d ≠ 0 ∧ d.natAbs < 2 ^ 9000 ∧ ((n : Rat) / (d : Rat)).den < 2 ^ 2565 ∧ ∀ H' v, Same H H' → NumV K H' v ((n : Rat) / (d : Rat)) → Q v H'
theorem den_mul {n d : Int} (h : 0 < d) : d.natAbs = Nat.gcd n.natAbs d.natAbs * ((n : Rat) / (d : Rat)).den := by
  have h1 := (num_pos (n := n) h).2
  have h0 := gcd_pos (n := n) (d := d) (by omega)
  have hd : Nat.gcd n.natAbs d.natAbs ∣ d.natAbs := Nat.gcd_dvd_right _ _
  obtain ⟨c, hc⟩ := hd
  have e : d = ((Nat.gcd n.natAbs d.natAbs * c : Nat) : Int) := by rw [← hc]; omega
  have h2 : d / ((Nat.gcd n.natAbs d.natAbs : Nat) : Int) = (c : Int) := by
    conv => lhs; lhs; rw [e]
    rw [Int.natCast_mul, Int.mul_ediv_cancel_left _ (by omega)]
  rw [h2] at h1
  have h3 : ((n : Rat) / (d : Rat)).den = c := by omega
  rw [h3]
  exact hc
theorem cal_lnum {f fG : Addr} {fd fdG : FuncData} (F : Fun K "_law_number" "_law_number" sLnum f fd) (g : mg "_law_number" = some (.ref f)) (CG : Cal P w K mg base "_law_gcd" ["_law_a", "_law_b"] 1 fG fdG (spLgcd K)) : Cal P w K mg base "_law_number" ["_law_n", "_law_d"] 2 f fd (spLnum K) := by
  refine ⟨g, F.kp, F.binds fun _ _ _ _ _ _ us hl => match us, hl with | [_, _], _ => rfl, ?_⟩
  refine F.ok scLnum (fun vs H Q E h => ?_) (fun cdv A outer s H vs Q E hr h => ?_)
  · obtain ⟨n, d, rfl, _⟩ := h
    rfl
  · obtain ⟨n, d, rfl, h0, hd, hden, k⟩ := h
    have nd := scLnum.nd
    refine ⟨_, pss_cons (ps_if (pt_cmpR op_lt (pv 1) pe_int (nomark _)) (pss_cons (ps_set (i := 0) nd rfl (.inl rfl) (pe_un un_neg (pv 0))) (pss_one (ps_set (i := 1) nd rfl (.inl rfl) (pe_un un_neg (pv 1))))) pss_nil)
      (pss_cons (ps_set (i := 2) nd rfl (.inl rfl) (pe_call CG.ok hr (by rfl) CG.g CG.kp CG.b .nil pass0 (pa_cons (pv 0) (pa_cons (pv 1) pa_nil))))
      (pss_one (ps_ret (pe_tup (pa_cons (pe_op op_fdivW (pv 0) (pv 2)) (pa_cons (pe_op op_fdivW (pv 1) (pv 2)) pa_nil)))))), ?_⟩
    refine ⟨_, rfl, _, _, rfl, rfl, _, rfl, ite2 (fun e => ?_) (fun e => ?_)⟩
    · have hneg : d < 0 := of_decide_eq_true e
      have e1 : ((n : Rat) / (d : Rat)) = (((-n : Int) : Rat) / ((-d : Int) : Rat)) := by
        rw [Rat.intCast_neg, Rat.intCast_neg]; have := Mh.int_rat_ne h0; grind
      rw [e1] at hden
      have hg := gcd_div (n := -n) (d := -d) (by omega) (by rw [Int.natAbs_neg]; exact hd)
      obtain ⟨n1, n2⟩ := num_pos (n := -n) (d := -d) (by omega)
      refine ⟨_, rfl, _, rfl, _, rfl, _, rfl, ?_⟩
      refine ⟨_, rfl, _, rfl, -n, -d, _, rfl, den_mul (n := -n) (d := -d) (by omega), hden, ?_⟩
      refine ⟨_, rfl, _, rfl, _, _, rfl, rfl, hg.1, _, rfl, _, rfl, _, _, rfl, rfl, hg.2, by show 2 ≤ sizeLine; decide, fun t ht => ?_⟩
      refine k _ _ (same_upd ht) ⟨t, rfl, .of ?_⟩
      rw [upd_same, e1]
      show some (HO.tup [V.int _, V.int _]) = some (HO.tup [V.int _, V.int _])
      rw [n1, n2]
    · have hpos : 0 < d := by have : ¬ d < 0 := fun z => e (decide_eq_true z); omega
      have hg := gcd_div (n := n) h0 hd
      obtain ⟨n1, n2⟩ := num_pos (n := n) (d := d) hpos
      refine ⟨_, rfl, _, rfl, n, d, _, rfl, den_mul hpos, hden, ?_⟩
      refine ⟨_, rfl, _, rfl, _, _, rfl, rfl, hg.1, _, rfl, _, rfl, _, _, rfl, rfl, hg.2, by show 2 ≤ sizeLine; decide, fun t ht => ?_⟩
      refine k _ _ (same_upd ht) ⟨t, rfl, .of ?_⟩
      rw [upd_same]
      show some (HO.tup [V.int _, V.int _]) = some (HO.tup [V.int _, V.int _])
      rw [n1, n2]
abbrev sLplus : Stmt := topS 33
abbrev sLtimes : Stmt := topS 34
abbrev sLless : Stmt := topS 35
abbrev sLtotal : Stmt := topS 36
abbrev sLminus : Stmt := topS 37
abbrev sLisnum : Stmt := topS 38
abbrev nLab : List Str := ["_law_a", "_law_b"]
theorem scLplus : FnScope nLab nLab (defScope sLplus) := ⟨rfl, rfl, rfl, by decide +kernel, rfl, by decide +kernel, by decide +kernel⟩
theorem scLtimes : FnScope nLab nLab (defScope sLtimes) := ⟨rfl, rfl, rfl, by decide +kernel, rfl, by decide +kernel, by decide +kernel⟩
theorem scLless : FnScope nLab nLab (defScope sLless) := ⟨rfl, rfl, rfl, by decide +kernel, rfl, by decide +kernel, by decide +kernel⟩
theorem scLminus : FnScope nLab nLab (defScope sLminus) := ⟨rfl, rfl, rfl, by decide +kernel, rfl, by decide +kernel, by decide +kernel⟩
theorem cal_lplus {f fN : Addr} {fd fdN : FuncData} (F : Fun K "_law_plus" "_law_plus" sLplus f fd) (g : mg "_law_plus" = some (.ref f)) (N : Cal P w K mg base "_law_number" ["_law_n", "_law_d"] 2 fN fdN (spLnum K)) : Cal P w K mg base "_law_plus" nLab 3 f fd (spBin K (· + ·) fun a b => Z4 a b ∧ (a + b).den < 2 ^ 2565) := by
  refine ⟨g, F.kp, F.binds fun _ _ _ _ _ _ us hl => match us, hl with | [_, _], _ => rfl, ?_⟩
  refine F.ok scLplus (fun vs H Q E h => ?_) (fun cdv A outer s H vs Q E hr h => ?_)
  · obtain ⟨v1, v2, a, b, rfl, _⟩ := h
    rfl
  · obtain ⟨v1, v2, a, b, rfl, h1, h2, ⟨⟨z1, z2⟩, hd⟩, k⟩ := h
    refine ⟨_, pss_one (ps_ret (pe_call N.ok hr (by rfl) N.g N.kp N.b .nil pass0 (pa_cons (pe_op op_add (pe_op op_mulW (pe_ix ix_tup (pv 0) pe_int (fun _ _ => rfl)) (pe_ix ix_tup (pv 1) pe_int (fun _ _ => rfl))) (pe_op op_mulW (pe_ix ix_tup (pv 1) pe_int (fun _ _ => rfl)) (pe_ix ix_tup (pv 0) pe_int (fun _ _ => rfl))))
      (pa_cons (pe_op op_mulW (pe_ix ix_tup (pv 0) pe_int (fun _ _ => rfl)) (pe_ix ix_tup (pv 1) pe_int (fun _ _ => rfl))) pa_nil)))), ?_⟩
    refine ⟨_, rfl, num0 h1 ⟨_, rfl, num1 h2 ⟨_, _, rfl, rfl, z_mul z1.1 (zd z2), _, rfl, num0 h2 ⟨_, rfl, num1 h1 ⟨_, _, rfl, rfl, z_mul z2.1 (zd z1), _, _, rfl, rfl, ?_⟩⟩⟩⟩⟩
    refine ⟨_, rfl, num1 h1 ⟨_, rfl, num1 h2 ⟨_, _, rfl, rfl, z_mul (zd z1) (zd z2), ?_⟩⟩⟩
    refine ⟨_, _, rfl, Int.mul_ne_zero (by have := a.den_nz; omega) (by have := b.den_nz; omega), z_mul9 (zd z1) (zd z2), by rw [plus_eq]; exact hd, fun H' v s n => k H' v s ?_⟩
    rw [plus_eq] at n
    exact n
theorem cal_ltimes {f fN : Addr} {fd fdN : FuncData} (F : Fun K "_law_times" "_law_times" sLtimes f fd) (g : mg "_law_times" = some (.ref f)) (N : Cal P w K mg base "_law_number" ["_law_n", "_law_d"] 2 fN fdN (spLnum K)) : Cal P w K mg base "_law_times" nLab 3 f fd (spBin K (· * ·) fun a b => Z4 a b ∧ (a * b).den < 2 ^ 2565) := by
  refine ⟨g, F.kp, F.binds fun _ _ _ _ _ _ us hl => match us, hl with | [_, _], _ => rfl, ?_⟩
  refine F.ok scLtimes (fun vs H Q E h => ?_) (fun cdv A outer s H vs Q E hr h => ?_)
  · obtain ⟨v1, v2, a, b, rfl, _⟩ := h
    rfl
  · obtain ⟨v1, v2, a, b, rfl, h1, h2, ⟨⟨z1, z2⟩, hd⟩, k⟩ := h
    refine ⟨_, pss_one (ps_ret (pe_call N.ok hr (by rfl) N.g N.kp N.b .nil pass0 (pa_cons (pe_op op_mulW (pe_ix ix_tup (pv 0) pe_int (fun _ _ => rfl)) (pe_ix ix_tup (pv 1) pe_int (fun _ _ => rfl)))
      (pa_cons (pe_op op_mulW (pe_ix ix_tup (pv 0) pe_int (fun _ _ => rfl)) (pe_ix ix_tup (pv 1) pe_int (fun _ _ => rfl))) pa_nil)))), ?_⟩
    refine ⟨_, rfl, num0 h1 ⟨_, rfl, num0 h2 ⟨_, _, rfl, rfl, z_mul z1.1 z2.1, ?_⟩⟩⟩
    refine ⟨_, rfl, num1 h1 ⟨_, rfl, num1 h2 ⟨_, _, rfl, rfl, z_mul (zd z1) (zd z2), ?_⟩⟩⟩
    refine ⟨_, _, rfl, Int.mul_ne_zero (by have := a.den_nz; omega) (by have := b.den_nz; omega), z_mul9 (zd z1) (zd z2), by rw [times_eq]; exact hd, fun H' v s n => k H' v s ?_⟩
    rw [times_eq] at n
    exact n
def spLless (K : PySem.W.Frag) : Sp := fun vs H Q _ => ∃ (v1 v2 : V) (a b : Rat), vs = [v1, v2] ∧ NumV K H v1 a ∧ NumV K H v2 b ∧ Z4 a b ∧ Q (.bl (decide (a < b))) H
theorem cal_lless {f : Addr} {fd : FuncData} (F : Fun K "_law_less" "_law_less" sLless f fd) (g : mg "_law_less" = some (.ref f)) : Cal P w K mg base "_law_less" nLab 1 f fd (spLless K) := by
  refine ⟨g, F.kp, F.binds fun _ _ _ _ _ _ us hl => match us, hl with | [_, _], _ => rfl, ?_⟩
  refine F.ok scLless (fun vs H Q E h => ?_) (fun cdv A outer s H vs Q E hr h => ?_)
  · obtain ⟨v1, v2, a, b, rfl, _⟩ := h
    rfl
  · obtain ⟨v1, v2, a, b, rfl, h1, h2, ⟨z1, z2⟩, k⟩ := h
    refine ⟨_, pss_one (ps_ret (pe_cmpR op_lt (pe_op op_mulW (pe_ix ix_tup (pv 0) pe_int (fun _ _ => rfl)) (pe_ix ix_tup (pv 1) pe_int (fun _ _ => rfl))) (pe_op op_mulW (pe_ix ix_tup (pv 1) pe_int (fun _ _ => rfl)) (pe_ix ix_tup (pv 0) pe_int (fun _ _ => rfl))) (nomark _))), ?_⟩
    refine ⟨_, rfl, num0 h1 ⟨_, rfl, num1 h2 ⟨_, _, rfl, rfl, z_mul z1.1 (zd z2), _, rfl, num0 h2 ⟨_, rfl, num1 h1 ⟨_, _, rfl, rfl, z_mul z2.1 (zd z1), _, _, rfl, rfl, ?_⟩⟩⟩⟩⟩
    have e : decide (a.num * (b.den : Int) < b.num * (a.den : Int)) = decide (a < b) := by
      rw [Bool.eq_iff_iff, decide_eq_true_iff, decide_eq_true_iff]
      exact (lt_iff a b).symm
    show Q (.bl (decide (a.num * (b.den : Int) < b.num * (a.den : Int)))) H
    rw [e]
    exact k
theorem cal_lminus {f fP : Addr} {fd fdP : FuncData} (F : Fun K "_law_minus" "_law_minus" sLminus f fd) (g : mg "_law_minus" = some (.ref f)) (CP : Cal P w K mg base "_law_plus" nLab 3 fP fdP (spBin K (· + ·) fun a b => Z4 a b ∧ (a + b).den < 2 ^ 2565)) : Cal P w K mg base "_law_minus" nLab 4 f fd (spBin K (· - ·) fun a b => Z4 a b ∧ (a - b).den < 2 ^ 2565) := by
  refine ⟨g, F.kp, F.binds fun _ _ _ _ _ _ us hl => match us, hl with | [_, _], _ => rfl, ?_⟩
  refine F.ok scLminus (fun vs H Q E h => ?_) (fun cdv A outer s H vs Q E hr h => ?_)
  · obtain ⟨v1, v2, a, b, rfl, _⟩ := h
    rfl
  · obtain ⟨v1, v2, a, b, rfl, h1, h2, ⟨⟨z1, z2⟩, hd⟩, k⟩ := h
    refine ⟨_, pss_one (ps_ret (pe_call CP.ok hr (by rfl) CP.g CP.kp CP.b .nil pass0 (pa_cons (pv 0) (pa_cons (pe_tup (pa_cons (pe_un un_neg (pe_ix ix_tup (pv 1) pe_int (fun _ _ => rfl))) (pa_cons (pe_ix ix_tup (pv 1) pe_int (fun _ _ => rfl)) pa_nil))) pa_nil)))), ?_⟩
    refine ⟨_, rfl, _, rfl, num0 h2 ⟨_, rfl, _, rfl, num1 h2 ⟨by show 2 ≤ sizeLine; decide, fun t ht => ?_⟩⟩⟩
    have e : a - b = a + -b := by grind
    rw [e] at hd
    have n2 : NumV K (upd H t (.tup [.int (-b.num), .int (b.den : Int)])) (.ref t) (-b) := ⟨t, rfl, .of (by rw [upd_same]; unfold NV; rw [Rat.neg_num, Rat.neg_den])⟩
    refine ⟨v1, .ref t, a, -b, rfl, h1.same (same_upd ht), n2, ⟨⟨z1, z2.neg⟩, hd⟩, fun H' v s n => k H' v ((same_upd ht).trans s) ?_⟩
    have n' : NumV K H' v (a + -b) := n
    show NumV K H' v (a - b)
    rw [e]
    exact n'
abbrev nLtotal : List Str := ["_law_numbers", "_law_found", "_law_one"]
theorem scLtotal : FnScope nLtotal ["_law_numbers"] (defScope sLtotal) := ⟨rfl, rfl, rfl, by decide +kernel, rfl, by decide +kernel, by decide +kernel⟩
def spLtotal (K : PySem.W.Frag) : Sp := fun vs H Q _ => ∃ (a : Addr) (us : List V) (qs : List Rat) (E N : Nat), vs = [.ref a] ∧ SqL K H a us ∧ Paired (NumV K H) us qs ∧ 0 < E ∧ E < 2 ^ 2565 ∧ (qs.length + 1) * N < 2 ^ 4000 ∧ (∀ q ∈ qs, Mh.Bd E N q) ∧ ∀ H' v, Same H H' → NumV K H' v qs.sum → Q v H'
theorem cal_ltotal {f fP : Addr} {fd fdP : FuncData} (F : Fun K "_law_total" "_law_total" sLtotal f fd) (g : mg "_law_total" = some (.ref f)) (CP : Cal P w K mg base "_law_plus" nLab 3 fP fdP (spBin K (· + ·) fun a b => Z4 a b ∧ (a + b).den < 2 ^ 2565)) : Cal P w K mg base "_law_total" ["_law_numbers"] 4 f fd (spLtotal K) := by
  refine ⟨g, F.kp, F.binds fun _ _ _ _ _ _ us hl => match us, hl with | [_], _ => rfl, ?_⟩
  refine F.ok scLtotal (fun vs H Q E h => ?_) (fun cdv A outer s H vs Q E hr h => ?_)
  · obtain ⟨a, us, qs, B, N, rfl, _⟩ := h
    rfl
  · obtain ⟨a, us, qs, B, N, rfl, hS, hp, b0, b1, b2, hb, k⟩ := h
    have nd := scLtotal.nd
    have b1' : B < 2 ^ 4000 := Nat.lt_of_lt_of_le b1 (p2l (by decide))
    refine ⟨_, pss_cons (ps_set (i := 1) nd rfl (.inl rfl) (pe_tup (pa_cons pe_int (pa_cons pe_int pa_nil))))
      (pss_cons (ps_for PassesOwn.never rfl (pi_list (pv 0)) (pg_name (i := 2) nd rfl (.inl rfl))
        (pss_one (ps_set (i := 1) nd rfl (.inl rfl) (pe_call CP.ok hr (by rfl) CP.g CP.kp CP.b .nil pass0 (pa_cons (pv 1) (pa_cons (pv 2) pa_nil))))))
      (pss_one (ps_ret (pv 1)))), ?_⟩
    have bt : ∀ i, Mh.Sz 4000 (qs.take i).sum := fun i => by
      refine (bd_sum (l := qs.take i) fun q hq => hb q (List.mem_of_mem_take hq)).sz b0 (Nat.lt_of_le_of_lt (Nat.mul_le_mul_right _ ?_) b2) b1'
      rw [List.length_take]; omega
    have bden : ∀ i, (qs.take i).sum.den < 2 ^ 2565 := fun i => Nat.lt_of_le_of_lt ((bd_sum (l := qs.take i) fun q hq => hb q (List.mem_of_mem_take hq)).den b0) b1
    refine ⟨by show 2 ≤ sizeLine; decide, fun t ht => ?_⟩
    have st := same_upd (o := .tup [V.int 0, V.int 1]) ht
    refine ⟨_, rfl, a, rfl, ⟨_, st.seq hS⟩, for_list (K := K) (a := a) (xs := us) (fun i σ H2 => ∃ v y, σ = [some (.ref a), some v, y] ∧ Same H H2 ∧ NumV K H2 v (qs.take i).sum) ⟨.ref t, none, rfl, st, t, rfl, .of upd_same⟩ (fun i σ H2 _ ⟨_, _, _, s2, _⟩ => s2.seq hS) ?_ ?_⟩
    · rintro i x σ H2 hi ⟨v, y, rfl, s2, n2⟩
      obtain ⟨q, hq, nq⟩ := pget hp hi
      have hqm : q ∈ qs := List.mem_of_getElem? hq
      have e : (qs.take (i + 1)).sum = (qs.take i).sum + q := by rw [take_snoc hq, sum_snoc]
      refine ⟨_, rfl, _, rfl, v, x, _, q, rfl, n2, nq.same s2, ⟨⟨bt i, (hb q hqm).sz b0 (Nat.lt_of_le_of_lt (Nat.le_mul_of_pos_left _ (by omega)) b2) b1'⟩, by rw [← e]; exact bden (i + 1)⟩, fun H3 z s3 n3 => ?_⟩
      refine ⟨z, some x, rfl, s2.trans s3, ?_⟩
      rw [e]
      exact n3
    · rintro σ H2 ⟨v, y, rfl, s2, n2⟩
      refine ⟨_, rfl, k H2 v s2 ?_⟩
      rw [← List.take_length (l := qs), ← hp.length]
      exact n2
/-! ### is it a number -/
abbrev nLisnum : List Str := ["_law_actual", "_law_one"]
theorem scLisnum : FnScope nLisnum ["_law_actual"] (defScope sLisnum) := ⟨rfl, rfl, rfl, by decide +kernel, rfl, by decide +kernel, by decide +kernel⟩
def spLisnum (K : PySem.W.Frag) : Sp := fun vs H Q _ => ∃ (v : V) (q : Rat), vs = [v] ∧ NumV K H v q ∧ q.den < 2 ^ 2565 ∧ Q (.bl true) H
theorem NumV.tyx {K : PySem.W.Frag} {H : Hp} {v : V} {q : Rat} (h : NumV K H v q) : TyX K H v (.type "tuple") := by
  obtain ⟨t, rfl, h⟩ := h
  rcases h with (h | ⟨u, h⟩) | ⟨o, its, n, h1, h2, _⟩
  · exact .base (.tup h)
  · exact .fTuple h
  · exact .kTuple h1 h2
theorem cal_lisnum {f fG : Addr} {fd fdG : FuncData} (F : Fun K "_law_is_number" "_law_is_number" sLisnum f fd) (g : mg "_law_is_number" = some (.ref f)) (B : Bi mg) (CG : Cal P w K mg base "_law_gcd" ["_law_a", "_law_b"] 1 fG fdG (spLgcd K)) : Cal P w K mg base "_law_is_number" ["_law_actual"] 2 f fd (spLisnum K) := by
  refine ⟨g, F.kp, F.binds fun _ _ _ _ _ _ us hl => match us, hl with | [_], _ => rfl, ?_⟩
  refine F.ok scLisnum (fun vs H Q E h => ?_) (fun cdv A outer s H vs Q E hr h => ?_)
  · obtain ⟨v, q, rfl, _⟩ := h
    rfl
  · obtain ⟨v, q, rfl, hn, hd, k⟩ := h
    have nd := scLisnum.nd
    refine ⟨_, pss_cons (ps_if (PW.pt (pw_or (pt_not (pt_val (pe_callB call_isi (by rfl) B.isi (by decide +kernel) (pa_cons (pv 0) (pa_cons (pe_bltn (v := .ty "tuple") (by rfl) B.tuple (by decide +kernel) rfl) pa_nil))))) (pw_or1 (pt_cmpR op_ne (pe_callB call_len_seq (by rfl) B.len PySem.boot_len (pa_cons (pv 0) pa_nil)) pe_int (nomark _))))) (pss_one (ps_ret pe_bl)) pss_nil)
      (pss_cons (ps_for PassesOwn.never rfl (pi_tup (pv 0)) (pg_name (i := 1) nd rfl (.inl rfl))
        (pss_one (ps_if (PW.pt (pw_or (pt_not (pt_val (pe_callB call_isi (by rfl) B.isi (by decide +kernel) (pa_cons (pv 1) (pa_cons (pe_bltn (v := .ty "int") (by rfl) B.int (by decide +kernel) rfl) pa_nil))))) (pw_or1 (pt_val (pe_callB call_isi (by rfl) B.isi (by decide +kernel) (pa_cons (pv 1) (pa_cons (pe_bltn (v := .ty "bool") (by rfl) B.bool (by decide +kernel) rfl) pa_nil))))))) (pss_one (ps_ret pe_bl)) pss_nil)))
      (pss_one (ps_ret (pe_and (pe_cmpR op_ge (pe_ix ix_tup (pv 0) pe_int (fun _ _ => rfl)) pe_int (nomark _)) (pe_one (pe_cmpR op_eq (pe_call CG.ok hr (by rfl) CG.g CG.kp CG.b .nil pass0 (pa_cons (pe_ix ix_tup (pv 0) pe_int (fun _ _ => rfl)) (pa_cons (pe_ix ix_tup (pv 0) pe_int (fun _ _ => rfl)) pa_nil))) pe_int (nomark _))))))), ?_⟩
    obtain ⟨t, rfl, ht⟩ := id hn
    refine ⟨_, rfl, .ref t, .ty "tuple", _, _, true, rfl, .ty "tuple", hn.tyx, kit_ty (by decide +kernel), true, rfl, ?_⟩
    refine iteF ⟨_, rfl, t, _, rfl, .inr ht, rfl, _, rfl, ?_⟩
    refine iteF ⟨_, rfl, t, rfl, ⟨_, ht⟩, ?_⟩
    refine for_tup (K := K) (a := t) (xs := NV q) (fun i σ H2 => ∃ y, σ = [some (.ref t), y] ∧ H2 = H) ⟨none, rfl, rfl⟩ (fun i σ H2 _ ⟨_, _, e⟩ => by rw [e]; exact ht) ?_ ?_
    · rintro i x σ H2 hi ⟨y, rfl, rfl⟩
      obtain ⟨z, rfl⟩ : ∃ z, x = V.int z := by
        match i, hi with
        | 0, hi => exact ⟨_, (Option.some.inj hi).symm⟩
        | 1, hi => exact ⟨_, (Option.some.inj hi).symm⟩
        | i + 2, hi => simp at hi
      refine ⟨_, rfl, .int z, .ty "int", _, _, true, rfl, .ty "int", .base (.int z), kit_ty (by decide +kernel), true, rfl, ?_⟩
      refine iteF ⟨_, rfl, .int z, .ty "bool", _, _, false, rfl, .ty "bool", .base (.int z), kit_ty (by decide +kernel), false, rfl, ?_⟩
      exact iteF ⟨_, rfl, rfl⟩
    · rintro σ H2 ⟨y, rfl, rfl⟩
      have hco : Nat.gcd q.num.natAbs ((q.den : Int)).natAbs = 1 := by rw [Int.natAbs_natCast]; exact q.reduced
      have hp := q.den_nz
      refine ⟨_, rfl, num1 hn ⟨_, _, rfl, rfl, _, rfl, ?_⟩⟩
      rw [decide_eq_true (show (1 : Int) ≤ (q.den : Int) by omega)]
      refine iteT ⟨_, rfl, num0 hn ⟨_, rfl, num1 hn ⟨q.num, (q.den : Int), q.den, rfl, by rw [hco, Nat.one_mul, Int.natAbs_natCast], hd, rfl, ?_⟩⟩⟩
      rw [hco]
      exact k
end
end Mw
set_option Elab.async false
set_option linter.all false
set_option maxRecDepth 100000
set_option autoImplicit false
namespace Mw
open PySem PySem.Spec PyProof.Rows L2
abbrev iv (zs : List Int) : List V := zs.map V.int
/-- a remainder as a natural number -/
theorem mod_nat (z : Int) {m : Nat} (h : 0 < m) : ∃ d : Nat, z % (m : Int) = (d : Int) ∧ d < m := by
  have h1 := Int.emod_nonneg z (show (m : Int) ≠ 0 by omega)
  have h2 := Int.emod_lt_of_pos z (show (0 : Int) < (m : Int) by omega)
  exact ⟨(z % (m : Int)).toNat, by omega, by omega⟩
section
variable {P : Program} {w : World} {K : PySem.W.Frag} {mg : Str → Option Value} {base : Heap}
/-! ### the draws -/
abbrev sDraws : Stmt := topS 30
abbrev nDraws : List Str := ["_law_script", "_law_count", "_law_rests", "_law_draws_here", "_law_k", "_law_value", "_law_at", "_law_mixed", "_law_cell"]
theorem scDraws : FnScope nDraws ["_law_script", "_law_count"] (defScope sDraws) := ⟨rfl, rfl, rfl, by decide +kernel, rfl, by decide +kernel, by decide +kernel⟩
def spDraws (K : PySem.W.Frag) : Sp := fun vs H Q _ => ∃ (a : Addr) (ns : List Int), vs = [.ref a, .int 92] ∧ SqL K H a (iv ns) ∧ ns.length ≤ 63 ∧ ∀ H' p (ds : List Nat), Same H H' → H p = none → H' p = some (.lst (ni ds)) → ds.length = 92 → (∀ d ∈ ds, d < 1000) → Q (.ref p) H'
theorem cal_draws {f : Addr} {fd : FuncData} (F : Fun K "_law_draws" "_law_draws" sDraws f fd) (g : mg "_law_draws" = some (.ref f)) (B : Bi mg) : Cal P w K mg base "_law_draws" ["_law_script", "_law_count"] 1 f fd (spDraws K) := by
  refine ⟨g, F.kp, F.binds fun _ _ _ _ _ _ us hl => match us, hl with | [_, _], _ => rfl, ?_⟩
  refine F.ok scDraws (fun vs H Q E h => ?_) (fun cdv A outer s H vs Q E hr h => ?_)
  · obtain ⟨a, ns, rfl, _⟩ := h
    rfl
  · obtain ⟨a, ns, rfl, hS, hn, k⟩ := h
    have nd := scDraws.nd
    refine ⟨_, pss_cons (ps_setLc (i := 2) (own := [("_law_cell", 8)]) (g := gName 8) (tt := tYes) (te := tVar 8) rfl nd rfl rfl (sw_true rfl rfl rfl (by decide +kernel)) (pi_list (pv 0)) (blkOk_by (N := nDraws) (sc := defScope sDraws) (by decide +kernel)) (fun _ _ _ _ _ => pg_name (i := 8) nd rfl (.inl rfl)) (fun _ _ _ _ _ => pts_nil) (fun _ _ _ _ _ => pv 8))
      (pss_cons (ps_set (i := 3) nd rfl (.inl rfl) (pe_lst pa_nil))
      (pss_cons (ps_for PassesOwn.never rfl (pi_range1 rfl B.range (pa_cons (pv 1) pa_nil)) (pg_name (i := 4) nd rfl (.inl rfl))
        (pss_cons (ps_set (i := 5) nd rfl (.inl rfl) pe_int)
        (pss_cons (ps_if (pt_cmpR op_gt (pe_callB call_len_seq (by rfl) B.len PySem.boot_len (pa_cons (pv 2) pa_nil)) pe_int (nomark _))
          (pss_cons (ps_set (i := 6) nd rfl (.inl rfl) (pe_op op_mod (pe_callTy call_int1 (by rfl) B.int (by decide +kernel) (pa_cons (pv 4) pa_nil)) (pe_callB call_len_seq (by rfl) B.len PySem.boot_len (pa_cons (pv 2) pa_nil))))
          (pss_one (ps_if (pt_cmpR op_ge (pe_ix ix_list (pv 2) (pv 6) (fun _ _ => rfl)) (pe_op op_pow pe_int pe_int) (nomark _))
            (pss_cons (ps_set (i := 5) nd rfl (.inl rfl) (pe_op op_mod (pe_callTy call_int1 (by rfl) B.int (by decide +kernel) (pa_cons (pe_ix ix_list (pv 2) (pv 6) (fun _ _ => rfl)) pa_nil)) pe_int))
            (pss_one (ps_asg (pe_op op_fdiv (pe_ix ix_list (pv 2) (pv 6) (fun _ _ => rfl)) pe_int) (pg_sub (pv 2) (pv 6) set_list))))
            (pss_cons (ps_set (i := 7) nd rfl (.inl rfl) (pe_op op_mod (pe_callTy call_int1 (by rfl) B.int (by decide +kernel) (pa_cons (pe_op op_add (pe_op op_add (pe_op op_mul (pe_ix ix_list (pv 2) (pv 6) (fun _ _ => rfl)) pe_int) (pe_op op_mul (pv 4) pe_int)) pe_int) pa_nil)) pe_int))
            (pss_cons (ps_set (i := 7) nd rfl (.inl rfl) (pe_op op_mod (pe_callTy call_int1 (by rfl) B.int (by decide +kernel) (pa_cons (pe_op op_add (pe_op op_mul (pv 7) pe_int) (pv 6)) pa_nil)) pe_int))
            (pss_one (ps_set (i := 5) nd rfl (.inl rfl) (pe_op op_mod (pe_callTy call_int1 (by rfl) B.int (by decide +kernel) (pa_cons (pe_op op_fdiv (pv 7) pe_int) pa_nil)) pe_int))))))))
          pss_nil)
        (pss_one (ps_expr (pe_bm PySem.F.plainAttrs_list PySem.F.slot_list_append PySem.F.type_list_append mt_append (pv 3) (pa_cons (pv 5) pa_nil)))))))
      (pss_one (ps_ret (pv 3))))), ?_⟩
    refine ⟨_, rfl, a, rfl, ⟨_, hS⟩, fun R hR => ?_⟩
    refine lc_list (K := K) (a := a) (xs := iv ns) (fun i H2 => Same H H2 ∧ H2 R = some (.lst (iv (ns.take i)))) ⟨same_upd hR, upd_same⟩ (fun i H2 _ ⟨s2, _⟩ => s2.seq hS) ?_ ?_
    · rintro i x H2 hi ⟨s2, eR⟩
      rw [List.getElem?_map] at hi
      obtain ⟨z, hz, rfl⟩ := Option.map_eq_some_iff.mp hi
      refine ⟨rfl, _, rfl, _, eR, ?_, Ex.same ex_upd s2 hR, ?_⟩
      · rw [List.length_map, List.length_take]; exact small1000 (by omega)
      · rw [upd_same, take_snoc hz]; unfold iv; rw [List.map_append]; rfl
    rintro H2 ⟨s2, eR⟩
    rw [List.length_map, List.take_length] at eR
    have ll : ([] : List V).length ≤ sizeLine := Nat.zero_le _
    refine ⟨ll, fun D hD => ?_⟩
    have sD := same_upd (o := .lst ([] : List V)) hD
    have hDH : H D = none := s2.free hD
    have nRD : R ≠ D := fun e => by rw [← e, eR] at hD; cases hD
    refine ⟨_, rfl, 92, rfl, by decide, by decide, ?_⟩
    refine for_range (lo := 0) (n := 92) (fun i σ H3 => ∃ (rs : List Int) (ds : List Nat) (y4 y5 y6 y7 y8 : Option V), σ = [some (.ref a), some (.int 92), some (.ref R), some (.ref D), y4, y5, y6, y7, y8] ∧ Same H H3 ∧ H3 R = some (.lst (iv rs)) ∧ rs.length = ns.length ∧ H3 D = some (.lst (ni ds)) ∧ ds.length = i ∧ ∀ d ∈ ds, d < 1000)
      ⟨ns, [], none, none, none, none, none, rfl, s2.trans sD, sD _ _ eR, rfl, upd_same, rfl, fun d hd => by cases hd⟩ ?_ ?_
    · rintro i σ H3 hi ⟨rs, ds, y4, y5, y6, y7, y8, rfl, s3, eR3, lR, eD3, lD, hds⟩
      rw [show (0 : Int) + (i : Int) = (i : Int) from Int.zero_add _]
      -- what is left once the value is drawn
      have fin : ∀ (rs' : List Int) (d : Nat) (H4 : Hp) (z6 z7 : Option V), d < 1000 → Same H H4 → H4 R = some (.lst (iv rs')) → rs'.length = ns.length → H4 D = some (.lst (ni ds)) →
          ∃ (rs : List Int) (ds' : List Nat) (y4 y5 y6 y7 y8' : Option V), [some (V.ref a), some (.int 92), some (.ref R), some (.ref D), some (.int (i : Int)), some (.int (d : Int)), z6, z7, y8] = [some (.ref a), some (.int 92), some (.ref R), some (.ref D), y4, y5, y6, y7, y8'] ∧
            Same H (upd H4 D (.lst (ni ds ++ [.int (d : Int)]))) ∧ (upd H4 D (.lst (ni ds ++ [.int (d : Int)]))) R = some (.lst (iv rs)) ∧ rs.length = ns.length ∧ (upd H4 D (.lst (ni ds ++ [.int (d : Int)]))) D = some (.lst (ni ds')) ∧ ds'.length = i + 1 ∧ ∀ d ∈ ds', d < 1000 := by
        intro rs' d H4 z6 z7 hd s4 e4 l4 eD4
        refine ⟨rs', ds ++ [d], _, _, _, _, _, rfl, Ex.same ex_upd s4 hDH, by rw [upd_ne nRD]; exact e4, l4, by rw [upd_same, ni_app]; rfl, by rw [List.length_append, lD]; rfl, fun x hx => ?_⟩
        rcases List.mem_append.mp hx with hx | hx
        · exact hds x hx
        · rw [List.mem_singleton.mp hx]; exact hd
      have hsz : (ni ds).length < sizeLine := by rw [ni_len, lD]; exact small1000 (by omega)
      refine ⟨_, rfl, R, _, rfl, .inl (.of eR3), _, _, rfl, rfl, _, rfl, ?_⟩
      rw [List.length_map]
      by_cases h0 : rs.length = 0
      · rw [decide_eq_false (by omega)]
        refine iteF ⟨_, rfl, .inl ⟨rfl, _, .of eD3⟩, _, rfl, D, _, _, rfl, rfl, eD3, hsz, ?_⟩
        exact fin rs 0 H3 _ _ (by decide) s3 eR3 lR eD3
      · rw [decide_eq_true (show (0 : Int) < (rs.length : Int) by omega)]
        refine iteT ⟨_, rfl, .inl ⟨_, rfl, _, rfl, R, _, rfl, .inl (.of eR3), _, _, rfl, rfl, ?_, ?_⟩⟩
        · rw [List.length_map]; omega
        rw [List.length_map]
        obtain ⟨j, ej, hj⟩ := mod_nat (i : Int) (m := rs.length) (by omega)
        have hz : (iv rs)[j]? = some (.int rs[j]) := by rw [List.getElem?_map, List.getElem?_eq_getElem hj]; rfl
        have hix : ∀ (z : Int), z = (j : Int) → ixN (iv rs).length z = some j := fun z e => by rw [e]; exact ixN_nat (by rw [List.length_map]; exact hj)
        refine ⟨_, rfl, _, rfl, R, _, _, _, rfl, rfl, .of eR3, at_of ej hz, _, _, rfl, rfl, ⟨by decide, by decide, by decide⟩, _, _, rfl, rfl, _, rfl, ite2 (fun _ => ?_) (fun _ => ?_)⟩
        · obtain ⟨d, ed, hd⟩ := mod_nat rs[j] (m := 1000) (by decide)
          refine ⟨_, rfl, _, rfl, R, _, _, _, rfl, rfl, .of eR3, at_of ej hz, .inl ⟨_, rfl, _, _, rfl, rfl, by show (0 : Int) < 1000; decide, ?_⟩⟩
          refine ⟨_, rfl, _, rfl, R, _, _, _, rfl, rfl, .of eR3, at_of ej hz, _, _, rfl, rfl, ⟨by decide, by decide⟩, _, rfl, _, rfl, R, _, _, j, rfl, rfl, eR3, hix _ ej, ?_⟩
          have eD4 : ∀ o, (upd H3 R o) D = some (.lst (ni ds)) := fun o => by rw [upd_ne nRD.symm]; exact eD3
          refine ⟨_, rfl, .inl ⟨rfl, _, .of (eD4 _)⟩, _, rfl, D, _, _, rfl, rfl, eD4 _, hsz, ?_⟩
          have := fin (rs.set j (rs[j] / 1000)) d (upd H3 R (.lst ((iv rs).set j (.int (rs[j] / 1000))))) (some (.int ((i : Int) % (rs.length : Int)))) y7 hd (Ex.same ex_upd s3 hR) (by rw [upd_same]; unfold iv; rw [List.map_set]) (by rw [List.length_set]; exact lR) (eD4 _)
          rw [← ed] at this
          exact this
        · refine ⟨_, rfl, _, rfl, R, _, _, _, rfl, rfl, .of eR3, at_of ej hz, _, _, rfl, rfl, .inr ⟨by decide, by decide⟩, _, rfl, _, _, rfl, rfl, .inr ⟨by decide, by decide⟩, _, _, rfl, rfl, _, _, rfl, rfl, .inl ⟨_, rfl, _, _, rfl, rfl, by show (0 : Int) < 2147483647; decide, ?_⟩⟩
          refine ⟨_, rfl, _, _, rfl, rfl, .inr ⟨by decide, by decide⟩, _, rfl, _, _, rfl, rfl, .inl ⟨_, rfl, _, _, rfl, rfl, by show (0 : Int) < 2147483629; decide, ?_⟩⟩
          refine ⟨_, rfl, _, _, rfl, rfl, ⟨by decide, by decide⟩, .inl ⟨_, rfl, _, _, rfl, rfl, by show (0 : Int) < 1000; decide, ?_⟩⟩
          refine ⟨_, rfl, .inl ⟨rfl, _, .of eD3⟩, _, rfl, D, _, _, rfl, rfl, eD3, hsz, ?_⟩
          obtain ⟨d, ed, hd⟩ := mod_nat ((((rs[j] * 48271 + (i : Int) * 69621 + 11) % 2147483647) * 16807 + (i : Int) % (rs.length : Int)) % 2147483629 / 7) (m := 1000) (by decide)
          have := fin rs d H3 (some (.int ((i : Int) % (rs.length : Int)))) (some (.int ((((rs[j] * 48271 + (i : Int) * 69621 + 11) % 2147483647) * 16807 + (i : Int) % (rs.length : Int)) % 2147483629))) hd s3 eR3 lR eD3
          rw [← ed] at this
          exact this
    · rintro σ H3 ⟨rs, ds, y4, y5, y6, y7, y8, rfl, s3, eR3, lR, eD3, lD, hds⟩
      exact ⟨_, rfl, k H3 D ds s3 hDH eD3 lD hds⟩
end
end Mw
set_option Elab.async false
set_option linter.all false
set_option maxRecDepth 100000
set_option autoImplicit false
namespace Mw
open PySem PySem.Spec PyProof.Rows L2
/-- two draws that lead to one another -/
def ringC (a b : Int) : Mh.Ch := ⟨2, fun x => if x = 0 then (a : Rat) else (b : Rat), fun x => if x = 0 then [(1, 1)] else [(1, 0)]⟩
theorem ring_ok (a b : Int) : (ringC a b).Ok := by
  refine ⟨by show 0 < 2; decide, fun x hx c hc => ?_, fun x hx => ?_, fun x hx c hc => ?_⟩
  · show (0 : Rat) < c.1
    by_cases h : x = 0
    · have : c ∈ [((1 : Rat), 1)] := by have e : (ringC a b).brs x = [(1, 1)] := if_pos h
                                        rw [← e]; exact hc
      rw [List.mem_singleton.mp this]; decide
    · have : c ∈ [((1 : Rat), 0)] := by have e : (ringC a b).brs x = [(1, 0)] := if_neg h
                                        rw [← e]; exact hc
      rw [List.mem_singleton.mp this]; decide
  · by_cases h : x = 0
    · have e : (ringC a b).brs x = [(1, 1)] := if_pos h
      rw [e]; simp only [Mh.bm]; grind
    · have e : (ringC a b).brs x = [(1, 0)] := if_neg h
      rw [e]; simp only [Mh.bm]; grind
  · show c.2 < 2
    by_cases h : x = 0
    · have : c ∈ [((1 : Rat), 1)] := by have e : (ringC a b).brs x = [(1, 1)] := if_pos h
                                        rw [← e]; exact hc
      rw [List.mem_singleton.mp this]; decide
    · have : c ∈ [((1 : Rat), 0)] := by have e : (ringC a b).brs x = [(1, 0)] := if_neg h
                                        rw [← e]; exact hc
      rw [List.mem_singleton.mp this]; decide
theorem bd_int {z : Int} (h : z.natAbs ≤ 50) : Mh.Bd 10 500 (z : Rat) := by
  refine ⟨z * 10, ?_, ?_⟩
  · rw [Rat.intCast_mul]; rfl
  · rw [Int.natAbs_mul]; show z.natAbs * 10 ≤ 500; omega
theorem ring_sized {a b : Int} (ha : a.natAbs ≤ 50) (hb : b.natAbs ≤ 50) : (ringC a b).Sized (fun _ => 1) := by
  refine ⟨by show 2 ≤ 6; decide, fun x hx => by decide, fun x hx c hc => ⟨1, ?_⟩, fun x hx => ?_, fun x hx => ?_⟩
  · have e1 : c.1 = 1 := by
      by_cases h : x = 0
      · have e : (ringC a b).brs x = [(1, 1)] := if_pos h
        rw [e] at hc; rw [List.mem_singleton.mp hc]
      · have e : (ringC a b).brs x = [(1, 0)] := if_neg h
        rw [e] at hc; rw [List.mem_singleton.mp hc]
    rw [e1, Rat.one_mul]
  · show Mh.Bd 10 500 (if x = 0 then (a : Rat) else (b : Rat))
    split
    · exact bd_int ha
    · exact bd_int hb
  · by_cases h : x = 0
    · have e : (ringC a b).brs x = [(1, 1)] := if_pos h
      rw [e]; decide
    · have e : (ringC a b).brs x = [(1, 0)] := if_neg h
      rw [e]; decide
theorem num_int {K : PySem.W.Frag} {H : Hp} {t : Addr} {z : Int} (h : H t = some (.tup [.int z, .int 1])) : NumV K H (.ref t) (z : Rat) := ⟨t, rfl, .of (by rw [h]; unfold NV; rw [Rat.num_intCast, Rat.den_intCast]; rfl)⟩
section
variable {P : Program} {w : World} {K : PySem.W.Frag} {mg : Str → Option Value} {base : Heap}
/-! ### two numbers, the ring -/
abbrev sTwo : Stmt := topS 41
abbrev nTwo : List Str := ["_law_draws_here", "_law_first"]
theorem scTwo : FnScope nTwo ["_law_draws_here"] (defScope sTwo) := ⟨rfl, rfl, rfl, by decide +kernel, rfl, by decide +kernel, by decide +kernel⟩
def spTwo (K : PySem.W.Frag) : Sp := fun vs H Q _ => ∃ (a : Addr) (ds : List Nat), vs = [.ref a] ∧ H a = some (.lst (ni ds)) ∧ 2 ≤ ds.length ∧ ∀ H' t (x y : Int), Same H H' → H' t = some (.tup [.int x, .int y]) → -20 ≤ x → x < y → y ≤ 50 → Q (.ref t) H'
theorem cal_two {f : Addr} {fd : FuncData} (F : Fun K "_law_two" "_law_two" sTwo f fd) (g : mg "_law_two" = some (.ref f)) (B : Bi mg) : Cal P w K mg base "_law_two" ["_law_draws_here"] 1 f fd (spTwo K) := by
  refine ⟨g, F.kp, F.binds fun _ _ _ _ _ _ us hl => match us, hl with | [_], _ => rfl, ?_⟩
  refine F.ok scTwo (fun vs H Q E h => ?_) (fun cdv A outer s H vs Q E hr h => ?_)
  · obtain ⟨a, ds, rfl, _⟩ := h
    rfl
  · obtain ⟨a, ds, rfl, ea, hl, k⟩ := h
    have nd := scTwo.nd
    refine ⟨_, pss_cons (ps_set (i := 1) nd rfl (.inl rfl) (pe_op op_sub (pe_op op_mod (pe_callTy call_int1 (by rfl) B.int (by decide +kernel) (pa_cons (pe_ix ix_list (pv 0) pe_int (fun _ _ => rfl)) pa_nil)) pe_int) pe_int))
      (pss_one (ps_ret (pe_tup (pa_cons (pv 1) (pa_cons (pe_op op_add (pe_op op_add (pv 1) pe_int) (pe_op op_mod (pe_callTy call_int1 (by rfl) B.int (by decide +kernel) (pa_cons (pe_ix ix_list (pv 0) pe_int (fun _ _ => rfl)) pa_nil)) pe_int)) pa_nil))))), ?_⟩
    have h0 := ni_get (ns := ds) (i := 0) (by omega)
    have h1 := ni_get (ns := ds) (i := 1) (by omega)
    refine ⟨_, rfl, a, _, 0, _, rfl, rfl, .of ea, atI_nat (j := 0) h0, .inl ⟨_, rfl, _, _, rfl, rfl, by show (0 : Int) < 41; decide, _, _, rfl, rfl, ?_⟩⟩
    refine ⟨_, rfl, _, rfl, _, _, rfl, rfl, _, rfl, a, _, 1, _, rfl, rfl, .of ea, atI_nat (j := 1) h1, .inl ⟨_, rfl, _, _, rfl, rfl, by show (0 : Int) < 9; decide, _, _, rfl, rfl, by show 2 ≤ sizeLine; decide, fun t ht => ?_⟩⟩
    exact k _ t _ _ (same_upd ht) upd_same (by omega) (by omega) (by omega)
abbrev sRing : Stmt := topS 42
theorem scRing : FnScope nLab nLab (defScope sRing) := ⟨rfl, rfl, rfl, by decide +kernel, rfl, by decide +kernel, by decide +kernel⟩
def spRing (K : PySem.W.Frag) : Sp := fun vs H Q _ => ∃ (x y : Int), vs = [.int x, .int y] ∧ ∀ H' p, Same H H' → H p = none → ChAt K H' p (ringC x y) → Q (.ref p) H'
theorem cal_ring {f : Addr} {fd : FuncData} (F : Fun K "_law_ring" "_law_ring" sRing f fd) (g : mg "_law_ring" = some (.ref f)) : Cal P w K mg base "_law_ring" nLab 1 f fd (spRing K) := by
  refine ⟨g, F.kp, F.binds fun _ _ _ _ _ _ us hl => match us, hl with | [_, _], _ => rfl, ?_⟩
  refine F.ok scRing (fun vs H Q E h => ?_) (fun cdv A outer s H vs Q E hr h => ?_)
  · obtain ⟨x, y, rfl, _⟩ := h
    rfl
  · obtain ⟨x, y, rfl, k⟩ := h
    refine ⟨_, pss_one (ps_ret (pe_lst (pa_cons (pe_tup (pa_cons (pe_tup (pa_cons (pv 0) (pa_cons pe_int pa_nil))) (pa_cons pe_str (pa_cons (pe_lst (pa_cons (pe_tup (pa_cons (pe_tup (pa_cons pe_int (pa_cons pe_int pa_nil))) (pa_cons pe_int pa_nil))) pa_nil)) pa_nil))))
      (pa_cons (pe_tup (pa_cons (pe_tup (pa_cons (pv 1) (pa_cons pe_int pa_nil))) (pa_cons pe_str (pa_cons (pe_lst (pa_cons (pe_tup (pa_cons (pe_tup (pa_cons pe_int (pa_cons pe_int pa_nil))) (pa_cons pe_int pa_nil))) pa_nil)) pa_nil)))) pa_nil)))), ?_⟩
    have l2 : 2 ≤ sizeLine := by decide
    have l1 : 1 ≤ sizeLine := by decide
    have l3 : 3 ≤ sizeLine := by decide
    refine ⟨_, rfl, l2, fun g0 hg0 => ⟨l2, fun c0 hc0 => ⟨l2, fun b0 hb0 => ⟨l1, fun m0 hm0 => ⟨l3, fun t0 ht0 => ?_⟩⟩⟩⟩⟩
    refine ⟨_, rfl, l2, fun g1 hg1 => ⟨l2, fun c1 hc1 => ⟨l2, fun b1 hb1 => ⟨l1, fun m1 hm1 => ⟨l3, fun t1 ht1 => ⟨l2, fun p hp => ?_⟩⟩⟩⟩⟩⟩
    have s1 := same_upd (o := .tup [V.int x, .int 1]) hg0
    have s2 := same_upd (o := .tup [V.int 1, .int 1]) hc0
    have s3 := same_upd (o := .tup [V.ref c0, .int 1]) hb0
    have s4 := same_upd (o := .lst [V.ref b0]) hm0
    have s5 := same_upd (o := .tup [V.ref g0, .str "draw", .ref m0]) ht0
    have s6 := same_upd (o := .tup [V.int y, .int 1]) hg1
    have s7 := same_upd (o := .tup [V.int 1, .int 1]) hc1
    have s8 := same_upd (o := .tup [V.ref c1, .int 0]) hb1
    have s9 := same_upd (o := .lst [V.ref b1]) hm1
    have sA := same_upd (o := .tup [V.ref g1, .str "draw", .ref m1]) ht1
    have sB := same_upd (o := .lst [V.ref t0, .ref t1]) hp
    have r9 := sA.trans sB
    have r8 := s9.trans r9
    have r7 := s8.trans r8
    have r6 := s7.trans r7
    have r5 := s6.trans r6
    have r4 := s5.trans r5
    have r3 := s4.trans r4
    have r2 := s3.trans r3
    have r1 := s2.trans r2
    have hpH : H p = none := ((((((((((s1.trans s2).trans s3).trans s4).trans s5).trans s6).trans s7).trans s8).trans s9).trans sA)).free hp
    refine k _ p (s1.trans r1) hpH ⟨[.ref t0, .ref t1], upd_same, rfl, fun i v hv => ?_⟩
    have one : ∀ {H' : Hp} {t : Addr}, H' t = some (.tup [.int 1, .int 1]) → NumV K H' (.ref t) 1 := fun h => num_int (z := 1) h
    match i, hv with
    | 0, hv =>
      cases hv
      exact ⟨t0, _, m0, _, rfl, .of (r5 _ _ upd_same), num_int (r1 _ _ upd_same), r4 _ _ upd_same, .cons ⟨b0, _, rfl, .of (r3 _ _ upd_same), one (r2 _ _ upd_same)⟩ .nil⟩
    | 1, hv =>
      cases hv
      exact ⟨t1, _, m1, _, rfl, .of (sB _ _ upd_same), num_int (r6 _ _ upd_same), r9 _ _ upd_same, .cons ⟨b1, _, rfl, .of (r8 _ _ upd_same), one (r7 _ _ upd_same)⟩ .nil⟩
    | i + 2, hv => simp at hv
/-! ### the law's own means -/
abbrev sLmeans : Stmt := topS 40
abbrev nLmeans : List Str := ["_law_chain", "_law_numbers", "_law_found", "_law_gain", "_law_kind", "_law_branches", "_law_chance", "_law_target"]
theorem scLmeans : FnScope nLmeans ["_law_chain", "_law_numbers"] (defScope sLmeans) := ⟨rfl, rfl, rfl, by decide +kernel, rfl, by decide +kernel, by decide +kernel⟩
def spLmeans (K : PySem.W.Frag) : Sp := fun vs H Q _ => ∃ (a nb : Addr) (C : Mh.Ch) (wt : Nat → Nat) (f : Nat → Rat) (B Y : Nat), vs = [.ref a, .ref nb] ∧ ChAt K H a C ∧ C.Ok ∧ C.Sized wt ∧ RowN K H nb (tab C.n f) ∧ 0 < B ∧ B ≤ 2 ^ 2500 ∧ Y ≤ 2 ^ 3900 ∧ (∀ t, t < C.n → Mh.Bd B Y (f t)) ∧
  ∀ H' p, Same H H' → H p = none → RowN K H' p (tab C.n (fun x => Mh.bm (C.brs x) f)) → Q (.ref p) H'
theorem cal_lmeans {f fM fT : Addr} {fd fdM fdT : FuncData} (F : Fun K "_law_means" "_law_means" sLmeans f fd) (g : mg "_law_means" = some (.ref f)) (CM : Cal P w K mg base "_law_times" nLab 3 fM fdM (spBin K (· * ·) fun a b => Z4 a b ∧ (a * b).den < 2 ^ 2565)) (CT : Cal P w K mg base "_law_total" ["_law_numbers"] 4 fT fdT (spLtotal K)) :
    Cal P w K mg base "_law_means" ["_law_chain", "_law_numbers"] 5 f fd (spLmeans K) := by
  refine ⟨g, F.kp, F.binds fun _ _ _ _ _ _ us hl => match us, hl with | [_, _], _ => rfl, ?_⟩
  refine F.ok scLmeans (fun vs H Q E h => ?_) (fun cdv A outer s H vs Q E hr h => ?_)
  · obtain ⟨a, nb, C, wt, f, B, Y, rfl, _⟩ := h
    rfl
  · obtain ⟨a, nb, C, wt, f, Bn, Y, rfl, hC, ok, sz, ⟨nvs, env, pnv⟩, b0, b1, y1, hf, k⟩ := h
    have hr3 : Room 3 _ := hr.mono (by decide)
    have nd := scLmeans.nd
    refine ⟨_, pss_cons (ps_set (i := 2) nd rfl (.inl rfl) (pe_lst pa_nil))
      (pss_cons (ps_for PassesOwn.never rfl (pi_list (pv 0)) (pg_tup rfl (pgs_cons (pg_name (i := 3) nd rfl (.inl rfl)) (pgs_cons (pg_name (i := 4) nd rfl (.inl rfl)) (pgs_cons (pg_name (i := 5) nd rfl (.inl rfl)) pgs_nil))))
        (pss_one (ps_expr (pe_bm PySem.F.plainAttrs_list PySem.F.slot_list_append PySem.F.type_list_append mt_append (pv 2) (pa_cons (pe_call CT.ok hr (by rfl) CT.g CT.kp CT.b .nil pass0 (pa_cons
          (pe_lc (own := [("_law_chance", 6), ("_law_target", 7)]) (g := gTup K 2 (gCons (gName 6) (gCons (gName 7) gNil))) (tt := tYes) (te := tCall (spBin K (· * ·) fun a b => Z4 a b ∧ (a * b).den < 2 ^ 2565) [] E0 (tCons (tVar 6) (tCons (tOp (rIxL K) (tVar 1) (tVar 7)) tNil))) rfl nd
            (pi_list (pv 5)) (blkOk_by (N := nLmeans) (sc := defScope sLmeans) (by decide +kernel)) (fun _ _ _ _ _ => pg_tup rfl (pgs_cons (pg_name (i := 6) nd rfl (.inl rfl)) (pgs_cons (pg_name (i := 7) nd rfl (.inl rfl)) pgs_nil))) (fun _ _ _ _ _ => pts_nil)
            (fun _ _ _ _ _ => pe_call CM.ok hr3 (by rfl) CM.g CM.kp CM.b .nil pass0 (pa_cons (pv 6) (pa_cons (pe_ix (ixL K) (pv 1) (pv 7) (fun _ _ => rfl)) pa_nil)))) pa_nil)) pa_nil)))))
      (pss_one (ps_ret (pv 2)))), ?_⟩
    obtain ⟨cvs, hcv, hcl, hcp⟩ := id hC
    have n6 := sz.n6
    have b39 : Bn ≤ 2 ^ 3900 := Nat.le_trans b1 (p2l (by decide))
    have ll : ([] : List V).length ≤ sizeLine := Nat.zero_le _
    refine ⟨ll, fun R hR => ?_⟩
    have sR := same_upd (o := .lst ([] : List V)) hR
    refine ⟨_, rfl, a, rfl, ⟨_, .of (sR _ _ hcv)⟩, ?_⟩
    refine for_list (K := K) (a := a) (xs := cvs) (fun i σ H2 => ∃ (y3 y4 y5 y6 y7 : Option V), σ = [some (.ref a), some (.ref nb), some (.ref R), y3, y4, y5, y6, y7] ∧ Same H H2 ∧ RowN K H2 R (tab i (fun x => Mh.bm (C.brs x) f)))
      ⟨_, _, _, _, _, rfl, sR, _, upd_same, .nil⟩ (fun i σ H2 _ ⟨_, _, _, _, _, _, s2, _⟩ => s2.seq (.of hcv)) ?_ ?_
    · rintro i x σ H2 hi ⟨y3, y4, y5, y6, y7, rfl, s2, vsR, eR, pR⟩
      have hin : i < C.n := by have := (List.getElem?_eq_some_iff.mp hi).1; omega
      obtain ⟨t, gv, b, us, rfl, ht, _, hb, hbp⟩ := hcp _ _ hi
      have hw := sz.w0 i hin
      have h6 := sz.bl i hin
      refine ⟨t, _, rfl, same_tup s2 ht, rfl, _, _, rfl, _, _, rfl, _, _, rfl, rfl, ?_⟩
      refine ⟨_, rfl, .inl ⟨rfl, _, .of eR⟩, _, rfl, b, rfl, ⟨_, .of (s2 _ _ hb)⟩, fun D hD => ?_⟩
      refine lc_list (K := K) (a := b) (xs := us) (fun m H3 => Same H2 H3 ∧ RowN K H3 D (((C.brs i).take m).map fun b => b.1 * f b.2)) ⟨same_upd hD, _, upd_same, .nil⟩ (fun m H3 _ ⟨s3, _⟩ => (s2.trans s3).seq (.of hb)) ?_ ?_
      · rintro m v H3 hm ⟨s3, vs, eD, pD⟩
        have s23 := s2.trans s3
        obtain ⟨⟨ch, tt⟩, hbm, t2, cv2, rfl, ht2, hch⟩ := pget hbp hm
        have hmem : (ch, tt) ∈ C.brs i := List.mem_of_getElem? hbm
        have htt := ok.tg i hin _ hmem
        obtain ⟨nv, hnv, nn⟩ := pgetr pnv (tab_get (f := f) htt)
        have hbc := sz.ch ok hin hmem
        have szc : Mh.Sz 4000 ch := by
          have h24 : wt i < 2 ^ 4000 := Nat.lt_of_le_of_lt (Mh.le_pow5 hw.2) (p2 (by decide))
          exact hbc.sz hw.1 h24 h24
        have szf : Mh.Sz 4000 (f tt) := (hf tt htt).sz b0 (Nat.lt_of_le_of_lt y1 (p2 (by decide))) (Nat.lt_of_le_of_lt b39 (p2 (by decide)))
        have hden : (ch * f tt).den < 2 ^ 2565 := by
          refine Nat.lt_of_le_of_lt ((hbc.mul (hf tt htt)).den (Nat.mul_pos hw.1 b0)) ?_
          have h1 : wt i * Bn ≤ 2 ^ 5 * 2 ^ 2500 := Nat.mul_le_mul (Mh.le_pow5 hw.2) b1
          rw [← Nat.pow_add] at h1
          exact Nat.lt_of_le_of_lt h1 (p2 (by decide))
        refine ⟨t2, [cv2, .int (tt : Int)], rfl, same_tup s23 ht2, rfl, cv2, [.int (tt : Int)], rfl, .int (tt : Int), [], rfl, rfl, rfl, ?_⟩
        refine ⟨_, rfl, _, rfl, _, rfl, nb, _, _, nv, rfl, rfl, .of (s23 _ _ env), atI_nat hnv, cv2, nv, ch, f tt, rfl, hch.same s23, nn.same s23, ⟨⟨szc, szf⟩, hden⟩, fun H4 v4 s4 n4 => ?_⟩
        refine ⟨vs, s4 _ _ eD, ?_, Ex.same ex_upd (s3.trans s4) hD, ?_⟩
        · rw [pD.length, List.length_map, List.length_take]; exact small1000 (by omega)
        · rw [take_map_snoc _ hbm]
          exact RowN.snoc eD pD s4 n4
      · rintro H3 ⟨s3, vs, eD, pD⟩
        rw [hbp.length, List.take_length] at pD
        have h2 : wt i * Bn < 2 ^ 2565 := by
          have h1 : wt i * Bn ≤ 2 ^ 5 * 2 ^ 2500 := Nat.mul_le_mul (Mh.le_pow5 hw.2) b1
          rw [← Nat.pow_add] at h1
          exact Nat.lt_of_le_of_lt h1 (p2 (by decide))
        refine ⟨D, vs, _, wt i * Bn, wt i * Y, rfl, .of eD, pD, Nat.mul_pos hw.1 b0, h2, by rw [List.length_map]; exact w_mul7 h6 hw.2 y1, br_terms sz ok hin hf, fun H4 v s4 n4 => ?_⟩
        rw [Mh.bm_sum] at n4
        have s34 := s3.trans s4
        refine ⟨R, vsR, v, rfl, rfl, s34 _ _ eR, by rw [pR.length, tab_len]; exact small1000 (by omega), ?_⟩
        refine ⟨_, _, _, _, _, rfl, Ex.same ex_upd (s2.trans s34) hR, ?_⟩
        rw [tab_succ]
        exact RowN.snoc eR pR s34 n4
    · rintro σ H2 ⟨y3, y4, y5, y6, y7, rfl, s2, r2⟩
      rw [hcl] at r2
      exact ⟨_, rfl, k H2 R s2 hR r2⟩
end
end Mw
set_option Elab.async false
set_option linter.all false
set_option maxRecDepth 100000
set_option autoImplicit false
namespace Mw
open PySem PySem.Spec PyProof.Rows L2
theorem cut_nat (xs : List V) {lo hi : Nat} (h : hi ≤ xs.length) : cutV xs (some (lo : Int)) (some (hi : Int)) = (xs.drop lo).take (hi - lo) := by
  unfold cutV
  rw [show HT.sIx xs.length 0 (some (lo : Int)) = min lo xs.length from HT.sIx_nat xs.length 0 lo, show HT.sIx xs.length xs.length (some (hi : Int)) = min hi xs.length from HT.sIx_nat xs.length xs.length hi, Nat.min_eq_left h]
  by_cases hl : lo ≤ xs.length
  · rw [Nat.min_eq_left hl]
  · rw [Nat.min_eq_right (by omega), List.drop_of_length_le (Nat.le_refl _), List.drop_of_length_le (by omega), List.take_nil, List.take_nil]
theorem ni_take (l : List Nat) (i : Nat) : (ni l).take i = ni (l.take i) := by unfold ni; rw [List.map_take]
def nsm : Nat → (Nat → Nat) → Nat
  | 0, _ => 0
  | n + 1, f => nsm n f + f n
theorem nsm_int (n : Nat) (f : Nat → Nat) : (tab n (fun j => ((f j : Nat) : Int))).sum = ((nsm n f : Nat) : Int) := by
  induction n with
  | zero => rfl
  | succ n ih =>
    rw [tab_succ, List.sum_append, ih]
    show _ + (List.sum [((f n : Nat) : Int)]) = _
    rw [List.sum_cons, List.sum_nil]
    show _ = ((nsm n f + f n : Nat) : Int)
    omega
theorem nsm_rat (n : Nat) (f : Nat → Nat) : Mh.sm n (fun j => (((f j : Nat) : Int) : Rat)) = (((nsm n f : Nat) : Int) : Rat) := by
  induction n with
  | zero => rfl
  | succ n ih =>
    show Mh.sm n _ + _ = _
    rw [ih]
    show _ = (((nsm n f + f n : Nat) : Int) : Rat)
    rw [Int.natCast_add, Rat.intCast_add]
theorem nsm_bd {n : Nat} {f : Nat → Nat} (h : ∀ j, j < n → 1 ≤ f j ∧ f j ≤ 4) : n ≤ nsm n f ∧ nsm n f ≤ 4 * n := by
  induction n with
  | zero => exact ⟨Nat.le_refl _, Nat.le_refl _⟩
  | succ n ih =>
    have := ih fun j hj => h j (by omega)
    have := h n (by omega)
    show n + 1 ≤ nsm n f + f n ∧ nsm n f + f n ≤ 4 * (n + 1)
    omega
/-- a place that is made well -/
structure PlGood (m : Nat) (g : Rat) (l : List (Rat × Nat)) (w : Nat) : Prop where
  pos : ∀ b ∈ l, 0 < b.1
  one : Mh.bm l (fun _ => 1) = 1
  tg : ∀ b ∈ l, b.2 < m
  w0 : 0 < w ∧ w ≤ 24
  wt : ∀ b ∈ l, ∃ a : Nat, b.1 * (w : Rat) = (a : Rat)
  gn : Mh.Bd 10 500 g
  bl : l.length ≤ 6
theorem frac_pos {a b : Nat} (ha : 0 < a) (hb : 0 < b) : (0 : Rat) < ((a : Int) : Rat) / ((b : Int) : Rat) := by
  have h1 : (0 : Rat) < ((a : Int) : Rat) := Rat.intCast_pos.mpr (by omega)
  have h2 : (0 : Rat) < ((b : Int) : Rat) := Rat.intCast_pos.mpr (by omega)
  rw [Rat.div_def]
  exact Rat.mul_pos h1 (Rat.inv_pos.mpr h2)
theorem brs_good {n m : Nat} {wf tg : Nat → Nat} {g : Rat} (h1 : 1 ≤ n) (h6 : n ≤ 6) (hw : ∀ j, j < n → 1 ≤ wf j ∧ wf j ≤ 4) (ht : ∀ j, j < n → tg j < m) (hg : Mh.Bd 10 500 g) :
    PlGood m g (tab n (fun j => ((((wf j : Nat) : Int) : Rat) / (((nsm n wf : Nat) : Int) : Rat), tg j))) (nsm n wf) := by
  have hs := nsm_bd hw
  have hW : (((nsm n wf : Nat) : Int) : Rat) ≠ 0 := Mh.int_rat_ne (by omega)
  refine ⟨fun b hb => ?_, ?_, fun b hb => ?_, by omega, fun b hb => ?_, hg, by rw [tab_len]; exact h6⟩
  · obtain ⟨j, hj, rfl⟩ := tab_mem hb
    exact frac_pos (by have := hw j hj; omega) (by omega)
  · rw [← Mh.bm_sum]
    have e : (tab n (fun j => ((((wf j : Nat) : Int) : Rat) / (((nsm n wf : Nat) : Int) : Rat), tg j))).map (fun b => b.1 * (fun _ => (1 : Rat)) b.2) = tab n (fun j => (((wf j : Nat) : Int) : Rat) * (1 / (((nsm n wf : Nat) : Int) : Rat))) := by
      unfold tab
      rw [List.map_map]
      refine List.map_congr_left fun j _ => ?_
      show (((wf j : Nat) : Int) : Rat) / (((nsm n wf : Nat) : Int) : Rat) * 1 = _
      grind
    rw [e, tab_sum, Mh.sm_mulr, nsm_rat]
    grind
  · obtain ⟨j, hj, rfl⟩ := tab_mem hb
    exact ht j hj
  · obtain ⟨j, hj, rfl⟩ := tab_mem hb
    refine ⟨wf j, ?_⟩
    show (((wf j : Nat) : Int) : Rat) / (((nsm n wf : Nat) : Int) : Rat) * ((nsm n wf : Nat) : Rat) = ((wf j : Nat) : Rat)
    have e1 : ((nsm n wf : Nat) : Rat) = (((nsm n wf : Nat) : Int) : Rat) := by exact_mod_cast rfl
    have e2 : ((wf j : Nat) : Rat) = (((wf j : Nat) : Int) : Rat) := by exact_mod_cast rfl
    rw [e1, e2]
    grind
theorem den_small {n d : Int} (h : d ≠ 0) (hd : d.natAbs ≤ 100) : ((n : Rat) / (d : Rat)).den < 2 ^ 2565 := by
  have hr := Mh.int_rat_ne h
  have := (Mh.frac_le (q := (n : Rat) / (d : Rat)) (z := n) h (by grind)).2
  exact Nat.lt_of_le_of_lt (Nat.le_trans this (Nat.le_trans hd (show 100 ≤ 2 ^ 7 by decide))) (p2 (by decide))
theorem gain_bd {n : Int} {d : Nat} (hn : n.natAbs ≤ 8) (hd : d = 1 ∨ d = 2 ∨ d = 5) : Mh.Bd 10 500 ((n : Rat) / (((d : Nat) : Int) : Rat)) := by
  rcases hd with rfl | rfl | rfl
  · refine ⟨n * 10, ?_, by rw [Int.natAbs_mul]; show n.natAbs * 10 ≤ 500; omega⟩
    rw [Rat.intCast_mul]
    show (n : Rat) / ((1 : Int) : Rat) * 10 = (n : Rat) * ((10 : Int) : Rat)
    have : ((1 : Int) : Rat) = 1 := rfl
    have : ((10 : Int) : Rat) = 10 := rfl
    grind
  · refine ⟨n * 5, ?_, by rw [Int.natAbs_mul]; show n.natAbs * 5 ≤ 500; omega⟩
    rw [Rat.intCast_mul]
    show (n : Rat) / ((2 : Int) : Rat) * 10 = (n : Rat) * ((5 : Int) : Rat)
    have : ((2 : Int) : Rat) = 2 := rfl
    have : ((5 : Int) : Rat) = 5 := rfl
    grind
  · refine ⟨n * 2, ?_, by rw [Int.natAbs_mul]; show n.natAbs * 2 ≤ 500; omega⟩
    rw [Rat.intCast_mul]
    show (n : Rat) / ((5 : Int) : Rat) * 10 = (n : Rat) * ((2 : Int) : Rat)
    have : ((2 : Int) : Rat) = 2 := rfl
    have : ((5 : Int) : Rat) = 5 := rfl
    grind
/-- a place whose branches do not lie at F -/
def PlX (K : PySem.W.Frag) (H : Hp) (F : Addr) (v : V) (g : Rat) (l : List (Rat × Nat)) : Prop := ∃ t gv b us, v = .ref t ∧ SqT K H t [gv, .str "draw", .ref b] ∧ NumV K H gv g ∧ b ≠ F ∧ H b = some (.lst us) ∧ Paired (BrAt K H) us l
theorem PlX.pl {K : PySem.W.Frag} {H : Hp} {F : Addr} {v : V} {g : Rat} {l : List (Rat × Nat)} (h : PlX K H F v g l) : PlAt K H v g l := by
  obtain ⟨t, gv, b, us, e, h1, h2, _, h3, h4⟩ := h
  exact ⟨t, gv, b, us, e, h1, h2, h3, h4⟩
theorem PlX.put {K : PySem.W.Frag} {H H' : Hp} {F : Addr} {v : V} {g : Rat} {l : List (Rat × Nat)} {o : HO} {vs : List V} (h : PlX K H F v g l) (s : Same H H') (hF : H' F = some (.lst vs)) : PlX K (upd H' F o) F v g l := by
  obtain ⟨t, gv, b, us, e, h1, h2, hn, h3, h4⟩ := h
  exact ⟨t, gv, b, us, e, ex_upd.tup hF (same_tup s h1), (h2.same s).ex ex_upd hF, hn, by rw [upd_ne hn]; exact s _ _ h3, Paired.mapP h4 fun u b ⟨t2, cv, e, a1, a2⟩ => ⟨t2, cv, e, ex_upd.tup hF (same_tup s a1), (a2.same s).ex ex_upd hF⟩⟩
/-- a written row of ints at a remainder -/
theorem tab_pick {ks : List Nat} {z : Int} {m : Nat} (hm : 0 < m) (hl : ks.length = m) : ∃ v, v ∈ ks ∧ atI (ni ks) (z % (m : Int)) = some (.int ((v : Nat) : Int)) := by
  obtain ⟨d, ed, hd⟩ := mod_nat z hm
  exact ⟨Mh.at_ ks d, Mh.at_mem (by omega), by rw [ed]; exact atI_nat (ni_get (by omega))⟩
section
variable {P : Program} {w : World} {K : PySem.W.Frag} {mg : Str → Option Value} {base : Heap}
/-! ### the law's chain -/
abbrev sWalk : Stmt := topS 39
abbrev nWalk : List Str := ["_law_draws_here", "_law_most", "_law_many", "_law_group", "_law_found", "_law_k", "_law_part", "_law_low", "_law_size", "_law_n", "_law_weights", "_law_branches"]
theorem scWalk : FnScope nWalk ["_law_draws_here", "_law_most"] (defScope sWalk) := ⟨rfl, rfl, rfl, by decide +kernel, rfl, by decide +kernel, by decide +kernel⟩
def spWalk (K : PySem.W.Frag) : Sp := fun vs H Q _ => ∃ (a : Addr) (ds : List Nat), vs = [.ref a, .int 6] ∧ H a = some (.lst (ni ds)) ∧ ds.length = 92 ∧ ∀ H' p (C : Mh.Ch) (wt : Nat → Nat), Same H H' → H p = none → ChAt K H' p C → C.Ok → C.Sized wt → Q (.ref p) H'
theorem cal_walk {f fN : Addr} {fd fdN : FuncData} (F : Fun K "_law_walk" "_law_walk" sWalk f fd) (g : mg "_law_walk" = some (.ref f)) (B : Bi mg) (CN : Cal P w K mg base "_law_number" ["_law_n", "_law_d"] 2 fN fdN (spLnum K)) : Cal P w K mg base "_law_walk" ["_law_draws_here", "_law_most"] 3 f fd (spWalk K) := by
  refine ⟨g, F.kp, F.binds fun _ _ _ _ _ _ us hl => match us, hl with | [_, _], _ => rfl, ?_⟩
  refine F.ok scWalk (fun vs H Q E h => ?_) (fun cdv A outer s H vs Q E hr h => ?_)
  · obtain ⟨a, ds, rfl, _⟩ := h
    rfl
  · obtain ⟨a, ds, rfl, ea, hl, k⟩ := h
    have nd := scWalk.nd
    refine ⟨_, pss_cons (ps_set (i := 2) nd rfl (.inl rfl) (pe_op op_add pe_int (pe_op op_mod (pe_callTy call_int1 (by rfl) B.int (by decide +kernel) (pa_cons (pe_ix ix_list (pv 0) pe_int (fun _ _ => rfl)) pa_nil)) (pv 1))))
      (pss_cons (ps_set (i := 3) nd rfl (.inl rfl) (pe_ix ix_list (pe_lst (pa_cons (pv 2) (pa_cons pe_int (pa_cons pe_int (pa_cons pe_int pa_nil))))) (pe_op op_mod (pe_callTy call_int1 (by rfl) B.int (by decide +kernel) (pa_cons (pe_ix ix_list (pv 0) pe_int (fun _ _ => rfl)) pa_nil)) pe_int) (fun _ _ => rfl)))
      (pss_cons (ps_set (i := 4) nd rfl (.inl rfl) (pe_lst pa_nil))
      (pss_cons (ps_for PassesOwn.never rfl (pi_range1 rfl B.range (pa_cons (pv 2) pa_nil)) (pg_name (i := 5) nd rfl (.inl rfl))
        (pss_cons (ps_set (i := 6) nd rfl (.inr rfl) (pe_slice sl_list (pv 0) (po_some (pe_op op_add pe_int (pe_op op_mul pe_int (pv 5)))) (po_some (pe_op op_add pe_int (pe_op op_mul pe_int (pv 5))))))
        (pss_cons (ps_set (i := 7) nd rfl (.inl rfl) (pe_op op_sub (pv 5) (pe_op op_mod (pe_callTy call_int1 (by rfl) B.int (by decide +kernel) (pa_cons (pv 5) pa_nil)) (pv 3))))
        (pss_cons (ps_set (i := 8) nd rfl (.inl rfl) (pe_ix ix_list (pe_lst (pa_cons pe_int (pa_cons pe_int (pa_cons pe_int (pa_cons pe_int (pa_cons pe_int (pa_cons pe_int (pa_cons pe_int (pa_cons pe_int (pa_cons pe_int (pa_cons pe_int pa_nil))))))))))) (pe_op op_mod (pe_callTy call_int1 (by rfl) B.int (by decide +kernel) (pa_cons (pe_ix ix_list (pv 6) pe_int (fun _ _ => rfl)) pa_nil)) pe_int) (fun _ _ => rfl)))
        (pss_cons (ps_setLc (i := 10) (own := [("_law_n", 9)]) (g := gName 9) (tt := tYes) (te := tOp (rI0 fun i j => .int (i + j)) (tC (.int 1)) (tOp (rI (fun _ j => 0 < j) fun i j => .int (i % j)) (tCB (fun xs H Q => (∃ i, xs = [.int i] ∧ Q (.int i) H) ∨ ∃ k, xs = [.bl k] ∧ Q (.int (if k then 1 else 0)) H) (tCons (tOp (rIxL K) (tVar 6) (tOp (rI0 fun i j => .int (i + j)) (tC (.int 1)) (tVar 9))) tNil)) (tC (.int 4)))) rfl nd rfl rfl (sw_true rfl rfl rfl (by decide +kernel))
            (pi_range1 rfl B.range (pa_cons (pv 8) pa_nil)) (blkOk_by (N := nWalk) (sc := defScope sWalk) (by decide +kernel)) (fun _ _ _ _ _ => pg_name (i := 9) nd rfl (.inl rfl)) (fun _ _ _ _ _ => pts_nil)
            (fun _ _ _ _ _ => pe_op op_add pe_int (pe_op op_mod (pe_callTy call_int1 (by rfl) B.int (by decide +kernel) (pa_cons (pe_ix (ixL K) (pv 6) (pe_op op_add pe_int (pv 9)) (fun _ _ => rfl)) pa_nil)) pe_int)))
        (pss_cons (ps_set (i := 11) nd rfl (.inl rfl) (pe_lst pa_nil))
        (pss_cons (ps_for PassesOwn.never rfl (pi_range1 rfl B.range (pa_cons (pv 8) pa_nil)) (pg_name (i := 9) nd rfl (.inl rfl))
          (pss_one (ps_expr (pe_bm PySem.F.plainAttrs_list PySem.F.slot_list_append PySem.F.type_list_append mt_append (pv 11) (pa_cons (pe_tup (pa_cons (pe_call CN.ok hr (by rfl) CN.g CN.kp CN.b .nil pass0 (pa_cons (pe_ix ix_list (pv 10) (pv 9) (fun _ _ => rfl)) (pa_cons (pe_callB (cr_sum rfl) (by rfl) B.sum (by decide +kernel) (pa_cons (pv 10) pa_nil)) pa_nil)))
            (pa_cons (pe_op op_add (pv 7) (pe_op op_mod (pe_callTy call_int1 (by rfl) B.int (by decide +kernel) (pa_cons (pe_ix ix_list (pv 6) (pe_op op_add pe_int (pv 9)) (fun _ _ => rfl)) pa_nil)) (pe_op op_sub (pv 2) (pv 7)))) pa_nil))) pa_nil)))))
        (pss_one (ps_expr (pe_bm PySem.F.plainAttrs_list PySem.F.slot_list_append PySem.F.type_list_append mt_append (pv 4) (pa_cons (pe_tup (pa_cons (pe_call CN.ok hr (by rfl) CN.g CN.kp CN.b .nil pass0 (pa_cons (pe_op op_sub (pe_op op_mod (pe_callTy call_int1 (by rfl) B.int (by decide +kernel) (pa_cons (pe_ix ix_list (pv 6) pe_int (fun _ _ => rfl)) pa_nil)) pe_int) pe_int)
            (pa_cons (pe_ix ix_list (pe_lst (pa_cons pe_int (pa_cons pe_int (pa_cons pe_int (pa_cons pe_int pa_nil))))) (pe_op op_mod (pe_callTy call_int1 (by rfl) B.int (by decide +kernel) (pa_cons (pe_op op_fdiv (pe_ix ix_list (pv 6) pe_int (fun _ _ => rfl)) pe_int) pa_nil)) pe_int) (fun _ _ => rfl)) pa_nil))) (pa_cons pe_str (pa_cons (pv 11) pa_nil)))) pa_nil)))))))))))
      (pss_one (ps_ret (pv 4)))))), ?_⟩
    have h0 := ni_get (ns := ds) (i := 0) (by omega)
    have h1 := ni_get (ns := ds) (i := 1) (by omega)
    obtain ⟨m, em, hm1, hm6⟩ : ∃ m : Nat, 1 + ((Mh.at_ ds 0 : Nat) : Int) % 6 = (m : Int) ∧ 1 ≤ m ∧ m ≤ 6 := ⟨1 + Mh.at_ ds 0 % 6, by omega, by omega, by omega⟩
    obtain ⟨gv, hgm, hga⟩ := tab_pick (ks := [m, 1, 2, 3]) (z := ((Mh.at_ ds 1 : Nat) : Int)) (m := 4) (by decide) rfl
    have hgv : 1 ≤ gv := by
      rcases List.mem_cons.mp hgm with e | e
      · omega
      · have : ∀ v ∈ [1, 2, 3], 1 ≤ v := by decide
        exact this gv e
    -- many, group, found
    refine ⟨_, rfl, a, _, 0, _, rfl, rfl, .of ea, atI_nat (j := 0) h0, .inl ⟨_, rfl, _, rfl, _, _, rfl, rfl, by show (0 : Int) < 6; decide, _, _, rfl, rfl, ?_⟩⟩
    refine ⟨_, rfl, by show 4 ≤ sizeLine; decide, fun Lg hLg => ?_⟩
    have sg := same_upd (o := .lst [V.int (1 + ((Mh.at_ ds 0 : Nat) : Int) % 6), .int 1, .int 2, .int 3]) hLg
    refine ⟨_, rfl, a, _, 1, _, rfl, rfl, .of (sg _ _ ea), atI_nat (j := 1) h1, .inl ⟨_, rfl, _, _, rfl, rfl, by show (0 : Int) < 4; decide, Lg, [V.int (1 + ((Mh.at_ ds 0 : Nat) : Int) % 6), .int 1, .int 2, .int 3], _, .int (gv : Int), rfl, rfl, .of upd_same, by rw [em]; exact hga, ?_⟩⟩
    have ll : ([] : List V).length ≤ sizeLine := Nat.zero_le _
    refine ⟨ll, fun Fd hFd => ?_⟩
    have sF := same_upd (o := .lst ([] : List V)) hFd
    have hFdH : H Fd = none := sg.free hFd
    have s0 := sg.trans sF
    refine ⟨_, rfl, _, rfl, by rw [em]; omega, by rw [em]; omega, ?_⟩
    rw [show (1 + ((Mh.at_ ds 0 : Nat) : Int) % 6).toNat = m by rw [em]; rfl]
    refine for_range (lo := 0) (n := m) (fun i σ H2 => ∃ (ga : Nat → Rat) (br : Nat → List (Rat × Nat)) (wf : Nat → Nat) (y5 y6 y7 y8 y9 y10 y11 : Option V), σ = [some (.ref a), some (.int 6), some (.int (m : Int)), some (.int (gv : Int)), some (.ref Fd), y5, y6, y7, y8, y9, y10, y11] ∧ Same H H2 ∧
        (∃ vs, H2 Fd = some (.lst vs) ∧ vs.length = i ∧ ∀ (x : Nat) (v : V), vs[x]? = some v → PlX K H2 Fd v (ga x) (br x)) ∧ ∀ x, x < i → PlGood m (ga x) (br x) (wf x))
      ⟨fun _ => 0, fun _ => [], fun _ => 0, none, none, none, none, none, none, none, by
        show [some (V.ref a), some (.int 6), some (.int (1 + ((Mh.at_ ds 0 : Nat) : Int) % 6)), some (.int (gv : Int)), some (.ref Fd), none, none, none, none, none, none, none] = _
        rw [em], s0, ⟨[], upd_same, rfl, fun x v e => by simp at e⟩, fun x hx => by omega⟩ ?_ ?_
    · rintro i σ H2 hi ⟨ga, br, wf, y5, y6, y7, y8, y9, y10, y11, rfl, s2, ⟨vsF, eF, lF, hF⟩, hgood⟩
      rw [show (0 : Int) + (i : Int) = (i : Int) from Int.zero_add _]
      -- part
      refine ⟨_, rfl, _, rfl, _, _, rfl, rfl, .inl ⟨by decide, by decide⟩, _, _, rfl, rfl, _, rfl, _, rfl, _, _, rfl, rfl, .inl ⟨by decide, by decide⟩, _, _, rfl, rfl, _, rfl, a, _, rfl, .of (s2 _ _ ea), fun c hc => ?_⟩
      have ecut : cutV (ni ds) (some (2 + 14 * (i : Int))) (some (16 + 14 * (i : Int))) = ni ((ds.drop (2 + 14 * i)).take 14) := by
        have e1 : (2 + 14 * (i : Int)) = ((2 + 14 * i : Nat) : Int) := by omega
        have e2 : (16 + 14 * (i : Int)) = ((16 + 14 * i : Nat) : Int) := by omega
        rw [e1, e2, cut_nat _ (by rw [ni_len]; omega), ni_drop, ni_take]
        congr 2
        omega
      rw [ecut]
      have lp : ((ds.drop (2 + 14 * i)).take 14).length = 14 := by rw [List.length_take, List.length_drop]; omega
      generalize (ds.drop (2 + 14 * i)).take 14 = part at lp
      have sc := same_upd (o := .lst (ni part)) hc
      have hp : ∀ j, j < 14 → (ni part)[j]? = some (.int ((Mh.at_ part j : Nat) : Int)) := fun j hj => ni_get (by omega)
      -- low
      obtain ⟨rl, erl, hrl⟩ := mod_nat (i : Int) (m := gv) (by omega)
      have hrle : rl ≤ i := by
        have h1 : (i : Int) % (gv : Int) = ((i % gv : Nat) : Int) := (Int.natCast_emod i gv).symm
        have h2 := Nat.mod_le i gv
        omega
      obtain ⟨lw, elw, hlw⟩ : ∃ lw : Nat, (i : Int) - (i : Int) % (gv : Int) = (lw : Int) ∧ lw ≤ i := ⟨i - rl, by rw [erl]; omega, by omega⟩
      refine ⟨_, rfl, _, rfl, .inl ⟨_, rfl, _, rfl, _, _, rfl, rfl, by show (0 : Int) < (gv : Int); omega, _, _, rfl, rfl, ?_⟩⟩
      -- size
      obtain ⟨sv, hsm, hsa⟩ := tab_pick (ks := [1, 2, 3, 2, 1, 4, 5, 6, 2, 1]) (z := ((Mh.at_ part 0 : Nat) : Int)) (m := 10) (by decide) rfl
      have hsv : 1 ≤ sv ∧ sv ≤ 6 := by
        have : ∀ v ∈ [1, 2, 3, 2, 1, 4, 5, 6, 2, 1], 1 ≤ v ∧ v ≤ 6 := by decide
        exact this sv hsm
      refine ⟨by show 10 ≤ sizeLine; decide, fun Ls hLs => ?_⟩
      have sls := same_upd (o := .lst (ni [1, 2, 3, 2, 1, 4, 5, 6, 2, 1])) hLs
      refine ⟨_, rfl, c, _, 0, _, rfl, rfl, .of (sls _ _ upd_same), atI_nat (j := 0) (hp 0 (by decide)), .inl ⟨_, rfl, _, _, rfl, rfl, by show (0 : Int) < 10; decide, Ls, ni [1, 2, 3, 2, 1, 4, 5, 6, 2, 1], _, .int (sv : Int), rfl, rfl, .of upd_same, hsa, ?_⟩⟩
      have s3 : Same H2 _ := sc.trans sls
      have ec3 := sls _ _ (upd_same (H := H2) (a := c) (o := .lst (ni part)))
      have hcF : c ≠ Fd := fun e => by rw [e, eF] at hc; cases hc
      have eF3 := s3 _ _ eF
      show tSeq _ _ _ _ (upd (upd H2 c (.lst (ni part))) Ls (.lst (ni [1, 2, 3, 2, 1, 4, 5, 6, 2, 1])))
      generalize upd (upd H2 c (.lst (ni part))) Ls (.lst (ni [1, 2, 3, 2, 1, 4, 5, 6, 2, 1])) = H3 at s3 ec3 eF3 ⊢
      -- weights
      refine ⟨_, rfl, _, rfl, by omega, by omega, fun Dw hDw => ?_⟩
      rw [show ((sv : Nat) : Int).toNat = sv from rfl]
      refine lc_range (lo := 0) (n := sv) (fun j H4 => Same H3 H4 ∧ H4 Dw = some (.lst (ni (tab j (fun n => 1 + Mh.at_ part (1 + n) % 4))))) ⟨same_upd hDw, upd_same⟩ ?_ ?_
      · rintro j H4 hj ⟨s4, eD⟩
        rw [show (0 : Int) + (j : Int) = (j : Int) from Int.zero_add _]
        refine ⟨rfl, _, rfl, _, rfl, _, _, rfl, rfl, c, _, _, _, rfl, rfl, .of (s4 _ _ ec3), at_of (j := 1 + j) (by omega) (hp (1 + j) (by omega)), .inl ⟨_, rfl, _, _, rfl, rfl, by show (0 : Int) < 4; decide, _, _, rfl, rfl, _, eD, ?_, Ex.same ex_upd s4 hDw, ?_⟩⟩
        · rw [ni_len, tab_len]; exact small1000 (by omega)
        · rw [upd_same, tab_succ, ni_app]
          show some (HO.lst (_ ++ [V.int (1 + ((Mh.at_ part (1 + j) : Nat) : Int) % 4)])) = some (HO.lst (_ ++ [V.int ((1 + Mh.at_ part (1 + j) % 4 : Nat) : Int)]))
          have : 1 + ((Mh.at_ part (1 + j) : Nat) : Int) % 4 = ((1 + Mh.at_ part (1 + j) % 4 : Nat) : Int) := by omega
          rw [this]
      rintro H4 ⟨s4, eD4⟩
      have hwf : ∀ j, j < sv → 1 ≤ (fun n => 1 + Mh.at_ part (1 + n) % 4) j ∧ (fun n => 1 + Mh.at_ part (1 + n) % 4) j ≤ 4 := fun j _ => by
        show 1 ≤ 1 + Mh.at_ part (1 + j) % 4 ∧ 1 + Mh.at_ part (1 + j) % 4 ≤ 4
        omega
      generalize (fun n => 1 + Mh.at_ part (1 + n) % 4) = wfn at eD4 hwf
      have hw100 : nsm sv wfn ≤ 100 ∧ 1 ≤ nsm sv wfn := by have := nsm_bd hwf; omega
      -- branches
      refine ⟨ll, fun Db hDb => ?_⟩
      have sDb := same_upd (o := .lst ([] : List V)) hDb
      have h24 : Same H2 H4 := s3.trans s4
      have hDbH : H Db = none := (s2.trans h24).free hDb
      have ec4 := s4 _ _ ec3
      have eF4 := s4 _ _ eF3
      have hDbF : Fd ≠ Db := fun e => by rw [← e, eF4] at hDb; cases hDb
      refine ⟨_, rfl, _, rfl, by omega, by omega, ?_⟩
      rw [show ((sv : Nat) : Int).toNat = sv from rfl]
      have htg : ∀ j, j < sv → lw + Mh.at_ part (7 + j) % (m - lw) < m := fun j _ => by
        have := Nat.mod_lt (Mh.at_ part (7 + j)) (show 0 < m - lw by omega)
        omega
      refine for_range (lo := 0) (n := sv) (fun j σ H5 => ∃ (us : List V) (z9 : Option V), σ = [some (.ref a), some (.int 6), some (.int (m : Int)), some (.int (gv : Int)), some (.ref Fd), some (.int (i : Int)), some (.ref c), some (.int (lw : Int)), some (.int (sv : Int)), z9, some (.ref Dw), some (.ref Db)] ∧ Same H4 H5 ∧ H5 Db = some (.lst us) ∧
          Paired (BrAt K H5) us (tab j (fun n => ((((wfn n : Nat) : Int) : Rat) / (((nsm sv wfn : Nat) : Int) : Rat), lw + Mh.at_ part (7 + n) % (m - lw)))))
        ⟨[], _, by
          show [some (V.ref a), some (.int 6), some (.int (m : Int)), some (.int (gv : Int)), some (.ref Fd), some (.int (i : Int)), some (.ref c), some (.int ((i : Int) - (i : Int) % (gv : Int))), some (.int (sv : Int)), _, some (.ref Dw), some (.ref Db)] = _
          rw [elw], sDb, upd_same, .nil⟩ ?_ ?_
      · rintro j σ H5 hj ⟨us, z9, rfl, s5, eDb, pb⟩
        rw [show (0 : Int) + (j : Int) = (j : Int) from Int.zero_add _]
        have eD5 := s5 _ _ eD4
        have hwj : (ni (tab sv wfn))[j]? = some (.int ((wfn j : Nat) : Int)) := by unfold ni; rw [List.getElem?_map, tab_get hj]; rfl
        have ent : ni (tab sv wfn) = (tab sv (fun n => ((wfn n : Nat) : Int))).map V.int := by unfold ni tab; rw [List.map_map, List.map_map]; rfl
        refine ⟨_, rfl, .inl ⟨rfl, _, .of eDb⟩, _, rfl, _, rfl, Dw, _, _, _, rfl, rfl, .of eD5, atI_nat hwj, _, rfl, Dw, _, rfl, .of (by rw [eD5, ent]), ?_⟩
        rw [nsm_int]
        have hns : ((nsm sv wfn : Nat) : Int) ≠ 0 := by omega
        refine ⟨((wfn j : Nat) : Int), ((nsm sv wfn : Nat) : Int), rfl, hns, ?_, den_small hns (by rw [Int.natAbs_natCast]; omega), fun H6 v6 s6 n6 => ?_⟩
        · rw [Int.natAbs_natCast]
          exact Nat.lt_of_le_of_lt (Nat.le_trans hw100.1 (show 100 ≤ 2 ^ 7 by decide)) (p2 (by decide))
        have s56 := s5.trans s6
        refine ⟨_, rfl, _, rfl, _, rfl, _, _, rfl, rfl, c, _, _, _, rfl, rfl, .of (s56 _ _ ec4), at_of (j := 7 + j) (by omega) (hp (7 + j) (by omega)), .inl ⟨_, rfl, _, rfl, _, rfl, _, _, rfl, rfl, _, _, rfl, rfl, ?_, _, _, rfl, rfl, ?_⟩⟩
        · show (0 : Int) < (m : Int) - (lw : Int)
          omega
        refine ⟨by show 2 ≤ sizeLine; decide, fun t ht => ?_⟩
        have st := same_upd (o := .tup [v6, .int ((lw : Int) + ((Mh.at_ part (7 + j) : Nat) : Int) % ((m : Int) - (lw : Int)))]) ht
        have s6t := s6.trans st
        refine ⟨Db, us, _, rfl, rfl, s6t _ _ eDb, by rw [pb.length, tab_len]; exact small1000 (by omega), ?_⟩
        have s4t := s5.trans s6t
        refine ⟨us ++ [.ref t], _, rfl, Ex.same ex_upd s4t hDb, upd_same, ?_⟩
        rw [tab_succ]
        have etg : (lw : Int) + ((Mh.at_ part (7 + j) : Nat) : Int) % ((m : Int) - (lw : Int)) = ((lw + Mh.at_ part (7 + j) % (m - lw) : Nat) : Int) := by
          have e1 : (m : Int) - (lw : Int) = ((m - lw : Nat) : Int) := by omega
          rw [e1, Int.natCast_add, Int.natCast_emod]
        have bex : ∀ u b, BrAt K (upd H6 t (.tup [v6, .int ((lw : Int) + ((Mh.at_ part (7 + j) : Nat) : Int) % ((m : Int) - (lw : Int)))])) u b → BrAt K (upd (upd H6 t (.tup [v6, .int ((lw : Int) + ((Mh.at_ part (7 + j) : Nat) : Int) % ((m : Int) - (lw : Int)))])) Db (.lst (us ++ [.ref t]))) u b := fun u b ⟨t2, cv, e, h1, h2⟩ => ⟨t2, cv, e, ex_upd.tup (s6t _ _ eDb) h1, h2.ex ex_upd (s6t _ _ eDb)⟩
        refine Paired.snoc (Paired.mapP pb fun u b h => bex u b (h.same s6t)) (bex _ _ ⟨t, v6, rfl, .of ?_, n6.same st⟩)
        rw [upd_same, etg]
      · rintro σ H5 ⟨us, z9, rfl, s5, eDb, pb⟩
        have s25 := h24.trans s5
        have eF5 := s5 _ _ eF4
        have ec5 := s5 _ _ ec4
        obtain ⟨dv, hdm, hda⟩ := tab_pick (ks := [1, 1, 2, 5]) (z := ((Mh.at_ part 13 : Nat) : Int) / 15) (m := 4) (by decide) rfl
        have hdv : dv = 1 ∨ dv = 2 ∨ dv = 5 := by
          have : ∀ v ∈ [1, 1, 2, 5], v = 1 ∨ v = 2 ∨ v = 5 := by decide
          exact this dv hdm
        refine ⟨_, rfl, .inl ⟨rfl, _, .of eF5⟩, ?_⟩
        refine ⟨_, rfl, c, _, 13, _, rfl, rfl, .of ec5, atI_nat (j := 13) (hp 13 (by decide)), .inl ⟨_, rfl, _, _, rfl, rfl, by show (0 : Int) < 15; decide, _, _, rfl, rfl, ?_⟩⟩
        refine ⟨by show 4 ≤ sizeLine; decide, fun L6 hL6 => ?_⟩
        have s6 := same_upd (o := .lst (ni [1, 1, 2, 5])) hL6
        refine ⟨_, rfl, c, _, 13, _, rfl, rfl, .of (s6 _ _ ec5), atI_nat (j := 13) (hp 13 (by decide)), _, _, rfl, rfl, ⟨by decide, by decide⟩, .inl ⟨_, rfl, _, _, rfl, rfl, by show (0 : Int) < 4; decide, L6, ni [1, 1, 2, 5], _, .int (dv : Int), rfl, rfl, .of upd_same, hda, ?_⟩⟩
        have hd0 : ((dv : Nat) : Int) ≠ 0 := by omega
        refine ⟨((Mh.at_ part 13 : Nat) : Int) % 15 - 6, (dv : Int), rfl, hd0, ?_, den_small hd0 (by rw [Int.natAbs_natCast]; omega), fun H7 v7 s7 n7 => ?_⟩
        · rw [Int.natAbs_natCast]
          exact Nat.lt_of_le_of_lt (show dv ≤ 2 ^ 7 by omega) (p2 (by decide))
        have s57 : Same H5 H7 := Same.trans s6 s7
        refine ⟨_, rfl, by show 3 ≤ sizeLine; decide, fun t ht => ?_⟩
        have st := same_upd (o := .tup [v7, .str "draw", .ref Db]) ht
        have s5t := s57.trans st
        refine ⟨Fd, vsF, _, rfl, rfl, s5t _ _ eF5, by rw [lF]; exact small1000 (by omega), ?_⟩
        have s2t := s25.trans s5t
        refine ⟨fun x => if x = i then (((Mh.at_ part 13 : Nat) : Int) % 15 - 6 : Int) / ((dv : Int) : Rat) else ga x, fun x => if x = i then tab sv (fun n => ((((wfn n : Nat) : Int) : Rat) / (((nsm sv wfn : Nat) : Int) : Rat), lw + Mh.at_ part (7 + n) % (m - lw))) else br x, fun x => if x = i then nsm sv wfn else wf x,
          _, _, _, _, _, _, _, rfl, Ex.same ex_upd (s2.trans s2t) hFdH, ⟨vsF ++ [.ref t], upd_same, by rw [List.length_append, lF]; rfl, fun x v hx => ?_⟩, fun x hx => ?_⟩
        · have hFt : (upd H7 t (.tup [v7, .str "draw", .ref Db])) Fd = some (.lst vsF) := s5t _ _ eF5
          have brex : ∀ u b, BrAt K (upd H7 t (.tup [v7, .str "draw", .ref Db])) u b → BrAt K (upd (upd H7 t (.tup [v7, .str "draw", .ref Db])) Fd (.lst (vsF ++ [.ref t]))) u b := fun u b ⟨t2, cv, e, h1, h2⟩ => ⟨t2, cv, e, ex_upd.tup hFt h1, h2.ex ex_upd hFt⟩
          show PlX K _ Fd v (if x = i then _ else ga x) (if x = i then _ else br x)
          by_cases hxi : x < i
          · rw [if_neg (by omega), if_neg (by omega)]
            rw [List.getElem?_append_left (by omega)] at hx
            exact (hF x v hx).put s2t hFt
          · have e : x = i := by have := (List.getElem?_eq_some_iff.mp hx).1; rw [List.length_append, List.length_singleton] at this; omega
            subst e
            rw [List.getElem?_append_right (by omega), lF, Nat.sub_self] at hx
            cases hx
            rw [if_pos rfl, if_pos rfl]
            exact ⟨t, v7, Db, us, rfl, .of (by rw [upd_ne (fun e => by rw [e, s57 _ _ eF5] at ht; cases ht)]; exact upd_same), (n7.same st).ex ex_upd hFt, hDbF.symm, by rw [upd_ne hDbF.symm]; exact s5t _ _ eDb, Paired.mapP pb fun u b h => brex u b (h.same s5t)⟩
        · show PlGood m (if x = i then _ else ga x) (if x = i then _ else br x) (if x = i then _ else wf x)
          by_cases e : x = i
          · subst e
            rw [if_pos rfl, if_pos rfl, if_pos rfl]
            exact brs_good hsv.1 hsv.2 hwf htg (gain_bd (by omega) hdv)
          · rw [if_neg e, if_neg e, if_neg e]
            exact hgood x (by omega)
    · rintro σ H2 ⟨ga, br, wf, y5, y6, y7, y8, y9, y10, y11, rfl, s2, ⟨vsF, eF, lF, hF⟩, hgood⟩
      refine ⟨_, rfl, k H2 Fd ⟨m, ga, br⟩ wf s2 hFdH ⟨vsF, eF, lF, fun x v hx => (hF x v hx).pl⟩ ?_ ?_⟩
      · exact ⟨hm1, fun x hx => (hgood x hx).pos, fun x hx => (hgood x hx).one, fun x hx => (hgood x hx).tg⟩
      · exact ⟨hm6, fun x hx => (hgood x hx).w0, fun x hx => (hgood x hx).wt, fun x hx => (hgood x hx).gn, fun x hx => (hgood x hx).bl⟩
end
end Mw
set_option Elab.async false
set_option linter.all false
set_option maxRecDepth 100000
set_option autoImplicit false
namespace Mw
open PySem PySem.Spec PyProof.Rows L2
theorem ring_b0 (a b : Int) : (ringC a b).brs 0 = [(1, 1)] := rfl
theorem ring_b1 (a b : Int) : (ringC a b).brs 1 = [(1, 0)] := rfl
/-- a class of the ring: both its places, each half of the time -/
theorem ring_cl {a b : Int} {k : Nat} {p v : Nat → Nat → Rat} {q : Nat → Nat} {u : Nat → Rat} (L : Mh.Cls (ringC a b) k q) (hS : Mh.Sty (ringC a b) k q u) (h1 : Mh.sm k u = 1) : k = 2 ∧ ((q 0 = 0 ∧ q 1 = 1) ∨ (q 0 = 1 ∧ q 1 = 0)) ∧ u 0 = 1 / 2 ∧ u 1 = 1 / 2 := by
  have k0 := L.k0
  have lt : ∀ i, i < k → q i < 2 := L.lt
  have b01 : ∀ x, x < 2 → (ringC a b).brs x = [(1, 1 - x)] := fun x hx => by
    have : x = 0 ∨ x = 1 := by omega
    rcases this with rfl | rfl <;> rfl
  have q0 := lt 0 k0
  obtain ⟨j, hj, ej⟩ := L.cl 0 k0 (1, 1 - q 0) (by rw [b01 _ q0]; exact List.mem_cons_self)
  have ej' : 1 - q 0 = q j := ej
  have hj0 : j ≠ 0 := fun e => by subst e; omega
  have k2 : k = 2 := by
    refine Classical.byContradiction fun hne => ?_
    have h3 : 2 < k := by omega
    have a1 := lt 1 (by omega)
    have a2 := lt 2 h3
    have n01 : q 0 ≠ q 1 := fun e => by have := L.inj 0 1 k0 (by omega) e; omega
    have n02 : q 0 ≠ q 2 := fun e => by have := L.inj 0 2 k0 h3 e; omega
    have n12 : q 1 ≠ q 2 := fun e => by have := L.inj 1 2 (by omega) h3 e; omega
    omega
  subst k2
  have q1 := lt 1 (by decide)
  have n01 : q 0 ≠ q 1 := fun e => by have := L.inj 0 1 k0 (by decide) e; omega
  have hs := hS 1 (by decide) (by decide)
  have e2 : ∀ f : Nat → Rat, Mh.sm 2 f = 0 + f 0 + f 1 := fun f => rfl
  rw [e2] at hs h1
  have c0 : Mh.cf ((ringC a b).brs (q 0)) (q 1) = 1 := by
    rw [b01 _ q0]
    unfold Mh.cf
    simp only [Mh.bm]
    rw [if_pos (by omega)]; grind
  have c1 : Mh.cf ((ringC a b).brs (q 1)) (q 1) = 0 := by
    rw [b01 _ q1]
    unfold Mh.cf
    simp only [Mh.bm]
    rw [if_neg (by omega)]; grind
  rw [c0, c1] at hs
  refine ⟨rfl, by omega, by grind, by grind⟩
/-- what is known of the ring -/
theorem ring_g {a b : Int} {g : Nat → Rat} (L : Mh.LG (ringC a b) (Mh.clsOf (ringC a b)) g) : ∀ x, x < 2 → g x = ((a + b : Int) : Rat) / ((2 : Int) : Rat) := by
  have ok := ring_ok a b
  have K := Mh.clss_of ok
  obtain ⟨cl, hcl, _⟩ := K.rch 0 (by show 0 < 2; decide)
  have Q := K.each cl hcl
  obtain ⟨v, h1, h2, h3⟩ := L.cl cl hcl
  obtain ⟨k2, hp, v0, v1⟩ := ring_cl (p := fun _ _ => 0) (v := fun _ _ => 0) Q h1 h2
  have e2 : ∀ f : Nat → Rat, Mh.sm 2 f = 0 + f 0 + f 1 := fun f => rfl
  have G0 : (1 : Rat) * g 1 + 0 = g 0 := L.G 0 (by show 0 < 2; decide)
  have a0 := h3 0 Q.k0
  rw [k2, e2] at a0
  have e : ((a + b : Int) : Rat) / ((2 : Int) : Rat) = ((a : Rat) + (b : Rat)) / 2 := by rw [Rat.intCast_add]; rfl
  have g0 : (ringC a b).gain 0 = (a : Rat) := rfl
  have g1 : (ringC a b).gain 1 = (b : Rat) := rfl
  intro x hx
  rw [e]
  have hx' : x = 0 ∨ x = 1 := by omega
  rcases hp with ⟨p0, p1⟩ | ⟨p0, p1⟩
  · simp only [p0, p1, g0, g1, v0, v1] at a0
    rcases hx' with rfl | rfl <;> grind
  · simp only [p0, p1, g0, g1, v0, v1] at a0
    rcases hx' with rfl | rfl <;> grind
theorem ring_h {a b : Int} {g h : Nat → Rat} (L : Mh.LG (ringC a b) (Mh.clsOf (ringC a b)) g) (A : Mh.GH (ringC a b) g h) (D : ∀ cl ∈ Mh.clsOf (ringC a b), Mh.LdCl (ringC a b) g cl h) : h 0 = ((a - b : Int) : Rat) / ((4 : Int) : Rat) ∧ h 1 = ((b - a : Int) : Rat) / ((4 : Int) : Rat) := by
  have ok := ring_ok a b
  have K := Mh.clss_of ok
  obtain ⟨cl, hcl, _⟩ := K.rch 0 (by show 0 < 2; decide)
  have Q := K.each cl hcl
  obtain ⟨F, less, _, _, v, h1, h2, h3⟩ := D cl hcl
  obtain ⟨k2, hp, v0, v1⟩ := ring_cl (p := fun _ _ => 0) (v := fun _ _ => 0) Q h1 h2
  have e2 : ∀ f : Nat → Rat, Mh.sm 2 f = 0 + f 0 + f 1 := fun f => rfl
  rw [k2, e2] at h3
  have gg := ring_g L 0 (by decide)
  have H0 : g 0 + h 0 = (a : Rat) + ((1 : Rat) * h 1 + 0) := A.H 0 (by show 0 < 2; decide)
  have e : ((a + b : Int) : Rat) / ((2 : Int) : Rat) = ((a : Rat) + (b : Rat)) / 2 := by rw [Rat.intCast_add]; rfl
  have e4 : ((a - b : Int) : Rat) / ((4 : Int) : Rat) = ((a : Rat) - (b : Rat)) / 4 := by rw [Rat.intCast_sub]; rfl
  have e5 : ((b - a : Int) : Rat) / ((4 : Int) : Rat) = ((b : Rat) - (a : Rat)) / 4 := by rw [Rat.intCast_sub]; rfl
  rw [e] at gg
  rw [e4, e5]
  rcases hp with ⟨p0, p1⟩ | ⟨p0, p1⟩
  · simp only [p0, p1, v0, v1] at h3
    constructor <;> grind
  · simp only [p0, p1, v0, v1] at h3
    constructor <;> grind
theorem ring_spread {a b : Int} {g h : Nat → Rat} {hi lo : Rat} (hab : a < b) (L : Mh.LG (ringC a b) (Mh.clsOf (ringC a b)) g) (A : Mh.GH (ringC a b) g h) (D : ∀ cl ∈ Mh.clsOf (ringC a b), Mh.LdCl (ringC a b) g cl h) (X : HiLo h 2 hi lo) : hi - lo = ((b - a : Int) : Rat) / ((2 : Int) : Rat) := by
  obtain ⟨h0, h1⟩ := ring_h L A D
  have e4 : ((a - b : Int) : Rat) / ((4 : Int) : Rat) = ((a : Rat) - (b : Rat)) / 4 := by rw [Rat.intCast_sub]; rfl
  have e5 : ((b - a : Int) : Rat) / ((4 : Int) : Rat) = ((b : Rat) - (a : Rat)) / 4 := by rw [Rat.intCast_sub]; rfl
  have e6 : ((b - a : Int) : Rat) / ((2 : Int) : Rat) = ((b : Rat) - (a : Rat)) / 2 := by rw [Rat.intCast_sub]; rfl
  rw [e4] at h0
  rw [e5] at h1
  rw [e6]
  have hlt : (a : Rat) < (b : Rat) := Rat.intCast_lt_intCast.mpr hab
  obtain ⟨x, x1, x2⟩ := X.h3
  obtain ⟨y, y1, y2⟩ := X.h4
  have u0 := X.h1 0 (by decide)
  have u1 := X.h1 1 (by decide)
  have l0 := X.h2 0 (by decide)
  have l1 := X.h2 1 (by decide)
  have hx : x = 0 ∨ x = 1 := by omega
  have hy : y = 0 ∨ y = 1 := by omega
  rcases hx with rfl | rfl <;> rcases hy with rfl | rfl <;> grind
theorem ring_told (a b : Int) : Mh.told (ringC a b) 3 0 = ((2 * a + b : Int) : Rat) ∧ Mh.told (ringC a b) 3 1 = ((a + 2 * b : Int) : Rat) := by
  have e0 : Mh.told (ringC a b) 3 0 = (a : Rat) + (1 * ((b : Rat) + (1 * ((a : Rat) + (1 * 0 + 0)) + 0)) + 0) := rfl
  have e1 : Mh.told (ringC a b) 3 1 = (b : Rat) + (1 * ((a : Rat) + (1 * ((b : Rat) + (1 * 0 + 0)) + 0)) + 0) := rfl
  have c2 : ((2 : Int) : Rat) = 2 := rfl
  rw [e0, e1, Rat.intCast_add, Rat.intCast_add, Rat.intCast_mul, Rat.intCast_mul, c2]
  constructor <;> grind
theorem GH_congr {C : Mh.Ch} (ok : C.Ok) {g g' h : Nat → Rat} (e : ∀ x, x < C.n → g x = g' x) (A : Mh.GH C g h) : Mh.GH C g' h := by
  refine ⟨fun x hx => ?_, fun x hx => ?_⟩
  · rw [← e x hx, ← A.G x hx]
    exact Mh.bm_congr fun b hb => (e b.2 (ok.tg x hx b hb)).symm
  · rw [← e x hx]; exact A.H x hx
theorem LdCl_congr {C : Mh.Ch} {g g' h : Nat → Rat} {cl : List Nat} (hl : ∀ i, i < cl.length → Mh.at_ cl i < C.n) (e : ∀ x, x < C.n → g x = g' x) (A : Mh.LdCl C g cl h) : Mh.LdCl C g' cl h := by
  obtain ⟨F, less, h1, h2, v, h3, h4, h5⟩ := A
  exact ⟨F, less, fun i hi => by rw [← e _ (hl i hi)]; exact h1 i hi, h2, v, h3, h4, h5⟩
end Mw
set_option Elab.async false
set_option linter.all false
set_option maxRecDepth 100000
set_option autoImplicit false
namespace Mw
open PySem PySem.Spec PyProof.Rows L2
def DL (qs : List Rat) : PyData := .list (qs.map DQ)
theorem dp_all {K : PySem.W.Frag} {H : Hp} : ∀ {vs : List V} {qs : List Rat}, Paired (NumV K H) vs qs → DpAll K H vs (qs.map DQ)
  | _, _, .nil => .nil
  | _, _, .cons h t => .cons h.dp (dp_all t)
theorem RowN.dp {K : PySem.W.Frag} {H : Hp} {a : Addr} {qs : List Rat} (h : RowN K H a qs) : Dp K H (.ref a) (DL qs) := by
  obtain ⟨vs, e, p⟩ := h
  exact .lst (.of e) (dp_all p)
theorem dl_shaped (p q : Rat) : SeqAt.shaped (DL [p, q]) = true := by rfl
theorem dl_eqv (p q : Rat) : PyData.eqv (DL [p, q]) (DL [p, q]) = true := by
  unfold DL
  show PyData.eqv (.list [DQ p, DQ q]) (.list [DQ p, DQ q]) = true
  simp only [PyData.eqv, PyData.eqvAll, dq_eqv, decide_true, Bool.and_self]
/-- two rows of two numbers that are equal -/
theorem ne_row {K : PySem.W.Frag} {H : Hp} {a b : Addr} {p q : Rat} {Q : VK} (h : RowN K H a [p, q]) (h' : RowN K H b [p, q]) (k : Q (.bl false) H) : rNeD K (.ref a) (.ref b) H Q :=
  ⟨DL [p, q], DL [p, q], h.dp, h'.dp, dl_shaped p q, dl_shaped p q, by rw [dl_eqv]; exact k⟩
section
variable {P : Program} {w : World} {K : PySem.W.Frag} {mg : Str → Option Value} {base : Heap}
abbrev sLaw : Stmt := topS 43
abbrev nLaw : List Str := ["_law_script", "_law_draws_here", "_law_a", "_law_b", "_law_ring_here", "_law_chain", "_law_g", "_law_h", "_law_wide", "_law_high", "_law_low", "_law_one", "_law_behind", "_law_steps", "_law_told", "_law_k", "_law_due", "_law_apart"]
theorem scLaw : FnScope nLaw ["_law_script"] (defScope sLaw) := ⟨rfl, rfl, rfl, by decide +kernel, rfl, by decide +kernel, by decide +kernel⟩
def spLaw (K : PySem.W.Frag) : Sp := fun vs H Q _ => ∃ (a : Addr) (ns : List Int), vs = [.ref a] ∧ SqL K H a (ns.map V.int) ∧ ns.length ≤ 63 ∧ ∀ H', Q (.bl true) H'
theorem ok_law {f fDr fTw fRi fLg fNu fSp fLe fFi fWa fLs fIs fMi fPl fTi fMe : Addr} {fd fdDr fdTw fdRi fdLg fdNu fdSp fdLe fdFi fdWa fdLs fdIs fdMi fdPl fdTi fdMe : FuncData} (F : Fun K "law" "law" sLaw f fd) (B : Bi mg)
    (CDr : Cal P w K mg base "_law_draws" ["_law_script", "_law_count"] 1 fDr fdDr (spDraws K)) (CTw : Cal P w K mg base "_law_two" ["_law_draws_here"] 1 fTw fdTw (spTwo K)) (CRi : Cal P w K mg base "_law_ring" nLab 1 fRi fdRi (spRing K))
    (CLg : Cal P w K mg base "long_gains" ["chain"] 7 fLg fdLg (spLong K)) (CNu : Cal P w K mg base "_law_number" ["_law_n", "_law_d"] 2 fNu fdNu (spLnum K)) (CSp : Cal P w K mg base "spread" ["chain"] 9 fSp fdSp (spSpread K)) (CLe : Cal P w K mg base "leads" ["chain"] 8 fLe fdLe (spLeads K))
    (CFi : CalK P w K mg base "first_gains" ["chain", "steps"] ["steps"] 5 fFi fdFi (spFirst K)) (CWa : Cal P w K mg base "_law_walk" ["_law_draws_here", "_law_most"] 3 fWa fdWa (spWalk K)) (CLs : Cal P w K mg base "_law_less" nLab 1 fLs fdLs (spLless K))
    (CIs : Cal P w K mg base "_law_is_number" ["_law_actual"] 2 fIs fdIs (spLisnum K)) (CMi : Cal P w K mg base "_law_minus" nLab 4 fMi fdMi (spBin K (· - ·) fun a b => Z4 a b ∧ (a - b).den < 2 ^ 2565)) (CPl : Cal P w K mg base "_law_plus" nLab 3 fPl fdPl (spBin K (· + ·) fun a b => Z4 a b ∧ (a + b).den < 2 ^ 2565))
    (CTi : Cal P w K mg base "_law_times" nLab 3 fTi fdTi (spBin K (· * ·) fun a b => Z4 a b ∧ (a * b).den < 2 ^ 2565)) (CMe : Cal P w K mg base "_law_means" ["_law_chain", "_law_numbers"] 5 fMe fdMe (spLmeans K)) : FnOk P w K mg base CX0 10 f fd ["_law_script"] (spLaw K) := by
  refine F.ok scLaw (fun vs H Q E h => ?_) (fun cdv A outer s H vs Q E hr h => ?_)
  · obtain ⟨a, ns, rfl, _⟩ := h
    rfl
  · obtain ⟨a, ns, rfl, hS, hlen, q⟩ := h
    have nd := scLaw.nd
    have r1 : Room 1 _ := hr.mono (by decide)
    have r2 : Room 2 _ := hr.mono (by decide)
    have r3 : Room 3 _ := hr.mono (by decide)
    have r4 : Room 4 _ := hr.mono (by decide)
    have r5 : Room 5 _ := hr.mono (by decide)
    have r7 : Room 7 _ := hr.mono (by decide)
    have r8 : Room 8 _ := hr.mono (by decide)
    refine ⟨_, pss_cons (ps_set (i := 1) nd rfl (.inl rfl) (pe_call CDr.ok r1 (by rfl) CDr.g CDr.kp CDr.b .nil pass0 (pa_cons (pv 0) (pa_cons pe_int pa_nil))))
      (pss_cons (ps_asg (pe_call CTw.ok r1 (by rfl) CTw.g CTw.kp CTw.b .nil pass0 (pa_cons (pe_slice sl_list (pv 1) (po_some pe_int) (po_some pe_int)) pa_nil)) (pg_tup rfl (pgs_cons (pg_name (i := 2) nd rfl (.inl rfl)) (pgs_cons (pg_name (i := 3) nd rfl (.inl rfl)) pgs_nil))))
      (pss_cons (ps_set (i := 4) nd rfl (.inl rfl) (pe_call CRi.ok r1 (by rfl) CRi.g CRi.kp CRi.b .nil pass0 (pa_cons (pv 2) (pa_cons (pv 3) pa_nil))))
      -- the ring
      (pss_cons (ps_if (PW.pt (pw_or (pt_cmpR (neD K hr) (pe_call CLg.ok r7 (by rfl) CLg.g CLg.kp CLg.b .nil pass0 (pa_cons (pv 4) pa_nil)) (pe_op op_rep (pe_lst (pa_cons (pe_call CNu.ok r2 (by rfl) CNu.g CNu.kp CNu.b .nil pass0 (pa_cons (pe_op op_add (pv 2) (pv 3)) (pa_cons pe_int pa_nil))) pa_nil)) pe_int) (nomark _))
          (pw_or1 (pt_cmpR (neD K hr) (pe_call CSp.ok hr (by rfl) CSp.g CSp.kp CSp.b .nil pass0 (pa_cons (pv 4) pa_nil)) (pe_call CNu.ok r2 (by rfl) CNu.g CNu.kp CNu.b .nil pass0 (pa_cons (pe_op op_sub (pv 3) (pv 2)) (pa_cons pe_int pa_nil))) (nomark _))))) (pss_one (ps_ret pe_bl)) pss_nil)
      (pss_cons (ps_if (pt_cmpR (neD K hr) (pe_call CLe.ok r8 (by rfl) CLe.g CLe.kp CLe.b .nil pass0 (pa_cons (pv 4) pa_nil)) (pe_lst (pa_cons (pe_call CNu.ok r2 (by rfl) CNu.g CNu.kp CNu.b .nil pass0 (pa_cons (pe_op op_sub (pv 2) (pv 3)) (pa_cons pe_int pa_nil)))
          (pa_cons (pe_call CNu.ok r2 (by rfl) CNu.g CNu.kp CNu.b .nil pass0 (pa_cons (pe_op op_sub (pv 3) (pv 2)) (pa_cons pe_int pa_nil))) pa_nil))) (nomark _)) (pss_one (ps_ret pe_bl)) pss_nil)
      (pss_cons (ps_if (pt_cmpR (neD K hr) (pe_callK CFi.ok r5 (by rfl) CFi.g CFi.kp CFi.b pass0 (pa_cons (pv 4) pa_nil) (pk_cons pe_int pk_nil)) (pe_lst (pa_cons (pe_tup (pa_cons (pe_op op_add (pe_op op_mul pe_int (pv 2)) (pv 3)) (pa_cons pe_int pa_nil)))
          (pa_cons (pe_tup (pa_cons (pe_op op_add (pv 2) (pe_op op_mul pe_int (pv 3))) (pa_cons pe_int pa_nil))) pa_nil))) (nomark _)) (pss_one (ps_ret pe_bl)) pss_nil)
      -- the chain
      (pss_cons (ps_set (i := 5) nd rfl (.inl rfl) (pe_call CWa.ok r3 (by rfl) CWa.g CWa.kp CWa.b .nil pass0 (pa_cons (pv 1) (pa_cons pe_int pa_nil))))
      (pss_cons (ps_par (i := 6) (j := 7) rfl nd rfl rfl (by decide) rfl rfl (pa_cons (pe_call CLg.ok r7 (by rfl) CLg.g CLg.kp CLg.b .nil pass0 (pa_cons (pv 5) pa_nil)) (pa_cons (pe_call CLe.ok r8 (by rfl) CLe.g CLe.kp CLe.b .nil pass0 (pa_cons (pv 5) pa_nil)) pa_nil)) (by rfl))
      (pss_cons (ps_set (i := 8) nd rfl (.inl rfl) (pe_call CSp.ok hr (by rfl) CSp.g CSp.kp CSp.b .nil pass0 (pa_cons (pv 5) pa_nil)))
      (pss_cons (ps_par (i := 9) (j := 10) rfl nd rfl rfl (by decide) rfl rfl (pa_cons (pe_ix ix_list (pv 7) pe_int (fun _ _ => rfl)) (pa_cons (pe_ix ix_list (pv 7) pe_int (fun _ _ => rfl)) pa_nil)) (by rfl))
      (pss_cons (ps_for PassesOwn.never rfl (pi_list (pv 7)) (pg_name (i := 11) nd rfl (.inl rfl))
        (pss_cons (ps_if (pt_val (pe_call CLs.ok r1 (by rfl) CLs.g CLs.kp CLs.b .nil pass0 (pa_cons (pv 9) (pa_cons (pv 11) pa_nil)))) (pss_one (ps_set (i := 9) nd rfl (.inl rfl) (pv 11))) pss_nil)
        (pss_one (ps_if (pt_val (pe_call CLs.ok r1 (by rfl) CLs.g CLs.kp CLs.b .nil pass0 (pa_cons (pv 11) (pa_cons (pv 10) pa_nil)))) (pss_one (ps_set (i := 10) nd rfl (.inl rfl) (pv 11))) pss_nil))))
      (pss_cons (ps_if (PW.pt (pw_or (pt_not (pt_val (pe_call CIs.ok r2 (by rfl) CIs.g CIs.kp CIs.b .nil pass0 (pa_cons (pv 8) pa_nil)))) (pw_or1 (pt_cmpR (neD K hr) (pv 8) (pe_call CMi.ok r4 (by rfl) CMi.g CMi.kp CMi.b .nil pass0 (pa_cons (pv 9) (pa_cons (pv 10) pa_nil))) (nomark _))))) (pss_one (ps_ret pe_bl)) pss_nil)
      (pss_cons (ps_set (i := 12) nd rfl (.inl rfl) (pe_callTy call_list_of (by rfl) B.list (by decide +kernel) (pa_cons (pv 7) pa_nil)))
      (pss_cons (ps_for PassesOwn.never rfl (pi_range1 rfl B.range (pa_cons (pe_op op_add pe_int (pe_op op_mod (pe_callTy call_int1 (by rfl) B.int (by decide +kernel) (pa_cons (pe_ix ix_list (pv 1) pe_int (fun _ _ => rfl)) pa_nil)) pe_int)) pa_nil)) (pg_name (i := 13) nd rfl (.inl rfl))
        (pss_cons (ps_set (i := 14) nd rfl (.inl rfl) (pe_callK CFi.ok r5 (by rfl) CFi.g CFi.kp CFi.b pass0 (pa_cons (pv 5) pa_nil) (pk_cons (pv 13) pk_nil)))
        (pss_cons (ps_for PassesOwn.never rfl (pi_range1 rfl B.range (pa_cons (pe_callB call_len_seq (by rfl) B.len PySem.boot_len (pa_cons (pv 5) pa_nil)) pa_nil)) (pg_name (i := 15) nd rfl (.inl rfl))
          (pss_cons (ps_set (i := 16) nd rfl (.inl rfl) (pe_call CMi.ok r4 (by rfl) CMi.g CMi.kp CMi.b .nil pass0 (pa_cons (pe_call CPl.ok r3 (by rfl) CPl.g CPl.kp CPl.b .nil pass0 (pa_cons (pe_call CTi.ok r3 (by rfl) CTi.g CTi.kp CTi.b .nil pass0 (pa_cons (pe_tup (pa_cons (pv 13) (pa_cons pe_int pa_nil))) (pa_cons (pe_ix ix_list (pv 6) (pv 15) (fun _ _ => rfl)) pa_nil)))
              (pa_cons (pe_ix ix_list (pv 7) (pv 15) (fun _ _ => rfl)) pa_nil))) (pa_cons (pe_ix ix_list (pv 12) (pv 15) (fun _ _ => rfl)) pa_nil))))
          (pss_cons (ps_set (i := 17) nd rfl (.inl rfl) (pe_call CMi.ok r4 (by rfl) CMi.g CMi.kp CMi.b .nil pass0 (pa_cons (pe_ix ix_list (pv 14) (pv 15) (fun _ _ => rfl)) (pa_cons (pe_call CTi.ok r3 (by rfl) CTi.g CTi.kp CTi.b .nil pass0 (pa_cons (pe_tup (pa_cons (pv 13) (pa_cons pe_int pa_nil))) (pa_cons (pe_ix ix_list (pv 6) (pv 15) (fun _ _ => rfl)) pa_nil))) pa_nil))))
          (pss_one (ps_if (PW.pt (pw_or (pt_cmpR (neD K hr) (pe_ix ix_list (pv 14) (pv 15) (fun _ _ => rfl)) (pv 16) (nomark _)) (pw_or1 (pt_val (pe_call CLs.ok r1 (by rfl) CLs.g CLs.kp CLs.b .nil pass0 (pa_cons (pv 8) (pa_cons (pe_tup (pa_cons (pe_callB call_abs (by rfl) B.abs (by decide +kernel) (pa_cons (pe_ix ix_tup (pv 17) pe_int (fun _ _ => rfl)) pa_nil)) (pa_cons (pe_ix ix_tup (pv 17) pe_int (fun _ _ => rfl)) pa_nil))) pa_nil))))))) (pss_one (ps_ret pe_bl)) pss_nil)))))
        (pss_one (ps_set (i := 12) nd rfl (.inl rfl) (pe_call CMe.ok r5 (by rfl) CMe.g CMe.kp CMe.b .nil pass0 (pa_cons (pv 5) (pa_cons (pv 12) pa_nil))))))))
      (pss_one (ps_ret pe_bl))))))))))))))), ?_⟩
    have l1 : 1 ≤ sizeLine := by decide
    have l2 : 2 ≤ sizeLine := by decide
    have d2 : (2 : Int).natAbs < 2 ^ 9000 := Nat.lt_of_le_of_lt (show (2 : Int).natAbs ≤ 2 ^ 7 by decide) (p2 (by decide))
    have d4 : (4 : Int).natAbs < 2 ^ 9000 := Nat.lt_of_le_of_lt (show (4 : Int).natAbs ≤ 2 ^ 7 by decide) (p2 (by decide))
    -- the draws, two numbers, the ring
    refine ⟨_, rfl, a, ns, rfl, hS, hlen, fun H1 dp ds s1 hdp edp ldp hds => ?_⟩
    refine ⟨_, rfl, 90, rfl, 92, rfl, dp, _, rfl, .of edp, fun c hc => ?_⟩
    have ecut : cutV (ni ds) (some 90) (some 92) = ni ((ds.drop 90).take 2) := by
      have := cut_nat (ni ds) (lo := 90) (hi := 92) (by rw [ni_len]; omega)
      rw [ni_drop, ni_take] at this
      exact this
    rw [ecut]
    refine ⟨c, (ds.drop 90).take 2, rfl, upd_same, by rw [List.length_take, List.length_drop]; omega, fun H2 t x y s2 et hx hxy hy => ?_⟩
    refine ⟨t, [.int x, .int y], rfl, .of et, rfl, .int x, [.int y], rfl, .int y, [], rfl, rfl, ?_⟩
    refine ⟨_, rfl, _, rfl, x, y, rfl, fun H3 rg s3 hrg Crg => ?_⟩
    have edp3 : H3 dp = some (.lst (ni ds)) := s3 _ _ (s2 _ _ (same_upd hc _ _ edp))
    have okR := ring_ok x y
    have szR : (ringC x y).Sized (fun _ => 1) := ring_sized (by omega) (by omega)
    -- the ring's long gains
    refine ⟨_, rfl, rg, ringC x y, _, rfl, Crg, okR, szR, fun H4 p4 g4 s4 hp4 r4 L4 _ => ?_⟩
    refine ⟨_, rfl, _, rfl, _, _, rfl, rfl, x + y, 2, rfl, by decide, d2, den_small (by decide) (by decide), fun H5 v5 s5 n5 => ?_⟩
    refine ⟨l1, fun L hL => ⟨L, 2, [v5], rfl, rfl, upd_same, by decide, by decide, l2, fun P5 hP5 => ?_⟩⟩
    have sL := same_upd (o := .lst [v5]) hL
    have sP := same_upd (o := .lst (List.replicate (2 : Int).toNat [v5]).flatten) hP5
    have e4 : tab (ringC x y).n g4 = [((x + y : Int) : Rat) / ((2 : Int) : Rat), ((x + y : Int) : Rat) / ((2 : Int) : Rat)] := by
      show [g4 0, g4 1] = _
      rw [ring_g L4 0 (by decide), ring_g L4 1 (by decide)]
    rw [e4] at r4
    have n5' := (n5.same sL).same sP
    refine ne_row (r4.same ((s5.trans sL).trans sP)) ⟨[v5, v5], upd_same, .cons n5' (.cons n5' .nil)⟩ ⟨_, rfl, iteF ?_⟩
    have s35 := ((s4.trans s5).trans sL).trans sP
    -- the ring's spread
    refine ⟨_, rfl, rg, _, _, rfl, Crg.same s35, okR, szR, fun H6 v6 g6 h6 hi6 lo6 s6 n6 A6 L6 G6 D6 => ?_⟩
    refine ⟨_, rfl, _, rfl, _, _, rfl, rfl, y - x, 2, rfl, by decide, d2, den_small (by decide) (by decide), fun H7 v7 s7 n7 => ?_⟩
    rw [ring_spread hxy L6 G6 D6 A6] at n6
    refine ne_num (n6.same s7) n7 ?_
    rw [decide_eq_true rfl]
    refine ⟨_, rfl, iteF ?_⟩
    have s37 := (s35.trans s6).trans s7
    -- the ring's leads
    refine ⟨_, rfl, rg, _, _, rfl, Crg.same s37, okR, szR, fun H8 p8 g8 h8 s8 hp8 r8' L8 G8 D8 _ => ?_⟩
    refine ⟨_, rfl, _, rfl, _, _, rfl, rfl, x - y, 4, rfl, by decide, d4, den_small (by decide) (by decide), fun H9 v9 s9 n9 => ?_⟩
    refine ⟨_, rfl, _, rfl, _, _, rfl, rfl, y - x, 4, rfl, by decide, d4, den_small (by decide) (by decide), fun HA vA sA nA => ?_⟩
    refine ⟨l2, fun L2' hL2 => ?_⟩
    have sB := same_upd (o := .lst [v9, vA]) hL2
    have e8 : tab (ringC x y).n h8 = [((x - y : Int) : Rat) / ((4 : Int) : Rat), ((y - x : Int) : Rat) / ((4 : Int) : Rat)] := by
      show [h8 0, h8 1] = _
      rw [(ring_h L8 G8 D8).1, (ring_h L8 G8 D8).2]
    rw [e8] at r8'
    refine ne_row (r8'.same ((s9.trans sA).trans sB)) ⟨[v9, vA], upd_same, .cons ((n9.same sA).same sB) (.cons (nA.same sB) .nil)⟩ ⟨_, rfl, iteF ?_⟩
    have s3B := (((s37.trans s8).trans s9).trans sA).trans sB
    -- the ring's first gains
    refine ⟨_, rfl, rg, 3, ringC x y, _, rfl, Crg.same s3B, okR, szR, by decide, fun HC pC sC hpC rC => ?_⟩
    refine ⟨_, rfl, _, _, rfl, rfl, .inl ⟨by decide, by decide⟩, _, rfl, _, _, rfl, rfl, l2, fun t1 ht1 => ?_⟩
    refine ⟨_, rfl, _, rfl, _, _, rfl, rfl, .inl ⟨by decide, by decide⟩, _, _, rfl, rfl, l2, fun t2 ht2 => ⟨l2, fun L3 hL3 => ?_⟩⟩
    have u1 := same_upd (o := .tup [V.int (2 * x + y), .int 1]) ht1
    have u2 := same_upd (o := .tup [V.int (x + 2 * y), .int 1]) ht2
    have u3 := same_upd (o := .lst [V.ref t1, .ref t2]) hL3
    have eC : tab (ringC x y).n (Mh.told (ringC x y) 3) = [((2 * x + y : Int) : Rat), ((x + 2 * y : Int) : Rat)] := by
      show [Mh.told (ringC x y) 3 0, Mh.told (ringC x y) 3 1] = _
      rw [(ring_told x y).1, (ring_told x y).2]
    rw [eC] at rC
    refine ne_row (rC.same ((u1.trans u2).trans u3)) ⟨[.ref t1, .ref t2], upd_same, .cons (((num_int upd_same).same u2).same u3) (.cons ((num_int upd_same).same u3) .nil)⟩ ⟨_, rfl, iteF ?_⟩
    have s3D := (((s3B.trans sC).trans u1).trans u2).trans u3
    have edpD := s3D _ _ edp3
    -- the chain
    refine ⟨_, rfl, dp, ds, rfl, edpD, ldp, fun HE p C wt sE hp hC ok sz => ?_⟩
    have edpE := sE _ _ edpD
    have KC := Mh.clss_of ok
    refine ⟨_, rfl, p, C, wt, rfl, hC, ok, sz, fun HF pg g sF hpg rg' LGg ⟨Fg, fg0, fg1, bg⟩ => ?_⟩
    refine ⟨_, rfl, p, C, wt, rfl, hC.same sF, ok, sz, fun HG ph g' h sG hph rh LGh GHh LDh ⟨Fh, fh0, fh1, bh⟩ => ?_⟩
    refine ⟨_, _, rfl, ?_⟩
    have hCG := (hC.same sF).same sG
    refine ⟨_, rfl, p, C, wt, rfl, hCG, ok, sz, fun HI vw g'' h'' hi lo sI nw HL LG2 GH2 LD2 => ?_⟩
    have egg : ∀ z, z < C.n → g' z = g z := Mh.LG.uniq ok KC LGh LGg
    have egg2 : ∀ z, z < C.n → g'' z = g' z := Mh.LG.uniq ok KC LG2 LGh
    have GHg : Mh.GH C g h := GH_congr ok egg GHh
    have ehh : ∀ z, z < C.n → h'' z = h z := Mh.LdCl.uniq ok KC (GH_congr ok egg2 GH2) GHh (fun cl hcl => LdCl_congr (KC.each cl hcl).lt egg2 (LD2 cl hcl)) LDh
    have HLh : HiLo h C.n hi lo := ⟨fun z hz => by rw [← ehh z hz]; exact HL.h1 z hz, fun z hz => by rw [← ehh z hz]; exact HL.h2 z hz,
      by obtain ⟨z, z1, z2⟩ := HL.h3; exact ⟨z, z1, by rw [← ehh z z1]; exact z2⟩, by obtain ⟨z, z1, z2⟩ := HL.h4; exact ⟨z, z1, by rw [← ehh z z1]; exact z2⟩⟩
    have hCI := hCG.same sI
    obtain ⟨vsh, eh, pvh⟩ := rh.same sI
    obtain ⟨vsg, eg, pvg⟩ := (rg'.same sG).same sI
    have lvh : vsh.length = C.n := by rw [pvh.length, tab_len]
    have n6' := sz.n6
    have n0' := ok.n0
    obtain ⟨v0, hv0, nv0⟩ := pgetr pvh (tab_get (f := h) n0')
    have hszh : ∀ z, z < C.n → Mh.Sz 4000 (h z) := fun z hz => (Mh.hilo_bd fh0 fh1 bh hz hz).1
    -- the greatest and the least
    refine ⟨_, rfl, ph, _, 0, v0, rfl, rfl, .of eh, atI_nat (j := 0) hv0, _, rfl, ph, _, 0, v0, rfl, rfl, .of eh, atI_nat (j := 0) hv0, _, _, rfl, ?_⟩
    refine ⟨_, rfl, ph, rfl, ⟨_, .of eh⟩, ?_⟩
    refine for_list (K := K) (a := ph) (xs := vsh) (fun i σ HJ => ∃ (v1 v2 : V) (y11 : Option V) (hi' lo' : Rat), σ = [some (.ref a), some (.ref dp), some (.int x), some (.int y), some (.ref rg), some (.ref p), some (.ref pg), some (.ref ph), some vw, some v1, some v2, y11, none, none, none, none, none, none] ∧ Same HI HJ ∧ NumV K HJ v1 hi' ∧ NumV K HJ v2 lo' ∧ HiLo h (if i = 0 then 1 else i) hi' lo')
      ⟨v0, v0, none, h 0, h 0, rfl, .refl HI, nv0, nv0, ?_⟩ (fun i σ HJ _ ⟨_, _, _, _, _, _, sJ, _⟩ => sJ.seq (.of eh)) ?_ ?_
    · rw [if_pos rfl]
      exact ⟨fun z hz => by rw [show z = 0 by omega]; exact Rat.le_refl, fun z hz => by rw [show z = 0 by omega]; exact Rat.le_refl, ⟨0, by decide, rfl⟩, ⟨0, by decide, rfl⟩⟩
    · rintro i xv σ HJ hiv ⟨v1, v2, y11, hi', lo', rfl, sJ, n1, n2, A⟩
      obtain ⟨q0, hq, nq⟩ := pget pvh hiv
      have hin : i < C.n := by have := (List.getElem?_eq_some_iff.mp hiv).1; omega
      rw [tab_get hin] at hq
      cases hq
      have nq2 := nq.same sJ
      have zh : Mh.Sz 4000 hi' := by obtain ⟨z, z1, z2⟩ := A.h3; rw [← z2]; exact hszh z (by split at z1 <;> omega)
      have zl : Mh.Sz 4000 lo' := by obtain ⟨z, z1, z2⟩ := A.h4; rw [← z2]; exact hszh z (by split at z1 <;> omega)
      have B' : HiLo h (if i + 1 = 0 then 1 else i + 1) (if hi' < h i then h i else hi') (if h i < lo' then h i else lo') := by
        rw [if_neg (Nat.succ_ne_zero i)]
        by_cases e : i = 0
        · subst e
          rw [if_pos rfl] at A
          have a1 := A.h1 0 (by decide)
          have a2 := A.h2 0 (by decide)
          have e1 : ¬ hi' < h 0 := by grind
          have e2 : ¬ h 0 < lo' := by grind
          rw [if_neg e1, if_neg e2]
          exact A
        · rw [if_neg e] at A
          exact A.next
      refine ⟨_, rfl, _, rfl, v1, xv, _, _, rfl, n1, nq2, ⟨zh, hszh i hin⟩, _, rfl, ?_⟩
      by_cases c1 : hi' < h i
      · rw [decide_eq_true c1]
        rw [if_pos c1] at B'
        refine iteT ⟨_, rfl, _, rfl, _, rfl, xv, v2, _, _, rfl, nq2, n2, ⟨hszh i hin, zl⟩, _, rfl, ?_⟩
        by_cases c2 : h i < lo'
        · rw [decide_eq_true c2]
          rw [if_pos c2] at B'
          exact iteT ⟨_, rfl, _, _, _, _, _, rfl, sJ, nq2, nq2, B'⟩
        · rw [decide_eq_false c2]
          rw [if_neg c2] at B'
          exact iteF ⟨_, _, _, _, _, rfl, sJ, nq2, n2, B'⟩
      · rw [decide_eq_false c1]
        rw [if_neg c1] at B'
        refine iteF ⟨_, rfl, _, rfl, xv, v2, _, _, rfl, nq2, n2, ⟨hszh i hin, zl⟩, _, rfl, ?_⟩
        by_cases c2 : h i < lo'
        · rw [decide_eq_true c2]
          rw [if_pos c2] at B'
          exact iteT ⟨_, rfl, _, _, _, _, _, rfl, sJ, n1, nq2, B'⟩
        · rw [decide_eq_false c2]
          rw [if_neg c2] at B'
          exact iteF ⟨_, _, _, _, _, rfl, sJ, n1, n2, B'⟩
    rintro σ HJ ⟨v1, v2, y11, hi', lo', rfl, sJ, n1, n2, A⟩
    rw [lvh, if_neg (by omega)] at A
    obtain ⟨eHi, eLo⟩ := HiLo.uniq A HLh fun _ _ => rfl
    subst eHi
    subst eLo
    have wd : Mh.Sz 4000 hi' ∧ Mh.Sz 4000 lo' ∧ Mh.Sz 4000 (hi' - lo') ∧ (hi' - lo').den < 2 ^ 2565 := by
      obtain ⟨z, z1, z2⟩ := A.h3
      obtain ⟨y', y1, y2⟩ := A.h4
      have q1 := Mh.hilo_bd fh0 fh1 bh z1 y1
      rw [← z2, ← y2]
      exact ⟨q1.1, hszh y' y1, q1.2.1, q1.2.2⟩
    -- wide
    refine ⟨_, rfl, vw, _, rfl, nw.same sJ, wd.2.2.2, _, rfl, ?_⟩
    refine iteF ?_
    refine ⟨_, rfl, _, rfl, _, rfl, v1, v2, _, _, rfl, n1, n2, ⟨⟨wd.1, wd.2.1⟩, wd.2.2.2⟩, fun HK vK sK nK => ?_⟩
    refine ne_num ((nw.same sJ).same sK) nK ?_
    rw [decide_eq_true rfl]
    refine ⟨_, rfl, iteF ?_⟩
    have sIK := sJ.trans sK
    -- behind
    refine ⟨_, rfl, ph, _, rfl, .inl (.of (sIK _ _ eh)), fun bh0 hbh0 => ?_⟩
    have sM := sIK.trans (same_upd (o := .lst vsh) hbh0)
    have h89 := ni_get (ns := ds) (i := 89) (by omega)
    have edpM := sM _ _ (sI _ _ (sG _ _ (sF _ _ edpE)))
    obtain ⟨m, em, hm⟩ : ∃ m : Nat, 1 + ((Mh.at_ ds 89 : Nat) : Int) % 31 = (m : Int) ∧ m ≤ 31 := ⟨1 + Mh.at_ ds 89 % 31, by omega, by omega⟩
    refine ⟨_, rfl, dp, _, 89, _, rfl, rfl, .of edpM, atI_nat (j := 89) h89, .inl ⟨_, rfl, _, _, rfl, rfl, by show (0 : Int) < 31; decide, _, _, rfl, rfl, _, rfl, by rw [em]; omega, by rw [em]; omega, ?_⟩⟩
    rw [em, show ((m : Nat) : Int).toNat = m from rfl]
    obtain ⟨L, l0, l1', hL⟩ := sz.com
    have hCM := hCI.same sM
    have lC : -(2 ^ 62) ≤ (C.n : Int) ∧ (C.n : Int) < 2 ^ 62 := by omega
    refine for_range (lo := 0) (n := m) (fun i σ HN => ∃ (bp : Addr) (y11 y13 y14 y15 y16 y17 : Option V), σ = [some (.ref a), some (.ref dp), some (.int x), some (.int y), some (.ref rg), some (.ref p), some (.ref pg), some (.ref ph), some vw, some v1, some v2, y11, some (.ref bp), y13, y14, y15, y16, y17] ∧ Same HI HN ∧ RowN K HN bp (tab C.n (Mh.behind C h i)))
      ⟨bh0, _, _, _, _, _, _, rfl, sM, ⟨vsh, upd_same, NumV.all pvh sM⟩⟩ ?_ ?_
    · rintro i σ HN hi31 ⟨bp, y11', y13, y14, y15, y16, y17, rfl, sN, rb⟩
      rw [show (0 : Int) + (i : Int) = (i : Int) from Int.zero_add _]
      have hi30 : i ≤ 30 := by omega
      have hCN := hCI.same sN
      refine ⟨_, rfl, _, rfl, p, i, C, wt, rfl, hCN, ok, sz, hi30, fun HO pt sO hpt rt => ?_⟩
      have sNO := sN.trans sO
      obtain ⟨cvs, ecv, lcv, hcp⟩ := id (hCI.same sNO)
      refine ⟨_, rfl, p, _, rfl, .inl (.of ecv), _, rfl, by rw [lcv]; exact lC.1, by rw [lcv]; exact lC.2, ?_⟩
      rw [lcv, show ((C.n : Nat) : Int).toNat = C.n from rfl]
      obtain ⟨vst, ets, pvt⟩ := id rt
      obtain ⟨vsb, ebs, pvb⟩ := rb.same sO
      refine for_range (lo := 0) (n := C.n) (fun j σ HP => ∃ (y15 y16 y17 : Option V), σ = [some (.ref a), some (.ref dp), some (.int x), some (.int y), some (.ref rg), some (.ref p), some (.ref pg), some (.ref ph), some vw, some v1, some v2, y11', some (.ref bp), some (.int (i : Int)), some (.ref pt), y15, y16, y17] ∧ Same HO HP)
        ⟨_, _, _, rfl, .refl HO⟩ ?_ ?_
      · rintro j σ HP hj ⟨y15, y16, y17, rfl, sP'⟩
        rw [show (0 : Int) + (j : Int) = (j : Int) from Int.zero_add _]
        have W := Mh.step_ok ok sz l0 l1' hL GHg fg0 fg1 bg fh0 fh1 bh A.h1 A.h2 wd.2.2.1 hi30 hj
        have sIP := sNO.trans sP'
        obtain ⟨gv, hgv, ngv⟩ := pgetr pvg (tab_get (f := g) hj)
        obtain ⟨hv, hhv, nhv⟩ := pgetr pvh (tab_get (f := h) hj)
        obtain ⟨tv, htv, ntv⟩ := pgetr pvt (tab_get (f := Mh.told C i) hj)
        obtain ⟨bv, hbv, nbv⟩ := pgetr pvb (tab_get (f := Mh.behind C h i) hj)
        -- due
        refine ⟨_, rfl, l2, fun t5 ht5 => ?_⟩
        have w1 := same_upd (o := .tup [V.int (i : Int), .int 1]) ht5
        refine ⟨_, rfl, _, rfl, pg, _, _, gv, rfl, rfl, .of (w1 _ _ (sIP _ _ eg)), atI_nat hgv, .ref t5, gv, _, _, rfl, num_int upd_same, (ngv.same sIP).same w1, ⟨⟨W.zi, W.zq⟩, W.dm⟩, fun HQ vQ w2 nQ => ?_⟩
        have w12 := w1.trans w2
        have sIQ := sIP.trans w12
        refine ⟨_, rfl, _, rfl, ph, _, _, hv, rfl, rfl, .of (sIQ _ _ eh), atI_nat hhv, vQ, hv, _, _, rfl, nQ, nhv.same sIQ, ⟨⟨W.zm, W.zh⟩, W.dp⟩, fun HR vR w3 nR => ?_⟩
        have w13 := w12.trans w3
        have sOR := sP'.trans w13
        refine ⟨_, rfl, _, rfl, bp, _, _, bv, rfl, rfl, .of (sOR _ _ ebs), atI_nat hbv, vR, bv, _, _, rfl, nR, nbv.same sOR, ⟨⟨W.zp, W.zb⟩, by rw [← W.eq]; exact W.dt⟩, fun HS vS w4 nS => ?_⟩
        have nS' : NumV K HS vS ((((i : Nat) : Int) : Rat) * g j + h j - Mh.behind C h i j) := nS
        rw [← W.eq] at nS'
        have sOS := sOR.trans w4
        have sIS := (sIQ.trans w3).trans w4
        -- apart
        refine ⟨_, rfl, _, rfl, pt, _, _, tv, rfl, rfl, .of (sOS _ _ ets), atI_nat htv, ?_⟩
        refine ⟨_, rfl, l2, fun t6 ht6 => ?_⟩
        have w5 := same_upd (o := .tup [V.int (i : Int), .int 1]) ht6
        refine ⟨_, rfl, _, rfl, pg, _, _, gv, rfl, rfl, .of (w5 _ _ (sIS _ _ eg)), atI_nat hgv, .ref t6, gv, _, _, rfl, num_int upd_same, (ngv.same sIS).same w5, ⟨⟨W.zi, W.zq⟩, W.dm⟩, fun HT vT w6 nT => ?_⟩
        have w56 := w5.trans w6
        refine ⟨tv, vT, _, _, rfl, (ntv.same sOS).same w56, nT, ⟨⟨W.zt, W.zm⟩, W.da⟩, fun HU vU w7 nU => ?_⟩
        have sOU := (sOS.trans w56).trans w7
        have sIU := (sIS.trans w56).trans w7
        -- told and due, wide and apart
        refine ⟨_, rfl, _, rfl, pt, _, _, tv, rfl, rfl, .of (sOU _ _ ets), atI_nat htv, _, rfl, ne_num (ntv.same sOU) ((nS'.same w56).same w7) ?_⟩
        rw [decide_eq_true rfl]
        refine ⟨_, rfl, iteF ?_⟩
        refine ⟨_, rfl, _, rfl, num0 nU ⟨_, rfl, _, rfl, num1 nU ⟨l2, fun t7 ht7 => ?_⟩⟩⟩
        have w8 := same_upd (o := .tup [V.int (if (Mh.told C i j - (((i : Nat) : Int) : Rat) * g j).num < 0 then -(Mh.told C i j - (((i : Nat) : Int) : Rat) * g j).num else (Mh.told C i j - (((i : Nat) : Int) : Rat) * g j).num), .int (((Mh.told C i j - (((i : Nat) : Int) : Rat) * g j).den : Nat) : Int)]) ht7
        refine ⟨vw, .ref t7, hi' - lo', Mh.ab (Mh.told C i j - (((i : Nat) : Int) : Rat) * g j), rfl, (nw.same sIU).same w8, ⟨t7, rfl, .of ?_⟩, ⟨W.zw, W.za⟩, _, rfl, ?_⟩
        · rw [upd_same]
          unfold NV
          rw [Mh.ab_num, Mh.ab_den]
        · rw [decide_eq_false W.le]
          exact iteF ⟨_, _, _, rfl, sP'.trans (((w13.trans w4).trans w56).trans w7 |>.trans w8)⟩
      · rintro σ HP ⟨y15, y16, y17, rfl, sP'⟩
        have sOP := sO.trans sP'
        have ms := Mh.mean_sz l1' fh1 hi30
        refine ⟨_, rfl, _, rfl, p, bp, C, wt, Mh.behind C h i, 10 * Fh * L ^ i, 2 ^ 1165 * L ^ i, rfl, hCN.same sOP, ok, sz, rb.same sOP, Nat.mul_pos (by omega) (Nat.pow_pos l0), ms.1, ms.2, Mh.behind_bd sz ok hL bh i, fun HQ pq sQ hpq rq => ?_⟩
        exact ⟨pq, _, _, _, _, _, _, rfl, (sN.trans sOP).trans sQ, rq⟩
    · rintro σ HN ⟨bp, y11', y13, y14, y15, y16, y17, rfl, sN, rb⟩
      exact q HN
end
end Mw
set_option Elab.async false
set_option linter.all false
set_option maxRecDepth 100000
set_option autoImplicit false
namespace Mw
open PySem PySem.Spec PyProof.Rows L2
/-! ### what the top has written -/
theorem con_of {K : PySem.W.Frag} {t : Addr} {od : Option Addr} {z : Int} {tk tk' : Tok} {m : Nat} {sl : Array (Option Value)} (h : K.lookup t = some ⟨.type "tuple", od, .seq #[.int z tk, .int 1 tk'] m, sl⟩) (H : Hp) : SqT K H t [.int z, .int 1] := .inr ⟨_, _, _, h, rfl, rfl, (show 2 ≤ sizeLine by decide), .cons ⟨_, rfl⟩ (.cons ⟨_, rfl⟩ .nil)⟩
theorem all_mk {l : PySem.W.OpenLaw} {w : World} {K : PySem.W.Frag} {h : Heap} {mg : Str → Option Value} {fa f0 f1 f2 f3 f4 f5 f6 f7 f8 f9 f10 f11 f12 f13 f14 f15 f16 f17 f18 f19 f20 f21 f22 f23 f24 f25 f26 f27 f28 f29 f30 f31 f32 f33 f34 f35 tN tO : Addr} (X : K.In h) (G : h.Ns mainGlobals mg) (hfa : mg "law" = some (.ref fa))
    {od0 an0 od1 an1 od2 an2 od3 an3 od4 an4 od5 an5 od6 an6 od7 an7 od8 an8 od9 an9 od10 an10 od11 an11 od12 an12 od13 an13 od14 an14 od15 an15 od16 an16 od17 an17 od18 an18 od19 an19 od20 an20 od21 an21 od22 an22 od23 an23 od24 an24 od25 an25 od26 an26 od27 an27 od28 an28 od29 an29 od30 an30 od31 an31 od32 an32 od33 an33 od34 an34 od35 an35 odN odO : Option Addr} {sl0 sl1 sl2 sl3 sl4 sl5 sl6 sl7 sl8 sl9 sl10 sl11 sl12 sl13 sl14 sl15 sl16 sl17 sl18 sl19 sl20 sl21 sl22 sl23 sl24 sl25 sl26 sl27 sl28 sl29 sl30 sl31 sl32 sl33 sl34 sl35 slN slO : Array (Option Value)} {oc0 kV0 dc0 pm0 cd0 ct0 oc1 kV1 dc1 pm1 cd1 ct1 oc2 kV2 dc2 pm2 cd2 ct2 oc3 kV3 dc3 pm3 cd3 ct3 oc4 kV4 dc4 pm4 cd4 ct4 oc5 kV5 dc5 pm5 cd5 ct5 oc6 kV6 dc6 pm6 cd6 ct6 oc7 kV7 dc7 pm7 cd7 ct7 oc8 kV8 dc8 pm8 cd8 ct8 oc9 kV9 dc9 pm9 cd9 ct9 oc10 kV10 dc10 pm10 cd10 ct10 oc11 kV11 dc11 pm11 cd11 ct11 oc12 kV12 dc12 pm12 cd12 ct12 oc13 kV13 dc13 pm13 cd13 ct13 oc14 kV14 dc14 pm14 cd14 ct14 oc15 kV15 dc15 pm15 cd15 ct15 oc16 kV16 dc16 pm16 cd16 ct16 oc17 kV17 dc17 pm17 cd17 ct17 oc18 kV18 dc18 pm18 cd18 ct18 oc19 kV19 dc19 pm19 cd19 ct19 oc20 kV20 dc20 pm20 cd20 ct20 oc21 kV21 dc21 pm21 cd21 ct21 oc22 kV22 dc22 pm22 cd22 ct22 oc23 kV23 dc23 pm23 cd23 ct23 oc24 kV24 dc24 pm24 cd24 ct24 oc25 kV25 dc25 pm25 cd25 ct25 oc26 kV26 dc26 pm26 cd26 ct26 oc27 kV27 dc27 pm27 cd27 ct27 oc28 kV28 dc28 pm28 cd28 ct28 oc29 kV29 dc29 pm29 cd29 ct29 oc30 kV30 dc30 pm30 cd30 ct30 oc31 kV31 dc31 pm31 cd31 ct31 oc32 kV32 dc32 pm32 cd32 ct32 oc33 kV33 dc33 pm33 cd33 ct33 oc34 kV34 dc34 pm34 cd34 ct34 oc35 kV35 dc35 pm35 cd35 ct35 : Value} {tk1 tk2 tk3 tk4 : Tok} {mN mO : Nat}
    (a0 : PySem.W.nsIn K mainGlobals "number" = some (some (.ref f0))) (l0 : K.lookup f0 = some ⟨oc0, od0, .func (PySem.W.fnOf "number" "number" (defArgs sNumber) (defBody sNumber) (defScope sNumber) .none kV0 dc0 pm0 an0 cd0 ct0), sl0⟩) (c0 : PySem.W.codeIn K cd0 "number" = true) (k0 : PySem.W.keepIn K (.ref f0) = true)
    (a1 : PySem.W.nsIn K mainGlobals "compare" = some (some (.ref f1))) (l1 : K.lookup f1 = some ⟨oc1, od1, .func (PySem.W.fnOf "compare" "compare" (defArgs sCompare) (defBody sCompare) (defScope sCompare) .none kV1 dc1 pm1 an1 cd1 ct1), sl1⟩) (c1 : PySem.W.codeIn K cd1 "compare" = true) (k1 : PySem.W.keepIn K (.ref f1) = true)
    (a2 : PySem.W.nsIn K mainGlobals "plus" = some (some (.ref f2))) (l2 : K.lookup f2 = some ⟨oc2, od2, .func (PySem.W.fnOf "plus" "plus" (defArgs sPlus) (defBody sPlus) (defScope sPlus) .none kV2 dc2 pm2 an2 cd2 ct2), sl2⟩) (c2 : PySem.W.codeIn K cd2 "plus" = true) (k2 : PySem.W.keepIn K (.ref f2) = true)
    (a3 : PySem.W.nsIn K mainGlobals "minus" = some (some (.ref f3))) (l3 : K.lookup f3 = some ⟨oc3, od3, .func (PySem.W.fnOf "minus" "minus" (defArgs sMinus) (defBody sMinus) (defScope sMinus) .none kV3 dc3 pm3 an3 cd3 ct3), sl3⟩) (c3 : PySem.W.codeIn K cd3 "minus" = true) (k3 : PySem.W.keepIn K (.ref f3) = true)
    (a4 : PySem.W.nsIn K mainGlobals "times" = some (some (.ref f4))) (l4 : K.lookup f4 = some ⟨oc4, od4, .func (PySem.W.fnOf "times" "times" (defArgs sTimes) (defBody sTimes) (defScope sTimes) .none kV4 dc4 pm4 an4 cd4 ct4), sl4⟩) (c4 : PySem.W.codeIn K cd4 "times" = true) (k4 : PySem.W.keepIn K (.ref f4) = true)
    (a5 : PySem.W.nsIn K mainGlobals "divided" = some (some (.ref f5))) (l5 : K.lookup f5 = some ⟨oc5, od5, .func (PySem.W.fnOf "divided" "divided" (defArgs sDivided) (defBody sDivided) (defScope sDivided) .none kV5 dc5 pm5 an5 cd5 ct5), sl5⟩) (c5 : PySem.W.codeIn K cd5 "divided" = true) (k5 : PySem.W.keepIn K (.ref f5) = true)
    (a6 : PySem.W.nsIn K mainGlobals "total" = some (some (.ref f6))) (l6 : K.lookup f6 = some ⟨oc6, od6, .func (PySem.W.fnOf "total" "total" (defArgs sTotal) (defBody sTotal) (defScope sTotal) .none kV6 dc6 pm6 an6 cd6 ct6), sl6⟩) (c6 : PySem.W.codeIn K cd6 "total" = true) (k6 : PySem.W.keepIn K (.ref f6) = true)
    (a7 : PySem.W.nsIn K mainGlobals "lessened" = some (some (.ref f7))) (l7 : K.lookup f7 = some ⟨oc7, od7, .func (PySem.W.fnOf "lessened" "lessened" (defArgs sLessened) (defBody sLessened) (defScope sLessened) .none kV7 dc7 pm7 an7 cd7 ct7), sl7⟩) (c7 : PySem.W.codeIn K cd7 "lessened" = true) (k7 : PySem.W.keepIn K (.ref f7) = true)
    (a8 : PySem.W.nsIn K mainGlobals "solved" = some (some (.ref f8))) (l8 : K.lookup f8 = some ⟨oc8, od8, .func (PySem.W.fnOf "solved" "solved" (defArgs sSolved) (defBody sSolved) (defScope sSolved) .none kV8 dc8 pm8 an8 cd8 ct8), sl8⟩) (c8 : PySem.W.codeIn K cd8 "solved" = true) (k8 : PySem.W.keepIn K (.ref f8) = true)
    (a9 : PySem.W.nsIn K mainGlobals "met" = some (some (.ref f9))) (l9 : K.lookup f9 = some ⟨oc9, od9, .func (PySem.W.fnOf "met" "met" (defArgs sMet) (defBody sMet) (defScope sMet) .none kV9 dc9 pm9 an9 cd9 ct9), sl9⟩) (c9 : PySem.W.codeIn K cd9 "met" = true) (k9 : PySem.W.keepIn K (.ref f9) = true)
    (a10 : PySem.W.nsIn K mainGlobals "targets" = some (some (.ref f10))) (l10 : K.lookup f10 = some ⟨oc10, od10, .func (PySem.W.fnOf "targets" "targets" (defArgs sTargets) (defBody sTargets) (defScope sTargets) .none kV10 dc10 pm10 an10 cd10 ct10), sl10⟩) (c10 : PySem.W.codeIn K cd10 "targets" = true) (k10 : PySem.W.keepIn K (.ref f10) = true)
    (a11 : PySem.W.nsIn K mainGlobals "reached" = some (some (.ref f11))) (l11 : K.lookup f11 = some ⟨oc11, od11, .func (PySem.W.fnOf "reached" "reached" (defArgs sReached) (defBody sReached) (defScope sReached) .none kV11 dc11 pm11 an11 cd11 ct11), sl11⟩) (c11 : PySem.W.codeIn K cd11 "reached" = true) (k11 : PySem.W.keepIn K (.ref f11) = true)
    (a12 : PySem.W.nsIn K mainGlobals "closed_classes" = some (some (.ref f12))) (l12 : K.lookup f12 = some ⟨oc12, od12, .func (PySem.W.fnOf "closed_classes" "closed_classes" (defArgs sClosed) (defBody sClosed) (defScope sClosed) .none kV12 dc12 pm12 an12 cd12 ct12), sl12⟩) (c12 : PySem.W.codeIn K cd12 "closed_classes" = true) (k12 : PySem.W.keepIn K (.ref f12) = true)
    (a13 : PySem.W.nsIn K mainGlobals "shares_in" = some (some (.ref f13))) (l13 : K.lookup f13 = some ⟨oc13, od13, .func (PySem.W.fnOf "shares_in" "shares_in" (defArgs sShares) (defBody sShares) (defScope sShares) .none kV13 dc13 pm13 an13 cd13 ct13), sl13⟩) (c13 : PySem.W.codeIn K cd13 "shares_in" = true) (k13 : PySem.W.keepIn K (.ref f13) = true)
    (a14 : PySem.W.nsIn K mainGlobals "weighed_by" = some (some (.ref f14))) (l14 : K.lookup f14 = some ⟨oc14, od14, .func (PySem.W.fnOf "weighed_by" "weighed_by" (defArgs sWeighed) (defBody sWeighed) (defScope sWeighed) .none kV14 dc14 pm14 an14 cd14 ct14), sl14⟩) (c14 : PySem.W.codeIn K cd14 "weighed_by" = true) (k14 : PySem.W.keepIn K (.ref f14) = true)
    (a15 : PySem.W.nsIn K mainGlobals "with_rest" = some (some (.ref f15))) (l15 : K.lookup f15 = some ⟨oc15, od15, .func (PySem.W.fnOf "with_rest" "with_rest" (defArgs sRest) (defBody sRest) (defScope sRest) .none kV15 dc15 pm15 an15 cd15 ct15), sl15⟩) (c15 : PySem.W.codeIn K cd15 "with_rest" = true) (k15 : PySem.W.keepIn K (.ref f15) = true)
    (a16 : PySem.W.nsIn K mainGlobals "long_gains" = some (some (.ref f16))) (l16 : K.lookup f16 = some ⟨oc16, od16, .func (PySem.W.fnOf "long_gains" "long_gains" (defArgs sLong) (defBody sLong) (defScope sLong) .none kV16 dc16 pm16 an16 cd16 ct16), sl16⟩) (c16 : PySem.W.codeIn K cd16 "long_gains" = true) (k16 : PySem.W.keepIn K (.ref f16) = true)
    (a17 : PySem.W.nsIn K mainGlobals "leads" = some (some (.ref f17))) (l17 : K.lookup f17 = some ⟨oc17, od17, .func (PySem.W.fnOf "leads" "leads" (defArgs sLeads) (defBody sLeads) (defScope sLeads) .none kV17 dc17 pm17 an17 cd17 ct17), sl17⟩) (c17 : PySem.W.codeIn K cd17 "leads" = true) (k17 : PySem.W.keepIn K (.ref f17) = true)
    (a18 : PySem.W.nsIn K mainGlobals "mean_at" = some (some (.ref f18))) (l18 : K.lookup f18 = some ⟨oc18, od18, .func (PySem.W.fnOf "mean_at" "mean_at" (defArgs sMean) (defBody sMean) (defScope sMean) .none kV18 dc18 pm18 an18 cd18 ct18), sl18⟩) (c18 : PySem.W.codeIn K cd18 "mean_at" = true) (k18 : PySem.W.keepIn K (.ref f18) = true)
    (a19 : PySem.W.nsIn K mainGlobals "first_gains" = some (some (.ref f19))) (l19 : K.lookup f19 = some ⟨oc19, od19, .func (PySem.W.fnOf "first_gains" "first_gains" (defArgs sFirst) (defBody sFirst) (defScope sFirst) .none kV19 dc19 pm19 an19 cd19 ct19), sl19⟩) (c19 : PySem.W.codeIn K cd19 "first_gains" = true) (k19 : PySem.W.keepIn K (.ref f19) = true)
    (a20 : PySem.W.nsIn K mainGlobals "spread_of" = some (some (.ref f20))) (l20 : K.lookup f20 = some ⟨oc20, od20, .func (PySem.W.fnOf "spread_of" "spread_of" (defArgs sSpreadOf) (defBody sSpreadOf) (defScope sSpreadOf) .none kV20 dc20 pm20 an20 cd20 ct20), sl20⟩) (c20 : PySem.W.codeIn K cd20 "spread_of" = true) (k20 : PySem.W.keepIn K (.ref f20) = true)
    (a21 : PySem.W.nsIn K mainGlobals "spread" = some (some (.ref f21))) (l21 : K.lookup f21 = some ⟨oc21, od21, .func (PySem.W.fnOf "spread" "spread" (defArgs sSpread) (defBody sSpread) (defScope sSpread) .none kV21 dc21 pm21 an21 cd21 ct21), sl21⟩) (c21 : PySem.W.codeIn K cd21 "spread" = true) (k21 : PySem.W.keepIn K (.ref f21) = true)
    (a22 : PySem.W.nsIn K mainGlobals "_law_draws" = some (some (.ref f22))) (l22 : K.lookup f22 = some ⟨oc22, od22, .func (PySem.W.fnOf "_law_draws" "_law_draws" (defArgs sDraws) (defBody sDraws) (defScope sDraws) .none kV22 dc22 pm22 an22 cd22 ct22), sl22⟩) (c22 : PySem.W.codeIn K cd22 "_law_draws" = true) (k22 : PySem.W.keepIn K (.ref f22) = true)
    (a23 : PySem.W.nsIn K mainGlobals "_law_gcd" = some (some (.ref f23))) (l23 : K.lookup f23 = some ⟨oc23, od23, .func (PySem.W.fnOf "_law_gcd" "_law_gcd" (defArgs sLgcd) (defBody sLgcd) (defScope sLgcd) .none kV23 dc23 pm23 an23 cd23 ct23), sl23⟩) (c23 : PySem.W.codeIn K cd23 "_law_gcd" = true) (k23 : PySem.W.keepIn K (.ref f23) = true)
    (a24 : PySem.W.nsIn K mainGlobals "_law_number" = some (some (.ref f24))) (l24 : K.lookup f24 = some ⟨oc24, od24, .func (PySem.W.fnOf "_law_number" "_law_number" (defArgs sLnum) (defBody sLnum) (defScope sLnum) .none kV24 dc24 pm24 an24 cd24 ct24), sl24⟩) (c24 : PySem.W.codeIn K cd24 "_law_number" = true) (k24 : PySem.W.keepIn K (.ref f24) = true)
    (a25 : PySem.W.nsIn K mainGlobals "_law_plus" = some (some (.ref f25))) (l25 : K.lookup f25 = some ⟨oc25, od25, .func (PySem.W.fnOf "_law_plus" "_law_plus" (defArgs sLplus) (defBody sLplus) (defScope sLplus) .none kV25 dc25 pm25 an25 cd25 ct25), sl25⟩) (c25 : PySem.W.codeIn K cd25 "_law_plus" = true) (k25 : PySem.W.keepIn K (.ref f25) = true)
    (a26 : PySem.W.nsIn K mainGlobals "_law_times" = some (some (.ref f26))) (l26 : K.lookup f26 = some ⟨oc26, od26, .func (PySem.W.fnOf "_law_times" "_law_times" (defArgs sLtimes) (defBody sLtimes) (defScope sLtimes) .none kV26 dc26 pm26 an26 cd26 ct26), sl26⟩) (c26 : PySem.W.codeIn K cd26 "_law_times" = true) (k26 : PySem.W.keepIn K (.ref f26) = true)
    (a27 : PySem.W.nsIn K mainGlobals "_law_less" = some (some (.ref f27))) (l27 : K.lookup f27 = some ⟨oc27, od27, .func (PySem.W.fnOf "_law_less" "_law_less" (defArgs sLless) (defBody sLless) (defScope sLless) .none kV27 dc27 pm27 an27 cd27 ct27), sl27⟩) (c27 : PySem.W.codeIn K cd27 "_law_less" = true) (k27 : PySem.W.keepIn K (.ref f27) = true)
    (a28 : PySem.W.nsIn K mainGlobals "_law_total" = some (some (.ref f28))) (l28 : K.lookup f28 = some ⟨oc28, od28, .func (PySem.W.fnOf "_law_total" "_law_total" (defArgs sLtotal) (defBody sLtotal) (defScope sLtotal) .none kV28 dc28 pm28 an28 cd28 ct28), sl28⟩) (c28 : PySem.W.codeIn K cd28 "_law_total" = true) (k28 : PySem.W.keepIn K (.ref f28) = true)
    (a29 : PySem.W.nsIn K mainGlobals "_law_minus" = some (some (.ref f29))) (l29 : K.lookup f29 = some ⟨oc29, od29, .func (PySem.W.fnOf "_law_minus" "_law_minus" (defArgs sLminus) (defBody sLminus) (defScope sLminus) .none kV29 dc29 pm29 an29 cd29 ct29), sl29⟩) (c29 : PySem.W.codeIn K cd29 "_law_minus" = true) (k29 : PySem.W.keepIn K (.ref f29) = true)
    (a30 : PySem.W.nsIn K mainGlobals "_law_is_number" = some (some (.ref f30))) (l30 : K.lookup f30 = some ⟨oc30, od30, .func (PySem.W.fnOf "_law_is_number" "_law_is_number" (defArgs sLisnum) (defBody sLisnum) (defScope sLisnum) .none kV30 dc30 pm30 an30 cd30 ct30), sl30⟩) (c30 : PySem.W.codeIn K cd30 "_law_is_number" = true) (k30 : PySem.W.keepIn K (.ref f30) = true)
    (a31 : PySem.W.nsIn K mainGlobals "_law_walk" = some (some (.ref f31))) (l31 : K.lookup f31 = some ⟨oc31, od31, .func (PySem.W.fnOf "_law_walk" "_law_walk" (defArgs sWalk) (defBody sWalk) (defScope sWalk) .none kV31 dc31 pm31 an31 cd31 ct31), sl31⟩) (c31 : PySem.W.codeIn K cd31 "_law_walk" = true) (k31 : PySem.W.keepIn K (.ref f31) = true)
    (a32 : PySem.W.nsIn K mainGlobals "_law_means" = some (some (.ref f32))) (l32 : K.lookup f32 = some ⟨oc32, od32, .func (PySem.W.fnOf "_law_means" "_law_means" (defArgs sLmeans) (defBody sLmeans) (defScope sLmeans) .none kV32 dc32 pm32 an32 cd32 ct32), sl32⟩) (c32 : PySem.W.codeIn K cd32 "_law_means" = true) (k32 : PySem.W.keepIn K (.ref f32) = true)
    (a33 : PySem.W.nsIn K mainGlobals "_law_two" = some (some (.ref f33))) (l33 : K.lookup f33 = some ⟨oc33, od33, .func (PySem.W.fnOf "_law_two" "_law_two" (defArgs sTwo) (defBody sTwo) (defScope sTwo) .none kV33 dc33 pm33 an33 cd33 ct33), sl33⟩) (c33 : PySem.W.codeIn K cd33 "_law_two" = true) (k33 : PySem.W.keepIn K (.ref f33) = true)
    (a34 : PySem.W.nsIn K mainGlobals "_law_ring" = some (some (.ref f34))) (l34 : K.lookup f34 = some ⟨oc34, od34, .func (PySem.W.fnOf "_law_ring" "_law_ring" (defArgs sRing) (defBody sRing) (defScope sRing) .none kV34 dc34 pm34 an34 cd34 ct34), sl34⟩) (c34 : PySem.W.codeIn K cd34 "_law_ring" = true) (k34 : PySem.W.keepIn K (.ref f34) = true)
    (a35 : PySem.W.nsIn K mainGlobals "law" = some (some (.ref f35))) (l35 : K.lookup f35 = some ⟨oc35, od35, .func (PySem.W.fnOf "law" "law" (defArgs sLaw) (defBody sLaw) (defScope sLaw) .none kV35 dc35 pm35 an35 cd35 ct35), sl35⟩) (c35 : PySem.W.codeIn K cd35 "law" = true) (k35 : PySem.W.keepIn K (.ref f35) = true)
    (aG : PySem.W.nsIn K mainGlobals "gcd" = some (some (.builtin "math.gcd")))
    (aN : PySem.W.nsIn K mainGlobals "NOUGHT" = some (some (.ref tN))) (lN : K.lookup tN = some ⟨.type "tuple", odN, .seq #[.int 0 tk1, .int 1 tk2] mN, slN⟩) (aO : PySem.W.nsIn K mainGlobals "ONE" = some (some (.ref tO))) (lO : K.lookup tO = some ⟨.type "tuple", odO, .seq #[.int 1 tk3, .int 1 tk4] mO, slO⟩)
    (z0 : PySem.W.nsIn K mainGlobals "list" = some none) (z1 : PySem.W.nsIn K mainGlobals "len" = some none) (z2 : PySem.W.nsIn K mainGlobals "range" = some none) (z3 : PySem.W.nsIn K mainGlobals "zip" = some none) (z4 : PySem.W.nsIn K mainGlobals "enumerate" = some none) (z5 : PySem.W.nsIn K mainGlobals "all" = some none) (z6 : PySem.W.nsIn K mainGlobals "sorted" = some none) (z7 : PySem.W.nsIn K mainGlobals "dict" = some none) (z8 : PySem.W.nsIn K mainGlobals "int" = some none) (z9 : PySem.W.nsIn K mainGlobals "abs" = some none) (z10 : PySem.W.nsIn K mainGlobals "isinstance" = some none) (z11 : PySem.W.nsIn K mainGlobals "tuple" = some none) (z12 : PySem.W.nsIn K mainGlobals "bool" = some none) (z13 : PySem.W.nsIn K mainGlobals "sum" = some none) :
    ∃ fd : FuncData, (∀ (s : Shared) (v : Value), BindsTo s fd ⟨[v], []⟩ [("_law_script", v)]) ∧ ∀ base : Heap, K.In base → base.Ns mainGlobals mg → FnOk l.prog w K mg base CX0 10 fa fd ["_law_script"] (spLaw K) := by
  have e := hfa.symm.trans (PySem.W.mg_of X G a35)
  cases e
  have F0 := fun_mk (st := sNumber) l0 c0 k0
  have F1 := fun_mk (st := sCompare) l1 c1 k1
  have F2 := fun_mk (st := sPlus) l2 c2 k2
  have F3 := fun_mk (st := sMinus) l3 c3 k3
  have F4 := fun_mk (st := sTimes) l4 c4 k4
  have F5 := fun_mk (st := sDivided) l5 c5 k5
  have F6 := fun_mk (st := sTotal) l6 c6 k6
  have F7 := fun_mk (st := sLessened) l7 c7 k7
  have F8 := fun_mk (st := sSolved) l8 c8 k8
  have F9 := fun_mk (st := sMet) l9 c9 k9
  have F10 := fun_mk (st := sTargets) l10 c10 k10
  have F11 := fun_mk (st := sReached) l11 c11 k11
  have F12 := fun_mk (st := sClosed) l12 c12 k12
  have F13 := fun_mk (st := sShares) l13 c13 k13
  have F14 := fun_mk (st := sWeighed) l14 c14 k14
  have F15 := fun_mk (st := sRest) l15 c15 k15
  have F16 := fun_mk (st := sLong) l16 c16 k16
  have F17 := fun_mk (st := sLeads) l17 c17 k17
  have F18 := fun_mk (st := sMean) l18 c18 k18
  have F19 := fun_mk (st := sFirst) l19 c19 k19
  have F20 := fun_mk (st := sSpreadOf) l20 c20 k20
  have F21 := fun_mk (st := sSpread) l21 c21 k21
  have F22 := fun_mk (st := sDraws) l22 c22 k22
  have F23 := fun_mk (st := sLgcd) l23 c23 k23
  have F24 := fun_mk (st := sLnum) l24 c24 k24
  have F25 := fun_mk (st := sLplus) l25 c25 k25
  have F26 := fun_mk (st := sLtimes) l26 c26 k26
  have F27 := fun_mk (st := sLless) l27 c27 k27
  have F28 := fun_mk (st := sLtotal) l28 c28 k28
  have F29 := fun_mk (st := sLminus) l29 c29 k29
  have F30 := fun_mk (st := sLisnum) l30 c30 k30
  have F31 := fun_mk (st := sWalk) l31 c31 k31
  have F32 := fun_mk (st := sLmeans) l32 c32 k32
  have F33 := fun_mk (st := sTwo) l33 c33 k33
  have F34 := fun_mk (st := sRing) l34 c34 k34
  have F35 := fun_mk (st := sLaw) l35 c35 k35
  have mG := PySem.W.mg_of X G aG
  have B : Bi mg := ⟨PySem.W.mg_none_of X G z0, PySem.W.mg_none_of X G z1, PySem.W.mg_none_of X G z2, PySem.W.mg_none_of X G z3, PySem.W.mg_none_of X G z4, PySem.W.mg_none_of X G z5, PySem.W.mg_none_of X G z6, PySem.W.mg_none_of X G z7, PySem.W.mg_none_of X G z8, PySem.W.mg_none_of X G z9, PySem.W.mg_none_of X G z10, PySem.W.mg_none_of X G z11, PySem.W.mg_none_of X G z12, PySem.W.mg_none_of X G z13⟩
  have T : Con0 K mg tN tO := ⟨PySem.W.mg_of X G aN, con_of lN, PySem.W.mg_of X G aO, con_of lO⟩
  refine ⟨PySem.W.fnOf "law" "law" (defArgs sLaw) (defBody sLaw) (defScope sLaw) .none kV35 dc35 pm35 an35 cd35 ct35, fun s v => .of_eq rfl, fun base _ _ => ?_⟩
  have C0 := cal_number (P := l.prog) (w := w) (base := base) F0 (PySem.W.mg_of X G a0) mG
  have C1 := cal_compare (P := l.prog) (w := w) (base := base) F1 (PySem.W.mg_of X G a1) B.int
  have C2 := cal_plus (P := l.prog) (w := w) (base := base) F2 (PySem.W.mg_of X G a2) C0
  have C3 := cal_minus (P := l.prog) (w := w) (base := base) F3 (PySem.W.mg_of X G a3) C0
  have C4 := cal_times (P := l.prog) (w := w) (base := base) F4 (PySem.W.mg_of X G a4) C0
  have C5 := cal_divided (P := l.prog) (w := w) (base := base) F5 (PySem.W.mg_of X G a5) C0
  have C6 := cal_total (P := l.prog) (w := w) (base := base) F6 (PySem.W.mg_of X G a6) T C2
  have C7 := cal_lessened (P := l.prog) (w := w) (base := base) F7 (PySem.W.mg_of X G a7) B C3 C4
  have C8 := cal_solved (P := l.prog) (w := w) (base := base) F8 (PySem.W.mg_of X G a8) B T C7 C5 C4
  have C9 := cal_met (P := l.prog) (w := w) (base := base) F9 (PySem.W.mg_of X G a9) T C3 C4 C8
  have C10 := cal_targets (P := l.prog) (w := w) (base := base) F10 (PySem.W.mg_of X G a10) B
  have C11 := cal_reached (P := l.prog) (w := w) (base := base) F11 (PySem.W.mg_of X G a11) B C10
  have C12 := cal_closed (P := l.prog) (w := w) (base := base) F12 (PySem.W.mg_of X G a12) B C11
  have C13 := cal_shares (P := l.prog) (w := w) (base := base) F13 (PySem.W.mg_of X G a13) B T C3 C2 C6 C8
  have C14 := cal_weighed (P := l.prog) (w := w) (base := base) F14 (PySem.W.mg_of X G a14) B C4 C6
  have C15 := cal_rest (P := l.prog) (w := w) (base := base) F15 (PySem.W.mg_of X G a15) B C9
  have C16 := cal_long (P := l.prog) (w := w) (base := base) F16 (PySem.W.mg_of X G a16) T C12 C13 C14 C15
  have C17 := cal_leads (P := l.prog) (w := w) (base := base) F17 (PySem.W.mg_of X G a17) B T C3 C16 C12 C9 C13 C14 C15
  have C18 := cal_mean (P := l.prog) (w := w) (base := base) F18 (PySem.W.mg_of X G a18) C4 C6
  have C19 := cal_first (P := l.prog) (w := w) (base := base) F19 (PySem.W.mg_of X G a19) B T C2 C18
  have C20 := cal_spreadof (P := l.prog) (w := w) (base := base) F20 (PySem.W.mg_of X G a20) C1 C3
  have C21 := cal_spread (P := l.prog) (w := w) (base := base) F21 (PySem.W.mg_of X G a21) C20 C17
  have C22 := cal_draws (P := l.prog) (w := w) (base := base) F22 (PySem.W.mg_of X G a22) B
  have C23 := cal_lgcd (P := l.prog) (w := w) (base := base) F23 (PySem.W.mg_of X G a23) B
  have C24 := cal_lnum (P := l.prog) (w := w) (base := base) F24 (PySem.W.mg_of X G a24) C23
  have C25 := cal_lplus (P := l.prog) (w := w) (base := base) F25 (PySem.W.mg_of X G a25) C24
  have C26 := cal_ltimes (P := l.prog) (w := w) (base := base) F26 (PySem.W.mg_of X G a26) C24
  have C27 := cal_lless (P := l.prog) (w := w) (base := base) F27 (PySem.W.mg_of X G a27)
  have C28 := cal_ltotal (P := l.prog) (w := w) (base := base) F28 (PySem.W.mg_of X G a28) C25
  have C29 := cal_lminus (P := l.prog) (w := w) (base := base) F29 (PySem.W.mg_of X G a29) C25
  have C30 := cal_lisnum (P := l.prog) (w := w) (base := base) F30 (PySem.W.mg_of X G a30) B C23
  have C31 := cal_walk (P := l.prog) (w := w) (base := base) F31 (PySem.W.mg_of X G a31) B C24
  have C32 := cal_lmeans (P := l.prog) (w := w) (base := base) F32 (PySem.W.mg_of X G a32) C26 C28
  have C33 := cal_two (P := l.prog) (w := w) (base := base) F33 (PySem.W.mg_of X G a33) B
  have C34 := cal_ring (P := l.prog) (w := w) (base := base) F34 (PySem.W.mg_of X G a34)
  exact ok_law F35 B C22 C33 C34 C16 C24 C21 C17 C19 C31 C27 C30 C29 C25 C26 C32
end Mw
open PySem PySem.W PyProof.Rows
set_option maxHeartbeats 0 in
theorem PySem.Challenge.cw_meanhold_k12_whole_first_gains_and_leads_holds : PySem.Challenge.rw_meanhold_k12_whole_first_gains_and_leads.Holds := by
  w_on; o_law; k_head; (case hw => w_witness2)
  k_fill
  refine L2.walk_of (l := PySem.Challenge.rw_meanhold_k12_whole_first_gains_and_leads) (n := 63) (k := 10) (x := "_law_script") (CX := fun _ => L2.CX0) (sp := fun w => Mw.spLaw _) rfl (by decide) rfl ⟨rfl, by decide, by decide⟩ (fun w h Y => PySem.W.kIn_of Y) ?F (fun _ _ a ns hl _ hS => ⟨a, ns, rfl, hS, hl, fun _ => rfl⟩) (fun _ _ _ _ _ h => h)
  case F =>
    intro w mg fa h KX G hmg
    refine' Mw.all_mk KX G hmg ?a0 ?l0 ?c0 ?k0 ?a1 ?l1 ?c1 ?k1 ?a2 ?l2 ?c2 ?k2 ?a3 ?l3 ?c3 ?k3 ?a4 ?l4 ?c4 ?k4 ?a5 ?l5 ?c5 ?k5 ?a6 ?l6 ?c6 ?k6 ?a7 ?l7 ?c7 ?k7 ?a8 ?l8 ?c8 ?k8 ?a9 ?l9 ?c9 ?k9 ?a10 ?l10 ?c10 ?k10 ?a11 ?l11 ?c11 ?k11 ?a12 ?l12 ?c12 ?k12 ?a13 ?l13 ?c13 ?k13 ?a14 ?l14 ?c14 ?k14 ?a15 ?l15 ?c15 ?k15 ?a16 ?l16 ?c16 ?k16 ?a17 ?l17 ?c17 ?k17 ?a18 ?l18 ?c18 ?k18 ?a19 ?l19 ?c19 ?k19 ?a20 ?l20 ?c20 ?k20 ?a21 ?l21 ?c21 ?k21 ?a22 ?l22 ?c22 ?k22 ?a23 ?l23 ?c23 ?k23 ?a24 ?l24 ?c24 ?k24 ?a25 ?l25 ?c25 ?k25 ?a26 ?l26 ?c26 ?k26 ?a27 ?l27 ?c27 ?k27 ?a28 ?l28 ?c28 ?k28 ?a29 ?l29 ?c29 ?k29 ?a30 ?l30 ?c30 ?k30 ?a31 ?l31 ?c31 ?k31 ?a32 ?l32 ?c32 ?k32 ?a33 ?l33 ?c33 ?k33 ?a34 ?l34 ?c34 ?k34 ?a35 ?l35 ?c35 ?k35 ?aG ?aN ?lN ?aO ?lO ?z0 ?z1 ?z2 ?z3 ?z4 ?z5 ?z6 ?z7 ?z8 ?z9 ?z10 ?z11 ?z12 ?z13
    (case a0 => k_is); (case l0 => k_is); (case c0 => k_is); (case k0 => k_is); (case a1 => k_is); (case l1 => k_is); (case c1 => k_is); (case k1 => k_is)
    (case a2 => k_is); (case l2 => k_is); (case c2 => k_is); (case k2 => k_is); (case a3 => k_is); (case l3 => k_is); (case c3 => k_is); (case k3 => k_is)
    (case a4 => k_is); (case l4 => k_is); (case c4 => k_is); (case k4 => k_is); (case a5 => k_is); (case l5 => k_is); (case c5 => k_is); (case k5 => k_is)
    (case a6 => k_is); (case l6 => k_is); (case c6 => k_is); (case k6 => k_is); (case a7 => k_is); (case l7 => k_is); (case c7 => k_is); (case k7 => k_is)
    (case a8 => k_is); (case l8 => k_is); (case c8 => k_is); (case k8 => k_is); (case a9 => k_is); (case l9 => k_is); (case c9 => k_is); (case k9 => k_is)
    (case a10 => k_is); (case l10 => k_is); (case c10 => k_is); (case k10 => k_is); (case a11 => k_is); (case l11 => k_is); (case c11 => k_is); (case k11 => k_is)
    (case a12 => k_is); (case l12 => k_is); (case c12 => k_is); (case k12 => k_is); (case a13 => k_is); (case l13 => k_is); (case c13 => k_is); (case k13 => k_is)
    (case a14 => k_is); (case l14 => k_is); (case c14 => k_is); (case k14 => k_is); (case a15 => k_is); (case l15 => k_is); (case c15 => k_is); (case k15 => k_is)
    (case a16 => k_is); (case l16 => k_is); (case c16 => k_is); (case k16 => k_is); (case a17 => k_is); (case l17 => k_is); (case c17 => k_is); (case k17 => k_is)
    (case a18 => k_is); (case l18 => k_is); (case c18 => k_is); (case k18 => k_is); (case a19 => k_is); (case l19 => k_is); (case c19 => k_is); (case k19 => k_is)
    (case a20 => k_is); (case l20 => k_is); (case c20 => k_is); (case k20 => k_is); (case a21 => k_is); (case l21 => k_is); (case c21 => k_is); (case k21 => k_is)
    (case a22 => k_is); (case l22 => k_is); (case c22 => k_is); (case k22 => k_is); (case a23 => k_is); (case l23 => k_is); (case c23 => k_is); (case k23 => k_is)
    (case a24 => k_is); (case l24 => k_is); (case c24 => k_is); (case k24 => k_is); (case a25 => k_is); (case l25 => k_is); (case c25 => k_is); (case k25 => k_is)
    (case a26 => k_is); (case l26 => k_is); (case c26 => k_is); (case k26 => k_is); (case a27 => k_is); (case l27 => k_is); (case c27 => k_is); (case k27 => k_is)
    (case a28 => k_is); (case l28 => k_is); (case c28 => k_is); (case k28 => k_is); (case a29 => k_is); (case l29 => k_is); (case c29 => k_is); (case k29 => k_is)
    (case a30 => k_is); (case l30 => k_is); (case c30 => k_is); (case k30 => k_is); (case a31 => k_is); (case l31 => k_is); (case c31 => k_is); (case k31 => k_is)
    (case a32 => k_is); (case l32 => k_is); (case c32 => k_is); (case k32 => k_is); (case a33 => k_is); (case l33 => k_is); (case c33 => k_is); (case k33 => k_is)
    (case a34 => k_is); (case l34 => k_is); (case c34 => k_is); (case k34 => k_is); (case a35 => k_is); (case l35 => k_is); (case c35 => k_is); (case k35 => k_is)
    (case aG => k_is); (case aN => k_is); (case lN => k_is); (case aO => k_is); (case lO => k_is); (case z0 => k_is); (case z1 => k_is); (case z2 => k_is)
    (case z3 => k_is); (case z4 => k_is); (case z5 => k_is); (case z6 => k_is); (case z7 => k_is); (case z8 => k_is); (case z9 => k_is); (case z10 => k_is)
    (case z11 => k_is); (case z12 => k_is); (case z13 => k_is)
