/-
  PLAIN MATHEMATICS: rows of digits to a base, the lowest first; the normal row of a number. No condition, no program.
-/
set_option linter.unusedVariables false
set_option linter.unusedSimpArgs false
namespace Go.Proofs.Ytkcagkcphobmfaa

/-- The number of a row of digits to the base B, the lowest first. -/
def valB (B : Nat) : List Nat → Nat
  | [] => 0
  | x :: xs => x + B * valB B xs

theorem valB_nil (B : Nat) : valB B [] = 0 := rfl
theorem valB_cons (B x : Nat) (xs : List Nat) : valB B (x :: xs) = x + B * valB B xs := rfl

theorem valB_append (B : Nat) (xs ys : List Nat) : valB B (xs ++ ys) = valB B xs + B ^ xs.length * valB B ys := by
  induction xs with
  | nil => simp [valB]
  | cons x xs ih => simp only [List.cons_append, valB, ih, List.length_cons, Nat.pow_succ]; grind

theorem valB_lt {B : Nat} {xs : List Nat} (h : ∀ x ∈ xs, x < B) : valB B xs < B ^ xs.length := by
  induction xs with
  | nil => simp [valB]
  | cons x xs ih =>
    have h1 := ih (fun y hy => h y (List.mem_cons_of_mem _ hy))
    have h2 := h x List.mem_cons_self
    simp only [valB, List.length_cons, Nat.pow_succ]
    have h3 : B * (valB B xs + 1) ≤ B * B ^ xs.length := Nat.mul_le_mul_left _ h1
    rw [Nat.mul_comm (B ^ xs.length) B]
    rw [Nat.mul_add] at h3
    omega

theorem valB_take_succ (B : Nat) (xs : List Nat) (k : Nat) (h : k < xs.length) : valB B (xs.take (k + 1)) = valB B (xs.take k) + B ^ k * xs[k] := by
  rw [List.take_succ_eq_append_getElem h, valB_append]
  simp [valB, List.length_take, Nat.min_eq_left (Nat.le_of_lt h)]

theorem valB_drop (B : Nat) (xs : List Nat) (k : Nat) (h : k ≤ xs.length) : valB B xs = valB B (xs.take k) + B ^ k * valB B (xs.drop k) := by
  have := valB_append B (xs.take k) (xs.drop k)
  rw [List.take_append_drop, List.length_take, Nat.min_eq_left h] at this
  exact this

theorem valB_replicate_zero (B n : Nat) : valB B (List.replicate n 0) = 0 := by
  induction n with
  | zero => rfl
  | succ n ih => simp [List.replicate_succ, valB, ih]

theorem valB_append_zeros (B : Nat) (xs : List Nat) (n : Nat) : valB B (xs ++ List.replicate n 0) = valB B xs := by
  rw [valB_append, valB_replicate_zero]; simp

/-- The digits of n to the base B, the lowest first, none of them 0 on top (f rounds). -/
def digsF (B : Nat) : Nat → Nat → List Nat
  | 0, _ => []
  | f + 1, n => if n = 0 then [] else n % B :: digsF B f (n / B)

/-- The digits of n to the base B, the lowest first, none of them 0 on top. -/
def digs (B n : Nat) : List Nat := digsF B n n

theorem digsF_enough {B : Nat} (hB : 2 ≤ B) (f : Nat) : ∀ n, n ≤ f → digsF B f n = digs B n := by
  induction f using Nat.strongRecOn with
  | ind f ih =>
    intro n hn
    by_cases h0 : n = 0
    · subst h0; cases f <;> simp [digs, digsF]
    · obtain ⟨f', rfl⟩ : ∃ f', f = f' + 1 := ⟨f - 1, by omega⟩
      obtain ⟨n', rfl⟩ : ∃ n', n = n' + 1 := ⟨n - 1, by omega⟩
      have hd : (n' + 1) / B < n' + 1 := Nat.div_lt_self (by omega) hB
      simp only [digs, digsF, if_neg h0]
      rw [ih f' (by omega) _ (by omega)]
      by_cases hlt : n' < f' + 1
      · by_cases he : n' = f'
        · subst he; rw [ih n' (by omega) _ (by omega)]
        · rw [ih n' (by omega) _ (by omega)]
      · omega

theorem digs_zero (B : Nat) : digs B 0 = [] := rfl

theorem digs_pos {B : Nat} (hB : 2 ≤ B) {n : Nat} (hn : n ≠ 0) : digs B n = n % B :: digs B (n / B) := by
  obtain ⟨n', rfl⟩ : ∃ n', n = n' + 1 := ⟨n - 1, by omega⟩
  have hd : (n' + 1) / B < n' + 1 := Nat.div_lt_self (by omega) hB
  simp only [digs, digsF, if_neg hn]
  rw [digsF_enough hB n' _ (by omega)]
  rfl

theorem valB_digs {B : Nat} (hB : 2 ≤ B) (n : Nat) : valB B (digs B n) = n := by
  induction n using Nat.strongRecOn with
  | ind n ih =>
    by_cases h0 : n = 0
    · subst h0; rfl
    · have hd : n / B < n := Nat.div_lt_self (by omega) hB
      rw [digs_pos hB h0, valB_cons, ih _ hd, Nat.mod_add_div]

theorem digs_lt {B : Nat} (hB : 2 ≤ B) (n : Nat) : ∀ x ∈ digs B n, x < B := by
  induction n using Nat.strongRecOn with
  | ind n ih =>
    by_cases h0 : n = 0
    · subst h0; simp [digs_zero]
    · have hd : n / B < n := Nat.div_lt_self (by omega) hB
      rw [digs_pos hB h0]
      intro x hx
      rcases List.mem_cons.1 hx with rfl | hx
      · exact Nat.mod_lt _ (by omega)
      · exact ih _ hd x hx

theorem digs_cons {B : Nat} (hB : 2 ≤ B) {x n : Nat} (hx : x < B) (h : x ≠ 0 ∨ n ≠ 0) : digs B (x + B * n) = x :: digs B n := by
  have hB0 : 0 < B := by omega
  have hne : x + B * n ≠ 0 := by
    rcases h with h | h
    · omega
    · have := Nat.mul_pos hB0 (Nat.pos_of_ne_zero h); omega
  rw [digs_pos hB hne]
  have h1 : (x + B * n) % B = x := by rw [Nat.add_mul_mod_self_left, Nat.mod_eq_of_lt hx]
  have h2 : (x + B * n) / B = n := by rw [Nat.add_mul_div_left _ _ hB0, Nat.div_eq_of_lt hx, Nat.zero_add]
  rw [h1, h2]

/-- A row is normal: its digits are below B, the last one is not 0. -/
def Nrm (B : Nat) (xs : List Nat) : Prop := (∀ x ∈ xs, x < B) ∧ xs.getLast? ≠ some 0

theorem Nrm.nil (B : Nat) : Nrm B [] := ⟨by simp, by simp⟩

theorem valB_ne_zero {B : Nat} (hB : 2 ≤ B) {xs : List Nat} (h : Nrm B xs) (hne : xs ≠ []) : valB B xs ≠ 0 := by
  induction xs with
  | nil => exact absurd rfl hne
  | cons x xs ih =>
    by_cases hx : xs = []
    · subst hx
      have := h.2
      simp [valB] at this ⊢
      exact this
    · have hn : Nrm B xs := ⟨fun y hy => h.1 y (List.mem_cons_of_mem _ hy), by have := h.2; rwa [List.getLast?_cons_of_ne_nil hx] at this⟩
      have := ih hn hx
      have := Nat.mul_pos (show 0 < B by omega) (Nat.pos_of_ne_zero this)
      simp only [valB]
      omega

/-- A normal row is the row of digits of its number. -/
theorem Nrm.digs {B : Nat} (hB : 2 ≤ B) {xs : List Nat} (h : Nrm B xs) : digs B (valB B xs) = xs := by
  induction xs with
  | nil => rfl
  | cons x xs ih =>
    have hx : x < B := h.1 x List.mem_cons_self
    by_cases hxs : xs = []
    · subst hxs
      have h2 := h.2
      simp at h2
      simpa [valB, digs_zero] using digs_cons hB (n := 0) hx (Or.inl h2)
    · have hn : Nrm B xs := ⟨fun y hy => h.1 y (List.mem_cons_of_mem _ hy), by have := h.2; rwa [List.getLast?_cons_of_ne_nil hxs] at this⟩
      rw [valB_cons, digs_cons hB hx (Or.inr (valB_ne_zero hB hn hxs)), ih hn]

theorem digs_nrm {B : Nat} (hB : 2 ≤ B) (n : Nat) : Nrm B (digs B n) := by
  refine ⟨digs_lt hB n, ?_⟩
  induction n using Nat.strongRecOn with
  | ind n ih =>
    by_cases h0 : n = 0
    · subst h0; simp [digs_zero]
    · have hd : n / B < n := Nat.div_lt_self (by omega) hB
      rw [digs_pos hB h0]
      by_cases h1 : n / B = 0
      · rw [h1, digs_zero]
        have := Nat.mod_add_div n B
        rw [h1] at this
        simp; omega
      · have hne : Go.Proofs.Ytkcagkcphobmfaa.digs B (n / B) ≠ [] := by rw [digs_pos hB h1]; simp
        rw [List.getLast?_cons_of_ne_nil hne]
        exact ih _ hd

theorem digs_eq_nil {B : Nat} (hB : 2 ≤ B) {n : Nat} : digs B n = [] ↔ n = 0 := by
  constructor
  · intro h
    have := valB_digs hB n
    rw [h] at this; exact this.symm
  · rintro rfl; rfl

theorem digs_inj {B : Nat} (hB : 2 ≤ B) {m n : Nat} (h : digs B m = digs B n) : m = n := by
  rw [← valB_digs hB m, ← valB_digs hB n, h]

theorem digs_append_nrm {B : Nat} (hB : 2 ≤ B) {xs : List Nat} (h : ∀ x ∈ xs, x < B) {n : Nat} (hn : n ≠ 0) : digs B (valB B xs + B ^ xs.length * n) = xs ++ digs B n := by
  have hN : Nrm B (xs ++ digs B n) := by
    refine ⟨fun x hx => ?_, ?_⟩
    · rcases List.mem_append.1 hx with hx | hx
      · exact h x hx
      · exact digs_lt hB n x hx
    · rw [List.getLast?_append]
      have hne : Go.Proofs.Ytkcagkcphobmfaa.digs B n ≠ [] := fun e => hn ((digs_eq_nil hB).1 e)
      have := (digs_nrm hB n).2
      rw [List.getLast?_eq_some_getLast hne] at this ⊢
      simpa using this
  have := hN.digs hB
  rwa [valB_append, valB_digs hB] at this

theorem digs_length_le {B : Nat} (hB : 2 ≤ B) {n k : Nat} (h : n < B ^ k) : (digs B n).length ≤ k := by
  induction k generalizing n with
  | zero => simp at h; subst h; simp [digs_zero]
  | succ k ih =>
    by_cases h0 : n = 0
    · subst h0; simp [digs_zero]
    · rw [digs_pos hB h0, List.length_cons]
      have : n / B < B ^ k := by rw [Nat.div_lt_iff_lt_mul (by omega)]; rwa [Nat.pow_succ] at h
      have := ih this
      omega

theorem digs_length_lt {B : Nat} (hB : 2 ≤ B) (n : Nat) : n < B ^ (digs B n).length := by
  have := valB_lt (digs_lt hB n)
  rwa [valB_digs hB] at this

theorem digs_length_ge {B : Nat} (hB : 2 ≤ B) {n k : Nat} (h : B ^ k ≤ n) : k < (digs B n).length := by
  rcases Nat.lt_or_ge k (digs B n).length with h1 | h1
  · exact h1
  · have h2 := digs_length_lt hB n
    have h3 : B ^ (digs B n).length ≤ B ^ k := Nat.pow_le_pow_right (by omega) h1
    omega

theorem digs_length_mono {B : Nat} (hB : 2 ≤ B) {m n : Nat} (h : m ≤ n) : (digs B m).length ≤ (digs B n).length :=
  digs_length_le hB (Nat.lt_of_le_of_lt h (digs_length_lt hB n))

/-- How many digits are left of the first n when noughts on top are dropped. -/
def cutN (xs : List Nat) : Nat → Nat
  | 0 => 0
  | n + 1 => if xs.getD n 0 = 0 then cutN xs n else n + 1

theorem cutN_le (xs : List Nat) (n : Nat) : cutN xs n ≤ n := by
  induction n with
  | zero => simp [cutN]
  | succ n ih => simp only [cutN]; split <;> omega

theorem cutN_digs {B : Nat} (hB : 2 ≤ B) (xs : List Nat) (h : ∀ x ∈ xs, x < B) (n : Nat) (hn : n ≤ xs.length) : xs.take (cutN xs n) = digs B (valB B (xs.take n)) := by
  induction n with
  | zero => simp [cutN, valB, digs_zero]
  | succ n ih =>
    have hlt : n < xs.length := by omega
    simp only [cutN]
    rw [valB_take_succ B xs n hlt]
    have hg : xs.getD n 0 = xs[n] := by simp [hlt]
    rw [hg]
    split
    · rename_i h0
      rw [ih (by omega), h0]; simp
    · rename_i h0
      have hlen : (xs.take n).length = n := by simp; omega
      have h1 := digs_append_nrm hB (xs := xs.take n) (fun x hx => h x (List.mem_of_mem_take hx)) (n := xs[n]) h0
      rw [hlen] at h1
      rw [h1, List.take_succ_eq_append_getElem hlt]
      have hx : xs[n] < B := h _ (List.getElem_mem _)
      have h2 := digs_cons hB (n := 0) hx (Or.inl h0)
      simp [digs_zero] at h2
      rw [h2]

/-- THE SAME, WHOLE: what is left of a row without the noughts on top is its number's row. -/
theorem cut_digs {B : Nat} (hB : 2 ≤ B) (xs : List Nat) (h : ∀ x ∈ xs, x < B) : xs.take (cutN xs xs.length) = digs B (valB B xs) := by
  have := cutN_digs hB xs h xs.length (Nat.le_refl _)
  rwa [List.take_length] at this

theorem cutN_length {B : Nat} (hB : 2 ≤ B) (xs : List Nat) (h : ∀ x ∈ xs, x < B) : cutN xs xs.length = (digs B (valB B xs)).length := by
  rw [← cut_digs hB xs h, List.length_take, Nat.min_eq_left (cutN_le _ _)]

/-- A row after one digit is set: its number up to there. -/
theorem valB_take_set (B : Nat) (xs : List Nat) (k d : Nat) (h : k < xs.length) : valB B ((xs.set k d).take (k + 1)) = valB B (xs.take k) + B ^ k * d := by
  rw [valB_take_succ B _ k (by simpa using h)]
  simp [List.take_set_of_le]

theorem mem_set_lt {B : Nat} {xs : List Nat} (h : ∀ x ∈ xs, x < B) {d : Nat} (hd : d < B) (k : Nat) : ∀ x ∈ xs.set k d, x < B := by
  intro x hx
  rcases List.mem_or_eq_of_mem_set hx with hx | rfl
  · exact h x hx
  · exact hd

theorem valB_take_some (B : Nat) {xs : List Nat} {k x : Nat} (h : xs[k]? = some x) : valB B (xs.take (k + 1)) = valB B (xs.take k) + B ^ k * x := by
  obtain ⟨hk, rfl⟩ := List.getElem?_eq_some_iff.1 h
  exact valB_take_succ B xs k hk

theorem valB_take_none (B : Nat) {xs : List Nat} {k : Nat} (h : xs.length ≤ k) : valB B (xs.take (k + 1)) = valB B (xs.take k) := by
  rw [List.take_of_length_le (by omega), List.take_of_length_le h]

theorem valB_take_all (B : Nat) {xs : List Nat} {k : Nat} (h : xs.length = k) : valB B (xs.take k) = valB B xs := by
  rw [List.take_of_length_le (by omega)]

theorem pow_step (B k s : Nat) : B ^ k * (s % B) + B ^ (k + 1) * (s / B) = B ^ k * s := by
  rw [Nat.pow_succ, Nat.mul_assoc, ← Nat.mul_add, Nat.mod_add_div]

/-- One digit of a sum. -/
theorem add_step {B k cy x y : Nat} {os P Q : List Nat} (hk : k < os.length) (hv : valB B (os.take k) + B ^ k * cy = valB B (P.take k) + valB B (Q.take k))
    (hP : valB B (P.take (k + 1)) = valB B (P.take k) + B ^ k * x) (hQ : valB B (Q.take (k + 1)) = valB B (Q.take k) + B ^ k * y) :
    valB B ((os.set k ((x + cy + y) % B)).take (k + 1)) + B ^ (k + 1) * ((x + cy + y) / B) = valB B (P.take (k + 1)) + valB B (Q.take (k + 1)) := by
  rw [valB_take_set B os k _ hk, hP, hQ]
  have := pow_step B k (x + cy + y)
  rw [Nat.mul_add, Nat.mul_add] at this
  omega

/-- One digit of a difference. -/
theorem sub_step {B k cy b x y d : Nat} {os P Q : List Nat} (hk : k < os.length) (hv : valB B (os.take k) + valB B (Q.take k) = valB B (P.take k) + B ^ k * cy)
    (hP : valB B (P.take (k + 1)) = valB B (P.take k) + B ^ k * x) (hQ : valB B (Q.take (k + 1)) = valB B (Q.take k) + B ^ k * y) (hd : d + cy + y = x + B * b) :
    valB B ((os.set k d).take (k + 1)) + valB B (Q.take (k + 1)) = valB B (P.take (k + 1)) + B ^ (k + 1) * b := by
  rw [valB_take_set B os k _ hk, hP, hQ, Nat.pow_succ, Nat.mul_assoc]
  have h1 : B ^ k * (d + cy + y) = B ^ k * (x + B * b) := by rw [hd]
  rw [Nat.mul_add, Nat.mul_add, Nat.mul_add] at h1
  omega

theorem valB_drop_some (B : Nat) {xs : List Nat} {k x : Nat} (h : xs[k]? = some x) : valB B (xs.drop k) = x + B * valB B (xs.drop (k + 1)) := by
  obtain ⟨hk, rfl⟩ := List.getElem?_eq_some_iff.1 h
  rw [List.drop_eq_getElem_cons hk]; rfl

theorem valB_drop_set (B : Nat) (xs : List Nat) (k d : Nat) (h : k < xs.length) : valB B ((xs.set k d).drop k) = d + B * valB B (xs.drop (k + 1)) := by
  rw [valB_drop_some B (xs := xs.set k d) (x := d) (by simp [h]), List.drop_set_of_lt (by omega)]

/-- One digit of a quotient by a small number. -/
theorem small_step {B v j r x q t s : Nat} {xs os : List Nat} (hj : j < os.length) (hx : xs[j]? = some x) (hv : valB B (xs.drop (j + 1)) = v * valB B (os.drop (j + 1)) + r)
    (hs : s = r * B + x) (hq : v * q + t = s) : valB B (xs.drop j) = v * valB B ((os.set j q).drop j) + t := by
  rw [valB_drop_some B hx, valB_drop_set B os j q hj, hv]
  subst hs
  have : v * (q + B * valB B (os.drop (j + 1))) = v * q + B * (v * valB B (os.drop (j + 1))) := by grind
  rw [this, Nat.mul_add B]
  have := Nat.mul_comm r B
  omega

theorem valB_set (B : Nat) {xs : List Nat} {k x : Nat} (h : xs[k]? = some x) (d : Nat) : valB B (xs.set k d) + B ^ k * x = valB B xs + B ^ k * d := by
  obtain ⟨hk, rfl⟩ := List.getElem?_eq_some_iff.1 h
  rw [valB_drop B xs (k + 1) hk, valB_drop B (xs.set k d) (k + 1) (by rw [List.length_set]; exact hk), valB_take_set B xs k d hk, valB_take_succ B xs k hk, List.drop_set_of_lt (by omega)]
  omega

/-- One limb of a row moved up. -/
theorem shl_step {B S k kk o x t hi : Nat} {os P : List Nat} (ho : os[k + kk]? = some o) (h0 : os[k + kk + 1]? = some 0) (hv : valB B os = B ^ kk * (S * valB B (P.take k)))
    (hP : P[k]? = some x) (ht : t + B * hi = o + x * S) :
    valB B ((os.set (k + kk) t).set (k + kk + 1) hi) = B ^ kk * (S * valB B (P.take (k + 1))) := by
  have h1 := valB_set B ho t
  have h2 := valB_set B (xs := os.set (k + kk) t) (k := k + kk + 1) (x := 0) (by rw [List.getElem?_set_ne (by omega)]; exact h0) hi
  rw [Nat.mul_zero, Nat.add_zero, Nat.pow_succ, Nat.mul_assoc] at h2
  have h3 : B ^ (k + kk) * (t + B * hi) = B ^ (k + kk) * (o + x * S) := by rw [ht]
  rw [Nat.mul_add, Nat.mul_add] at h3
  have h4 : B ^ kk * (S * (valB B (P.take k) + B ^ k * x)) = B ^ kk * (S * valB B (P.take k)) + B ^ (k + kk) * (x * S) := by rw [Nat.pow_add]; grind
  rw [valB_take_some B hP, h4]
  omega

/-- One limb of a row moved down. -/
theorem shr_step {B S k d0 x y q : Nat} {os D : List Nat} (hk : k < os.length) (hv : S * valB B (os.take k) + d0 = valB B (D.take k) + B ^ k * (D.getD k 0 % S))
    (hx : D[k]? = some x) (hy : D.getD (k + 1) 0 = y) (hq : S * q + x % S = x + B * (y % S)) :
    S * valB B ((os.set k q).take (k + 1)) + d0 = valB B (D.take (k + 1)) + B ^ (k + 1) * (D.getD (k + 1) 0 % S) := by
  have hg : D.getD k 0 = x := by simp [List.getD, hx]
  rw [hg] at hv
  rw [valB_take_set B os k q hk, valB_take_some B hx, hy, Nat.pow_succ, Nat.mul_assoc]
  have h1 : B ^ k * (S * q + x % S) = B ^ k * (x + B * (y % S)) := by rw [hq]
  rw [Nat.mul_add, Nat.mul_add] at h1
  have h2 : S * (valB B (os.take k) + B ^ k * q) = S * valB B (os.take k) + B ^ k * (S * q) := by grind
  rw [h2]
  omega

theorem valB_snoc (B : Nat) (os : List Nat) (d : Nat) : valB B (os ++ [d]) = valB B os + B ^ os.length * d := by
  rw [valB_append]; simp [valB]

/-- One digit of a product by a small number. -/
theorem mulAdd_step {B k c x m c0 : Nat} {os xs : List Nat} (hl : os.length = k) (hv : valB B os + B ^ k * c = valB B (xs.take k) * m + c0) (hx : valB B (xs.take (k + 1)) = valB B (xs.take k) + B ^ k * x) :
    valB B (os ++ [(c + x * m) % B]) + B ^ (k + 1) * ((c + x * m) / B) = valB B (xs.take (k + 1)) * m + c0 := by
  rw [valB_snoc, hl, hx]
  have h1 := pow_step B k (c + x * m)
  rw [Nat.mul_add] at h1
  have h2 : (valB B (xs.take k) + B ^ k * x) * m = valB B (xs.take k) * m + B ^ k * (x * m) := by grind
  rw [h2]
  omega

/-- The base of limbs; the base of the document's own digits. -/
abbrev B32 : Nat := 4294967296
abbrev B4 : Nat := 10000

theorem B32_two : 2 ≤ B32 := by decide
theorem B4_two : 2 ≤ B4 := by decide

/-- The number of a row of limbs; the row of limbs of a number. -/
def val (xs : List Nat) : Nat := valB B32 xs
def limbs (n : Nat) : List Nat := digs B32 n

theorem val_limbs (n : Nat) : val (limbs n) = n := valB_digs B32_two n
theorem limbs_lt (n : Nat) : ∀ x ∈ limbs n, x < B32 := digs_lt B32_two n
theorem limbs_zero : limbs 0 = [] := rfl
theorem limbs_eq_nil {n : Nat} : limbs n = [] ↔ n = 0 := digs_eq_nil B32_two
theorem limbs_inj {m n : Nat} (h : limbs m = limbs n) : m = n := digs_inj B32_two h
theorem limbs_le {n k : Nat} (h : n < B32 ^ k) : (limbs n).length ≤ k := digs_length_le B32_two h
theorem limbs_mono {m n : Nat} (h : m ≤ n) : (limbs m).length ≤ (limbs n).length := digs_length_mono B32_two h
theorem val_lt {xs : List Nat} (h : ∀ x ∈ xs, x < B32) : val xs < B32 ^ xs.length := valB_lt h
theorem val_nil : val [] = 0 := rfl
theorem cut_limbs (xs : List Nat) (h : ∀ x ∈ xs, x < B32) : xs.take (cutN xs xs.length) = limbs (val xs) := cut_digs B32_two xs h
theorem limbs_shorter {m n : Nat} (h : (limbs m).length < (limbs n).length) : m < n := by
  rcases Nat.lt_or_ge m n with h1 | h1
  · exact h1
  · have := limbs_mono h1; omega

/-- The number of a row of the document's digits; the row of such digits of a number. -/
def val4 (xs : List Nat) : Nat := valB B4 xs
def digs4 (n : Nat) : List Nat := digs B4 n

theorem val4_digs4 (n : Nat) : val4 (digs4 n) = n := valB_digs B4_two n
theorem digs4_lt (n : Nat) : ∀ x ∈ digs4 n, x < B4 := digs_lt B4_two n
theorem digs4_eq_nil {n : Nat} : digs4 n = [] ↔ n = 0 := digs_eq_nil B4_two
theorem digs4_inj {m n : Nat} (h : digs4 m = digs4 n) : m = n := digs_inj B4_two h
theorem digs4_mono {m n : Nat} (h : m ≤ n) : (digs4 m).length ≤ (digs4 n).length := digs_length_mono B4_two h
theorem digs4_le {n k : Nat} (h : n < B4 ^ k) : (digs4 n).length ≤ k := digs_length_le B4_two h
theorem val4_lt {xs : List Nat} (h : ∀ x ∈ xs, x < B4) : val4 xs < B4 ^ xs.length := valB_lt h
theorem digs4_shorter {m n : Nat} (h : (digs4 m).length < (digs4 n).length) : m < n := by
  rcases Nat.lt_or_ge m n with h1 | h1
  · exact h1
  · have := digs4_mono h1; omega
theorem cut_digs4 (xs : List Nat) (h : ∀ x ∈ xs, x < B4) : xs.take (cutN xs xs.length) = digs4 (val4 xs) := cut_digs B4_two xs h

/-- A number of k limbs has at most 3 k of the document's digits. -/
theorem digs4_of_limbs {n k : Nat} (h : n < B32 ^ k) : (digs4 n).length ≤ 3 * k := by
  refine digs4_le (Nat.lt_of_lt_of_le h ?_)
  rw [Nat.pow_mul]
  exact Nat.pow_le_pow_left (by decide) _

theorem digs4_nrm (n : Nat) : (digs4 n).getLast? ≠ some 0 := (digs_nrm B4_two n).2

theorem digs4_pos {n : Nat} (h : n ≠ 0) : digs4 n = n % B4 :: digs4 (n / B4) := digs_pos B4_two h
theorem limbs_pos {n : Nat} (h : n ≠ 0) : limbs n = n % B32 :: limbs (n / B32) := digs_pos B32_two h

end Go.Proofs.Ytkcagkcphobmfaa
