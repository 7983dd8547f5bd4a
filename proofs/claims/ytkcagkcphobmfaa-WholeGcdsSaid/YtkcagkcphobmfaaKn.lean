/-
  PLAIN MATHEMATICS: one digit of a long division, as Knuth guesses it. No program.
-/
import Derived.Test.YtkcagkcphobmfaaNum
set_option linter.unusedVariables false
set_option linter.unusedSimpArgs false
namespace Go.Proofs.Ytkcagkcphobmfaa

section
variable {b M top next Vl head u2 Ul U V g r : Nat}

/-- The first guess is not too small. -/
theorem kn_init (hU : U = (head * b + u2) * M + Ul) (hUl : Ul < M) (hu2 : u2 < b) (hV : V = (top * b + next) * M + Vl) (hh : head = g * top + r) (hr : r < top) : U < (g + 1) * V := by
  have h1 : (head * b + u2 + 1) * M ≤ ((g + 1) * (top * b)) * M := by
    refine Nat.mul_le_mul_right _ ?_
    have h2 : (head + 1) * b ≤ ((g + 1) * top) * b := Nat.mul_le_mul_right _ (by rw [hh, Nat.add_mul]; omega)
    rw [Nat.add_mul] at h2
    rw [← Nat.mul_assoc]
    omega
  have h3 : (g + 1) * V = ((g + 1) * (top * b)) * M + (g + 1) * (next * M + Vl) := by rw [hV]; grind
  have h4 : (head * b + u2 + 1) * M = (head * b + u2) * M + M := by rw [Nat.add_mul, Nat.one_mul]
  omega

/-- Where the test says so the guess is too great. -/
theorem kn_dec (hU : U = (head * b + u2) * M + Ul) (hUl : Ul < M) (hV : V = (top * b + next) * M + Vl) (hh : head = g * top + r) (ht : r * b + u2 < g * next) : U < g * V := by
  have h1 : (head * b + u2 + 1) * M ≤ (g * (top * b) + g * next) * M := by
    refine Nat.mul_le_mul_right _ ?_
    have : head * b = g * (top * b) + r * b := by rw [hh]; grind
    omega
  have h3 : g * V = (g * (top * b) + g * next) * M + g * Vl := by rw [hV]; grind
  have h4 : (head * b + u2 + 1) * M = (head * b + u2) * M + M := by rw [Nat.add_mul, Nat.one_mul]
  omega

/-- Where the test says no the guess is one too great at most. -/
theorem kn_exit (hU : U = (head * b + u2) * M + Ul) (hV : V = (top * b + next) * M + Vl) (hVl : Vl < M) (hh : head = g * top + r) (ht : g * next ≤ r * b + u2) (hg : g < b) (htop : 0 < top) : g * V ≤ U + V := by
  have h1 : (g * (top * b) + g * next) * M ≤ (head * b + u2) * M := by
    refine Nat.mul_le_mul_right _ ?_
    have : head * b = g * (top * b) + r * b := by rw [hh]; grind
    omega
  have h3 : g * V = (g * (top * b) + g * next) * M + g * Vl := by rw [hV]; grind
  have h5 : g * Vl ≤ b * M := Nat.mul_le_mul (Nat.le_of_lt hg) (Nat.le_of_lt hVl)
  have h6 : b * M ≤ V := by
    rw [hV]
    have h7 : (1 * b) * M ≤ (top * b + next) * M := Nat.mul_le_mul_right _ (by have := Nat.mul_le_mul_right b (show 1 ≤ top from htop); omega)
    rw [Nat.one_mul] at h7
    omega
  omega
end

/-- The highest digit of what is divided is no greater than the divisor's. -/
theorem kn_top {b M u0 u1 u2 Ul U top next Vl V : Nat} (hU : U = ((u0 * b + u1) * b + u2) * M + Ul) (hV : V = (top * b + next) * M + Vl) (hVl : Vl < M) (hn : next < b) (h : U < b * V) : u0 ≤ top := by
  rcases Nat.lt_or_ge top u0 with h0 | h0
  · exfalso
    have h1 : ((top + 1) * b) * b * M ≤ (u0 * b) * b * M := Nat.mul_le_mul_right _ (Nat.mul_le_mul_right _ (Nat.mul_le_mul_right _ h0))
    have h2 : (u0 * b) * b * M ≤ U := by
      rw [hU]
      have : (u0 * b) * b * M ≤ ((u0 * b + u1) * b + u2) * M := Nat.mul_le_mul_right _ (by rw [Nat.add_mul (u0 * b)]; omega)
      omega
    have h3 : V + M ≤ ((top + 1) * b) * M + M := by
      have : (top * b + next + 1) * M ≤ ((top + 1) * b) * M := Nat.mul_le_mul_right _ (by rw [Nat.add_mul]; omega)
      rw [Nat.add_mul, Nat.one_mul] at this
      rw [hV]; omega
    have h3' : V ≤ ((top + 1) * b) * M := by omega
    have h4 := Nat.mul_le_mul_left b h3'
    have h5 : b * ((top + 1) * b * M) = ((top + 1) * b) * b * M := by grind
    omega
  · exact h0

/-- A quotient between a guess less one and the guess. -/
theorem div_is {U V q : Nat} (hV : 0 < V) (h1 : q * V ≤ U) (h2 : U < (q + 1) * V) : U / V = q := by
  have h3 : q ≤ U / V := (Nat.le_div_iff_mul_le hV).2 h1
  have h4 : U / V < q + 1 := (Nat.div_lt_iff_lt_mul hV).2 h2
  omega

/-- One digit of a row less a multiple. -/
theorem msub_step {B i x y g cy bw d c1 b1 : Nat} {W U Y : List Nat} (hi : i < W.length) (hv : valB B (W.take i) + g * valB B (Y.take i) = valB B (U.take i) + B ^ i * (cy + bw))
    (hU : U[i]? = some x) (hY : Y[i]? = some y) (hd : d + (g * y + cy) + bw = x + B * (b1 + c1)) :
    valB B ((W.set i d).take (i + 1)) + g * valB B (Y.take (i + 1)) = valB B (U.take (i + 1)) + B ^ (i + 1) * (c1 + b1) := by
  rw [valB_take_set B W i d hi, valB_take_some B hU, valB_take_some B hY, Nat.pow_succ, Nat.mul_assoc]
  have h1 : B ^ i * (d + (g * y + cy) + bw) = B ^ i * (x + B * (b1 + c1)) := by rw [hd]
  rw [Nat.mul_add, Nat.mul_add, Nat.mul_add, Nat.mul_add] at h1
  have h2 : g * (valB B (Y.take i) + B ^ i * y) = g * valB B (Y.take i) + B ^ i * (g * y) := by grind
  rw [h2, Nat.add_comm c1 b1]
  rw [Nat.mul_add] at hv
  omega

/-- The end of a digit whose guess is right. -/
theorem digit_end0 {B n u0 cy bw g t : Nat} {W Wc Y : List Nat} (hWl : W.length = n + 1) (hWc : Wc.length = n + 1) (hYl : Y.length = n) (hu : W[n]? = some u0)
    (hv : valB B (Wc.take n) + g * valB B (Y.take n) = valB B (W.take n) + B ^ n * (cy + bw)) (ht : t + cy + bw = u0) : valB B (Wc.set n t) + g * valB B Y = valB B W := by
  have h1 := valB_take_set B Wc n t (by omega)
  rw [valB_take_all B (by rw [List.length_set]; exact hWc)] at h1
  have h2 := valB_take_some B hu
  rw [valB_take_all B hWl] at h2
  rw [valB_take_all B hYl] at hv
  rw [h1, h2, ← ht, Nat.mul_add, Nat.mul_add]
  rw [Nat.mul_add] at hv
  omega

/-- .. whose guess is one too great: before what is added back. -/
theorem digit_end1 {B n u0 cy bw g t : Nat} {W Wc Y : List Nat} (hWl : W.length = n + 1) (hWc : Wc.length = n + 1) (hYl : Y.length = n) (hu : W[n]? = some u0)
    (hv : valB B (Wc.take n) + g * valB B (Y.take n) = valB B (W.take n) + B ^ n * (cy + bw)) (ht : t + cy + bw = u0 + B) : valB B (Wc.set n t) + g * valB B Y = valB B W + B ^ (n + 1) := by
  have h1 := valB_take_set B Wc n t (by omega)
  rw [valB_take_all B (by rw [List.length_set]; exact hWc)] at h1
  have h2 := valB_take_some B hu
  rw [valB_take_all B hWl] at h2
  rw [valB_take_all B hYl] at hv
  have h3 : B ^ n * (t + cy + bw) = B ^ n * (u0 + B) := by rw [ht]
  rw [h1, h2, Nat.pow_succ]
  rw [Nat.mul_add, Nat.mul_add, Nat.mul_add] at h3
  rw [Nat.mul_add] at hv
  omega

/-- .. behind it. -/
theorem digit_end2 {B n bk g t e x : Nat} {V : Nat} {Wd Wc Y : List Nat} (hWd : Wd.length = n + 1) (hWc : Wc.length = n + 1) (hYl : Y.length = n) (ht : Wc[n]? = some t)
    (hv : valB B (Wd.take n) + B ^ n * bk = valB B (Wc.take n) + valB B (Y.take n)) (hx : x + B * e = t + bk) (he : e ≤ 1)
    (hW : valB B Wc + g * valB B Y = V + B ^ (n + 1)) (hB : valB B (Wd.set n x) < B ^ (n + 1)) (hY : valB B Y < B ^ (n + 1)) (hg : g * valB B Y ≤ V + valB B Y) (hg2 : V < g * valB B Y) :
    valB B (Wd.set n x) + g * valB B Y = V + valB B Y := by
  have h1 := valB_take_set B Wd n x (by omega)
  rw [valB_take_all B (by rw [List.length_set]; exact hWd)] at h1
  have h2 := valB_take_some B ht
  rw [valB_take_all B hWc] at h2
  rw [valB_take_all B hYl] at hv
  have h3 : B ^ n * (x + B * e) = B ^ n * (t + bk) := by rw [hx]
  have hp : B ^ n * (B * e) = B ^ (n + 1) * e := by rw [Nat.pow_succ, Nat.mul_assoc]
  rw [Nat.mul_add, Nat.mul_add, hp] at h3
  have he2 : e = 0 ∨ e = 1 := by omega
  rcases he2 with rfl | rfl
  · rw [Nat.mul_zero] at h3; omega
  · rw [Nat.mul_one] at h3; omega

theorem mod_is {U V q r : Nat} (h : r + q * V = U) (hr : r < V) : U / V = q ∧ U % V = r := by
  have hV : 0 < V := by omega
  have h1 : U / V = q := div_is hV (by omega) (by rw [Nat.add_mul, Nat.one_mul]; omega)
  refine ⟨h1, ?_⟩
  have h2 := Nat.mod_add_div U V
  rw [h1, Nat.mul_comm V q] at h2
  omega

/-- One digit of what is added back. -/
theorem addb_step {B i x y bk d c1 : Nat} {W U Y : List Nat} (hi : i < W.length) (hv : valB B (W.take i) + B ^ i * bk = valB B (U.take i) + valB B (Y.take i))
    (hU : U[i]? = some x) (hY : Y[i]? = some y) (hd : d + B * c1 = x + y + bk) :
    valB B ((W.set i d).take (i + 1)) + B ^ (i + 1) * c1 = valB B (U.take (i + 1)) + valB B (Y.take (i + 1)) := by
  rw [valB_take_set B W i d hi, valB_take_some B hU, valB_take_some B hY, Nat.pow_succ, Nat.mul_assoc]
  have h1 : B ^ i * (d + B * c1) = B ^ i * (x + y + bk) := by rw [hd]
  rw [Nat.mul_add, Nat.mul_add, Nat.mul_add] at h1
  omega

/-- A row of k + 2 digits by its two highest ones. -/
theorem top_two {B k a c : Nat} {Y : List Nat} (hl : Y.length = k + 2) (ha : Y[k + 1]? = some a) (hc : Y[k]? = some c) : valB B Y = (a * B + c) * B ^ k + valB B (Y.take k) := by
  have h1 := valB_take_some B ha
  have h2 := valB_take_some B hc
  rw [valB_take_all B hl, h2, Nat.pow_succ] at h1
  rw [h1]; grind

/-- A row of k + 3 digits by its three highest ones. -/
theorem top_three {B k a c e : Nat} {U : List Nat} (hl : U.length = k + 3) (ha : U[k + 2]? = some a) (hc : U[k + 1]? = some c) (he : U[k]? = some e) :
    valB B U = ((a * B + c) * B + e) * B ^ k + valB B (U.take k) := by
  have h1 := valB_take_some B ha
  have h2 := valB_take_some B hc
  have h3 := valB_take_some B he
  rw [valB_take_all B hl, h2, h3, Nat.pow_succ, Nat.pow_succ] at h1
  rw [h1, Nat.pow_succ]; grind

theorem top_two' {B n a c : Nat} {Y : List Nat} (h2 : 2 ≤ n) (hl : Y.length = n) (ha : Y[n - 1]? = some a) (hc : Y[n - 2]? = some c) : valB B Y = (a * B + c) * B ^ (n - 2) + valB B (Y.take (n - 2)) := by
  obtain ⟨k, rfl⟩ : ∃ k, n = k + 2 := ⟨n - 2, by omega⟩
  exact top_two hl ha hc

theorem top_three' {B n a c e : Nat} {U : List Nat} (h2 : 2 ≤ n) (hl : U.length = n + 1) (ha : U[n]? = some a) (hc : U[n - 1]? = some c) (he : U[n - 2]? = some e) :
    valB B U = ((a * B + c) * B + e) * B ^ (n - 2) + valB B (U.take (n - 2)) := by
  obtain ⟨k, rfl⟩ : ∃ k, n = k + 2 := ⟨n - 2, by omega⟩
  exact top_three hl ha hc he

theorem take_lt {B k : Nat} {Y : List Nat} (hB : ∀ x ∈ Y, x < B) (hk : k ≤ Y.length) : valB B (Y.take k) < B ^ k := by
  have := valB_lt (B := B) (xs := Y.take k) (fun x h => hB x (List.mem_of_mem_take h))
  rwa [List.length_take, Nat.min_eq_left hk] at this

/-- One digit of a long division: what is divided is low enough; what lies above is nothing. -/
theorem div_pre {B n V i : Nat} {A W C : List Nat} (hB : 2 ≤ B) (hi : A.length = i) (hW : W.length = n + 1) (hlt : ∀ x ∈ W, x < B) (hV : V < B ^ n) (h : valB B ((A ++ (W ++ C)).drop (i + 1)) < V) :
    valB B W < B * V ∧ valB B C = 0 := by
  obtain ⟨x, W1, rfl⟩ : ∃ x W1, W = x :: W1 := by
    cases W with
    | nil => simp at hW
    | cons x W1 => exact ⟨x, W1, rfl⟩
  have e : (A ++ (x :: W1 ++ C)).drop (i + 1) = W1 ++ C := by
    subst hi
    rw [← List.drop_drop, List.drop_left]; rfl
  rw [e, valB_append] at h
  have hx : x < B := hlt x List.mem_cons_self
  have hl : W1.length = n := by simpa using hW
  rw [hl] at h
  have h0 : valB B C = 0 := by
    rcases Nat.eq_zero_or_pos (valB B C) with h1 | h1
    · exact h1
    · have := Nat.mul_le_mul_left (B ^ n) h1
      omega
  refine ⟨?_, h0⟩
  rw [h0, Nat.mul_zero, Nat.add_zero] at h
  rw [valB_cons]
  have := Nat.mul_le_mul_left B (show valB B W1 + 1 ≤ V from h)
  rw [Nat.mul_add, Nat.mul_one] at this
  omega

theorem div_step {B n V i q X : Nat} {A W W' C qs : List Nat} (hA : A.length = i) (hC : valB B C = 0) (hW : valB B W' + q * V = valB B W) (hi : i < qs.length)
    (hv : valB B (A ++ (W ++ C)) + B ^ (i + 1) * (valB B (qs.drop (i + 1)) * V) = X) (hW' : W'.length = n + 1) (hWl : W.length = n + 1) :
    valB B (A ++ (W' ++ C)) + B ^ i * (valB B ((qs.set i q).drop i) * V) = X ∧ valB B ((A ++ (W' ++ C)).drop i) = valB B W' := by
  constructor
  · rw [valB_drop_set B qs i q hi]
    rw [valB_append, valB_append, hC, Nat.mul_zero, Nat.add_zero, hA] at hv ⊢
    rw [← hv, ← hW, Nat.pow_succ]
    grind
  · subst hA
    rw [List.drop_left, valB_append, hC, Nat.mul_zero, Nat.add_zero]

theorem unscale {U V S q r : Nat} (hS : 0 < S) (h : r + q * (V * S) = U * S) (hr : r < V * S) : U / V = q ∧ U % V = r / S := by
  have h1 : q * (V * S) = (q * V) * S := by rw [Nat.mul_assoc]
  have hle : q * V ≤ U := by
    refine Nat.le_of_mul_le_mul_right (c := S) ?_ hS
    omega
  have hr2 : r = (U - q * V) * S := by rw [Nat.sub_mul]; omega
  have hrS : r / S = U - q * V := by rw [hr2, Nat.mul_div_cancel _ hS]
  have hlt : U - q * V < V := by
    rw [hr2] at hr
    exact Nat.lt_of_mul_lt_mul_right hr
  have := mod_is (U := U) (V := V) (q := q) (r := U - q * V) (by omega) hlt
  rw [hrS]
  exact this

/-- What the first divisor's digit says of the divisor moved up. -/
theorem scale_facts {B k v low S V : Nat} (hV : V = v * B ^ k + low) (hlow : low < B ^ k) (h1 : (v + 1) * S ≤ B) (h2 : B ≤ 2 * (v * S)) (hS : 0 < S) :
    V * S < B ^ (k + 1) ∧ B * B ^ k ≤ 2 * (V * S) ∧ B ^ k * S ≤ V * S := by
  have hv : 1 ≤ v := by
    rcases Nat.eq_zero_or_pos v with h0 | h0
    · exfalso
      subst h0
      have := Nat.mul_le_mul_left 1 hS
      omega
    · exact h0
  refine ⟨?_, ?_, ?_⟩
  · have h3 : V + 1 ≤ (v + 1) * B ^ k := by rw [Nat.add_mul]; omega
    have h4 : (V + 1) * S ≤ (v + 1) * B ^ k * S := Nat.mul_le_mul_right _ h3
    have h5 : (v + 1) * B ^ k * S = (v + 1) * S * B ^ k := by grind
    have h6 : (v + 1) * S * B ^ k ≤ B * B ^ k := Nat.mul_le_mul_right _ h1
    rw [Nat.pow_succ, Nat.mul_comm _ B]
    rw [Nat.add_mul] at h4
    omega
  · have h3 : B * B ^ k ≤ 2 * (v * S) * B ^ k := Nat.mul_le_mul_right _ h2
    have h4 : 2 * (v * S) * B ^ k = 2 * ((v * B ^ k) * S) := by grind
    have h5 : (v * B ^ k) * S ≤ V * S := Nat.mul_le_mul_right _ (by omega)
    omega
  · refine Nat.mul_le_mul_right _ ?_
    have := Nat.mul_le_mul_right (B ^ k) hv
    omega

/-- What is divided, moved up, is less than the divisor above the quotient's place. -/
theorem start_lt {B k j S U V T D X : Nat} (hU : U < B ^ (j + k)) (hX : X = T + B ^ j * D) (hXU : X = U * S) (hV : B ^ k * S ≤ V) (hB : 0 < B) (hS : 0 < S) : D < V := by
  have h1 : B ^ j * D < B ^ j * (B ^ k * S) := by
    have h2 : U * S < B ^ (j + k) * S := Nat.mul_lt_mul_of_pos_right hU hS
    rw [Nat.pow_add, Nat.mul_assoc] at h2
    omega
  have := Nat.lt_of_mul_lt_mul_left h1
  omega

theorem top_digit {B k y V : Nat} {Y : List Nat} (hB : ∀ x ∈ Y, x < B) (hl : Y.length = k + 1) (hy : Y[k]? = some y) (hV : valB B Y = V) (h : B * B ^ k ≤ 2 * V) : B ≤ 2 * y + 1 := by
  have h1 := valB_take_some B hy
  rw [valB_take_all B hl, hV] at h1
  have h2 := take_lt hB (k := k) (by omega)
  have h3 : B * B ^ k < (2 * y + 2) * B ^ k := by
    rw [Nat.mul_comm] at h1
    rw [Nat.add_mul, Nat.mul_assoc]
    have := Nat.mul_comm (B ^ k) y
    omega
  have := Nat.lt_of_mul_lt_mul_right h3
  omega

end Go.Proofs.Ytkcagkcphobmfaa
