/-
  CONTRACTS in the machine's words: rows of limbs and of digits.
-/
import Derived.Test.YtkcagkcphobmfaaMm
import Derived.Test.YtkcagkcphobmfaaMt
import Derived.Test.YtkcagkcphobmfaaRc
import Derived.Test.YtkcagkcphobmfaaRd
import Derived.Test.YtkcagkcphobmfaaRe
import Derived.Test.YtkcagkcphobmfaaKr
import Derived.Test.YtkcagkcphobmfaaKs
import Derived.Test.YtkcagkcphobmfaaKw
import Derived.Test.YtkcagkcphobmfaaLg
set_option linter.unusedVariables false
set_option linter.unusedSimpArgs false
namespace Go.Proofs.Ytkcagkcphobmfaa
open Go.RowKit

theorem ln_R {B : BS} {w w' : World} {K m : Nat} {a : Option Addr} {n c : Nat} (hB : ∀ b, B b → b < w.heap.size) (h : Rw .u32 B32 w' a n c (limbs m)) (hm : m < B32 ^ K) (ho : Own w.heap.size w' a c) : LfR B w' (ln K m) (.slice a n c) := lr_R h (limbs_K h hm) (own_out hB ho h)
theorem dn_R {B : BS} {w w' : World} {K m : Nat} {a : Option Addr} {n c : Nat} (hB : ∀ b, B b → b < w.heap.size) (h : Rw .i64 B4 w' a n c (digs4 m)) (hm : m < B4 ^ K) (ho : Own w.heap.size w' a c) : LfR B w' (dn K m) (.slice a n c) := dr_R h (digs_K h hm) (own_out hB ho h)
theorem pow_le {B K M : Nat} (hB : 2 ≤ B) (h : K ≤ M) {m : Nat} (hm : m < B ^ K) : m < B ^ M := Nat.lt_of_lt_of_le hm (Nat.pow_le_pow_right (by omega) h)

set_option maxHeartbeats 1000000 in
theorem aLNorm {l : Lf} {K m : Nat} (h : IsL l K m) (hK : K ≤ 1073741824 := by decide) : ACall Try.prog 63 [.one l] (.d (.one (ln K m))) := by
  obtain ⟨xs, hl1, rfl⟩ := h
  refine ⟨enters Try.func63 rfl rfl, fun B w vs hB hvs => ?_⟩
  match vs, hvs with
  | [v], ⟨h1, _⟩ =>
    obtain ⟨a, n, c, rfl, hr, hn, hb⟩ := lr_of (hl1 _ _ _ h1)
    refine (norm_any a n c xs w (by omega) hr).mono ?_
    rintro e w' ⟨ro, k, c', rfl, hk, h3, ho, hbb⟩
    exact ⟨_, rfl, hbb, ln_R hB h3 (lr_lt hr hn) ho⟩

set_option maxHeartbeats 1000000 in
theorem aLAdd {a b : Lf} {K L M m n : Nat} (h : IsL a K m) (k : IsL b L n) (hM : max K L + 1 ≤ M := by decide) (hK : K ≤ 1073741824 := by decide) (hL : L ≤ 1073741824 := by decide) : ACall Try.prog 56 [.one a, .one b] (.d (.one (ln M (m + n)))) := by
  obtain ⟨xs, hl1, rfl⟩ := h
  obtain ⟨ys, hl2, rfl⟩ := k
  refine ⟨enters Try.func56 rfl rfl, fun B w vs hB hvs => ?_⟩
  match vs, hvs with
  | [v, u], ⟨h1, h2, _⟩ =>
    obtain ⟨a, n, c, rfl, hr, hn, hb⟩ := lr_of (hl1 _ _ _ h1)
    obtain ⟨a', n', c', rfl, hr', hn', hb'⟩ := lr_of (hl2 _ _ _ h2)
    refine (add_any a a' n c n' c' xs ys w (by omega) (by omega) hr hr').mono ?_
    rintro e w' ⟨ro, k, cc, rfl, h3, ho, hbb⟩
    exact ⟨_, rfl, hbb, ln_R hB h3 (pow_le (by decide) hM (max_add_lt (by decide) (lr_lt hr hn) (lr_lt hr' hn'))) ho⟩

set_option maxHeartbeats 1000000 in
theorem aLSub {a b : Lf} {K L m n : Nat} (h : IsL a K m) (k : IsL b L n) (hK : K ≤ 1073741824 := by decide) (hL : L ≤ 1073741824 := by decide) : ACall Try.prog 57 [.one a, .one b] (.tup [.one (ln K (m - n)), .one (.v (.bool (decide (n ≤ m))))]) := by
  obtain ⟨xs, hl1, rfl⟩ := h
  obtain ⟨ys, hl2, rfl⟩ := k
  refine ⟨enters Try.func57 rfl rfl, fun B w vs hB hvs => ?_⟩
  match vs, hvs with
  | [v, u], ⟨h1, h2, _⟩ =>
    obtain ⟨a, n, c, rfl, hr, hn, hb⟩ := lr_of (hl1 _ _ _ h1)
    obtain ⟨a', n', c', rfl, hr', hn', hb'⟩ := lr_of (hl2 _ _ _ h2)
    refine (sub_any a a' n c n' c' xs ys w (by omega) (by omega) hr hr').mono ?_
    rintro e w' ⟨ro, k, cc, rfl, h3, ho, hbb⟩
    have hlt := lr_lt hr hn
    exact ⟨_, rfl, hbb, [.slice ro k cc, .bool (decide (val ys ≤ val xs))], rfl, ln_R hB h3 (by omega) ho, ⟨rfl, rfl⟩, trivial⟩

set_option maxHeartbeats 1000000 in
theorem aLMul {a b : Lf} {K L M m n : Nat} (h : IsL a K m) (k : IsL b L n) (hM : K + L ≤ M := by decide) (hK : K ≤ 1073741824 := by decide) (hL : L ≤ 1073741824 := by decide) : ACall Try.prog 68 [.one a, .one b] (.d (.one (ln M (m * n)))) := by
  obtain ⟨xs, hl1, rfl⟩ := h
  obtain ⟨ys, hl2, rfl⟩ := k
  refine ⟨enters Try.func68 rfl rfl, fun B w vs hB hvs => ?_⟩
  match vs, hvs with
  | [v, u], ⟨h1, h2, _⟩ =>
    obtain ⟨a, n, c, rfl, hr, hn, hb⟩ := lr_of (hl1 _ _ _ h1)
    obtain ⟨a', n', c', rfl, hr', hn', hb'⟩ := lr_of (hl2 _ _ _ h2)
    refine (mul_any a a' n c n' c' xs ys w (by omega) (by omega) hr hr').mono ?_
    rintro e w' ⟨ro, k, cc, rfl, h3, ho, hbb⟩
    exact ⟨_, rfl, hbb, ln_R hB h3 (pow_le (by decide) hM (mul_lt_pow (lr_lt hr hn) (lr_lt hr' hn'))) ho⟩

set_option maxHeartbeats 1000000 in
theorem aLCmp {a b : Lf} {K L m n : Nat} (h : IsL a K m) (k : IsL b L n) (hK : K ≤ 1073741824 := by decide) (hL : L ≤ 1073741824 := by decide) : ACall Try.prog 72 [.one a, .one b] (.d (.one (.v (.int .i64 (cmpZ m n))))) := by
  obtain ⟨xs, hl1, rfl⟩ := h
  obtain ⟨ys, hl2, rfl⟩ := k
  refine ⟨enters Try.func72 rfl rfl, fun B w vs hB hvs => ?_⟩
  match vs, hvs with
  | [v, u], ⟨h1, h2, _⟩ =>
    obtain ⟨a, n, c, rfl, hr, hn, hb⟩ := lr_of (hl1 _ _ _ h1)
    obtain ⟨a', n', c', rfl, hr', hn', hb'⟩ := lr_of (hl2 _ _ _ h2)
    refine (cmp_any a a' n c n' c' xs ys w (by omega) (by omega) hr hr').mono ?_
    rintro e w' ⟨rfl, hbb⟩
    exact ⟨_, rfl, hbb, rfl, rfl⟩

set_option maxHeartbeats 1000000 in
theorem aLBits {a : Lf} {K m : Nat} (h : IsL a K m) (hK : K ≤ 1073741824 := by decide) : ACall Try.prog 64 [.one a] (.d (.one (.v (.int .i64 ((nbits m : Nat) : Int))))) := by
  obtain ⟨xs, hl1, rfl⟩ := h
  refine ⟨enters Try.func64 rfl rfl, fun B w vs hB hvs => ?_⟩
  match vs, hvs with
  | [v], ⟨h1, _⟩ =>
    obtain ⟨a, n, c, rfl, hr, hn, hb⟩ := lr_of (hl1 _ _ _ h1)
    refine (bits_any a n c xs w (by omega) hr).mono ?_
    rintro e w' ⟨rfl, rfl⟩
    exact ⟨_, rfl, Below.refl _ _, rfl, rfl⟩

set_option maxHeartbeats 1000000 in
theorem aLDiv {a b : Lf} {K L m n : Nat} (h : IsL a K m) (k : IsL b L n) (hK : K ≤ 1073741823 := by decide) (hL : L ≤ 1073741823 := by decide) : ACall Try.prog 54 [.one a, .one b] (.tup [.one (ln K (m / n)), .one (ln L (modZ m n)), .one (.v (.int .i64 (divErr n)))]) := by
  obtain ⟨xs, hl1, rfl⟩ := h
  obtain ⟨ys, hl2, rfl⟩ := k
  refine ⟨enters Try.func54 rfl rfl, fun B w vs hB hvs => ?_⟩
  match vs, hvs with
  | [v, u], ⟨h1, h2, _⟩ =>
    obtain ⟨a, n, c, rfl, hr, hn, hb⟩ := lr_of (hl1 _ _ _ h1)
    obtain ⟨a', n', c', rfl, hr', hn', hb'⟩ := lr_of (hl2 _ _ _ h2)
    refine (divmod_any a a' n c n' c' xs ys w (by omega) (by omega) hr hr').mono ?_
    rintro e w' ⟨qo, qn, qc, ro, rn, rc, rfl, h3, h4, h5, h6, hbb⟩
    have hq : val xs / val ys < B32 ^ K := Nat.lt_of_le_of_lt (Nat.div_le_self _ _) (lr_lt hr hn)
    have hm : modZ (val xs) (val ys) < B32 ^ L := by
      by_cases h0 : val ys = 0
      · rw [h0, modZ_zero]; exact Nat.pow_pos (by decide)
      · rw [modZ_pos _ h0]; exact Nat.lt_trans (Nat.mod_lt _ (by omega)) (lr_lt hr' hn')
    exact ⟨_, rfl, hbb, [.slice qo qn qc, .slice ro rn rc, .int .i64 (divErr (val ys))], rfl, ln_R hB h3 hq h4, ln_R hB h5 hm h6, ⟨rfl, rfl⟩, trivial⟩

set_option maxHeartbeats 1000000 in
theorem aNAdd {a b : Lf} {K L M m n : Nat} (h : IsD a K m) (k : IsD b L n) (hM : max K L + 1 ≤ M := by decide) (hK : K ≤ 1073741824 := by decide) (hL : L ≤ 1073741824 := by decide) : ACall Try.prog 69 [.one a, .one b] (.d (.one (dn M (m + n)))) := by
  refine ⟨enters Try.func69 rfl rfl, fun B w vs hB hvs => ?_⟩
  match vs, hvs with
  | [v, u], ⟨h1, h2, _⟩ =>
    obtain ⟨a, na, c, rfl, hr, hn, hb⟩ := dr_of (h _ _ _ h1)
    obtain ⟨a', n', c', rfl, hr', hn', hb'⟩ := dr_of (k _ _ _ h2)
    refine (addN_own a a' na c n' c' m n w (by omega) (by omega) hr hr').mono ?_
    rintro e w' ⟨ro, k, cc, rfl, h3, ho, hk, hbb⟩
    exact ⟨_, rfl, hbb, dn_R hB h3 (pow_le (by decide) hM (max_add_lt (by decide) (dn_lt hr hn) (dn_lt hr' hn'))) ho⟩

set_option maxHeartbeats 1000000 in
theorem aNMul {a b : Lf} {K L M m n : Nat} (h : IsD a K m) (k : IsD b L n) (hM : K + L ≤ M := by decide) (hK : K ≤ 1073741824 := by decide) (hL : L ≤ 1073741824 := by decide) : ACall Try.prog 61 [.one a, .one b] (.d (.one (dn M (m * n)))) := by
  refine ⟨enters Try.func61 rfl rfl, fun B w vs hB hvs => ?_⟩
  match vs, hvs with
  | [v, u], ⟨h1, h2, _⟩ =>
    obtain ⟨a, na, c, rfl, hr, hn, hb⟩ := dr_of (h _ _ _ h1)
    obtain ⟨a', n', c', rfl, hr', hn', hb'⟩ := dr_of (k _ _ _ h2)
    refine (mulN_own a a' na c n' c' m n w (by omega) (by omega) hr hr').mono ?_
    rintro e w' ⟨ro, k, cc, rfl, h3, hk, ho, hbb⟩
    exact ⟨_, rfl, hbb, dn_R hB h3 (pow_le (by decide) hM (mul_lt_pow (dn_lt hr hn) (dn_lt hr' hn'))) ho⟩

set_option maxHeartbeats 1000000 in
theorem aNSub {a b : Lf} {K L M m n : Nat} (h : IsD a K m) (k : IsD b L n) (hle : n ≤ m) (hM : K ≤ M := by decide) (hK : K ≤ 1073741824 := by decide) (hL : L ≤ 1073741824 := by decide) : ACall Try.prog 70 [.one a, .one b] (.d (.one (dn M (m - n)))) := by
  refine ⟨enters Try.func70 rfl rfl, fun B w vs hB hvs => ?_⟩
  match vs, hvs with
  | [v, u], ⟨h1, h2, _⟩ =>
    obtain ⟨a, na, c, rfl, hr, hn, hb⟩ := dr_of (h _ _ _ h1)
    obtain ⟨a', n', c', rfl, hr', hn', hb'⟩ := dr_of (k _ _ _ h2)
    refine (subN_own a a' na c n' c' m n w (by omega) (by omega) hle hr hr').mono ?_
    rintro e w' ⟨ro, k, cc, rfl, h3, hk, ho, hbb⟩
    exact ⟨_, rfl, hbb, dn_R hB h3 (pow_le (by decide) hM (Nat.lt_of_le_of_lt (Nat.sub_le _ _) (dn_lt hr hn))) ho⟩

set_option maxHeartbeats 1000000 in
theorem aNCmp {a b : Lf} {K L m n : Nat} (h : IsD a K m) (k : IsD b L n) (hK : K ≤ 1073741824 := by decide) (hL : L ≤ 1073741824 := by decide) : ACall Try.prog 28 [.one a, .one b] (.d (.one (.v (.int .i64 (cmpZ m n))))) := by
  refine ⟨enters Try.func28 rfl rfl, fun B w vs hB hvs => ?_⟩
  match vs, hvs with
  | [v, u], ⟨h1, h2, _⟩ =>
    obtain ⟨a, na, c, rfl, hr, hn, hb⟩ := dr_of (h _ _ _ h1)
    obtain ⟨a', n', c', rfl, hr', hn', hb'⟩ := dr_of (k _ _ _ h2)
    refine (cmpN_any a a' na c n' c' m n w (by omega) (by omega) hr hr').mono ?_
    rintro e w' ⟨rfl, hbb⟩
    exact ⟨_, rfl, hbb, rfl, rfl⟩

set_option maxHeartbeats 1000000 in
theorem aNDiv {a b : Lf} {K L m n : Nat} (h : IsD a K m) (k : IsD b L n) (hn0 : 0 < n) (hK : K ≤ 100000000 := by decide) (hL : L ≤ 100000000 := by decide) : ACall Try.prog 58 [.one a, .one b] (.tup [.one (dn K (m / n)), .one (dn L (m % n))]) := by
  refine ⟨enters Try.func58 rfl rfl, fun B w vs hB hvs => ?_⟩
  match vs, hvs with
  | [v, u], ⟨h1, h2, _⟩ =>
    obtain ⟨a, na, c, rfl, hr, hn, hb⟩ := dr_of (h _ _ _ h1)
    obtain ⟨a', n', c', rfl, hr', hn', hb'⟩ := dr_of (k _ _ _ h2)
    refine (divN_own a a' na c n' c' m n w (by omega) (by omega) hn0 hr hr').mono ?_
    rintro e w' ⟨qo, qn, qc, ro, rn, rc, rfl, h3, _, h5, _, h4, h6, hbb⟩
    have hq : m / n < B4 ^ K := Nat.lt_of_le_of_lt (Nat.div_le_self _ _) (dn_lt hr hn)
    have hm : m % n < B4 ^ L := Nat.lt_trans (Nat.mod_lt _ hn0) (dn_lt hr' hn')
    exact ⟨_, rfl, hbb, [.slice qo qn qc, .slice ro rn rc], rfl, dn_R hB h3 hq h4, dn_R hB h5 hm h6, trivial⟩

set_option maxHeartbeats 1000000 in
theorem aNFrom {l : Lf} {K M m : Nat} (h : IsL l K m) (hM : 3 * K ≤ M := by decide) (hK : K ≤ 100000000 := by decide) : ACall Try.prog 74 [.one l] (.d (.one (dn M m))) := by
  obtain ⟨xs, hl1, rfl⟩ := h
  refine ⟨enters Try.func74 rfl rfl, fun B w vs hB hvs => ?_⟩
  match vs, hvs with
  | [v], ⟨h1, _⟩ =>
    obtain ⟨a, n, c, rfl, hr, hn, hb⟩ := lr_of (hl1 _ _ _ h1)
    refine (fromN_own a n c xs w (by omega) hr).mono ?_
    rintro e w' ⟨ro, k, c', rfl, h3, hk, ho, hbb⟩
    exact ⟨_, rfl, hbb, dr_R h3 (by omega) (own_out hB ho h3)⟩

set_option maxHeartbeats 1000000 in
theorem aNTo {a : Lf} {K m : Nat} (h : IsD a K m) (hK : K ≤ 1000000000 := by decide) : ACall Try.prog 62 [.one a] (.d (.one (ln K m))) := by
  refine ⟨enters Try.func62 rfl rfl, fun B w vs hB hvs => ?_⟩
  match vs, hvs with
  | [v], ⟨h1, _⟩ =>
    obtain ⟨a, n, c, rfl, hr, hn, hb⟩ := dr_of (h _ _ _ h1)
    refine (toN_own a n c m w (by omega) hr).mono ?_
    rintro e w' ⟨ro, k, c', rfl, h3, hk, ho, hbb⟩
    exact ⟨_, rfl, hbb, lr_R h3 (by omega) (own_out hB ho h3)⟩

set_option maxHeartbeats 1000000 in
theorem aNPow {n : Nat} (hn : n ≤ 1000000 := by decide) : ACall Try.prog 29 [.one (.v (.int .i64 (n : Int)))] (.d (.one (dn (n + 1) (2 ^ n)))) := by
  refine ⟨enters Try.func29 rfl rfl, fun B w vs hB hvs => ?_⟩
  match vs, hvs with
  | [_], ⟨⟨rfl, _⟩, _⟩ =>
    refine (powN_own n w hn).mono ?_
    rintro e w' ⟨ro, k, c', rfl, h3, hk, ho, hbb⟩
    exact ⟨_, rfl, hbb, dr_R h3 hk (own_out hB ho h3)⟩

set_option maxHeartbeats 1000000 in
theorem aMulAdd {a : Lf} {K M m q c0 : Nat} (h : IsD a K m) (hq : q ≤ 65536) (hc : c0 ≤ 1000000) (hm : m * q + c0 < B4 ^ M) (hK : K ≤ 1073741824 := by decide) : ACall Try.prog 65 [.one a, .one (.v (.int .i64 (q : Int))), .one (.v (.int .i64 (c0 : Int)))] (.d (.one (dn M (m * q + c0)))) := by
  refine ⟨enters Try.func65 rfl rfl, fun B w vs hB hvs => ?_⟩
  match vs, hvs with
  | [v, _, _], ⟨h1, ⟨rfl, _⟩, ⟨rfl, _⟩, _⟩ =>
    obtain ⟨a, n, c, rfl, hr, hn, hb⟩ := dr_of (h _ _ _ h1)
    refine (mulAdd_own a n c q c0 _ w (by omega) hq hc hr).mono ?_
    rintro e w' ⟨ro, k, c', rfl, h3, ho, hbb⟩
    rw [val4_digs4] at h3
    exact ⟨_, rfl, hbb, dn_R hB h3 hm ho⟩

set_option maxHeartbeats 1000000 in
theorem aRow {K k : Nat} {xs : List Nat} (hk : k ≤ 1000000 := by decide) (hK : K ≤ 9223372036854775807 := by decide) : ACall Try.prog 73 [.one (lr K xs), .one (.v (.int .i64 (k : Int)))] (.d (.one (lr k (xs.take k)))) := by
  refine ⟨enters Try.func73 rfl rfl, fun B w vs hB hvs => ?_⟩
  match vs, hvs with
  | [v, _], ⟨h1, ⟨rfl, _⟩, _⟩ =>
    obtain ⟨a, n, c, rfl, hr, hn, hb⟩ := lr_of h1
    refine (row_any a n c k xs w (by omega) hk hr).mono ?_
    rintro e w' ⟨m, rfl, hm1, hm2, h3, rfl⟩
    exact ⟨_, rfl, Below.refl _ _, lr_R h3 hm1 (fun x hx hne => hb x hx (fun e => hne (by rw [e]; simp)))⟩

set_option maxHeartbeats 1000000 in
theorem aCopy {K : Nat} {xs : List Nat} (hK : K ≤ 1073741824 := by decide) : ACall Try.prog 50 [.one (lr K xs)] (.d (.one (lr K xs))) := by
  refine ⟨enters Try.func50 rfl rfl, fun B w vs hB hvs => ?_⟩
  match vs, hvs with
  | [v], ⟨h1, _⟩ =>
    obtain ⟨a, n, c, rfl, hr, hn, hb⟩ := lr_of h1
    refine (copy_any a n c xs w (by omega) hr).mono ?_
    rintro e w' ⟨ro, c', rfl, h3, ho, hbb⟩
    exact ⟨_, rfl, hbb, lr_R h3 hn (own_out hB ho h3)⟩

set_option maxHeartbeats 1000000 in
theorem aSame {K L : Nat} {xs ys : List Nat} (hK : K ≤ 1073741824 := by decide) (hL : L ≤ 1073741824 := by decide) : ACall Try.prog 67 [.one (lr K xs), .one (lr L ys)] (.d (.one (.v (.bool (decide (xs = ys)))))) := by
  refine ⟨enters Try.func67 rfl rfl, fun B w vs hB hvs => ?_⟩
  match vs, hvs with
  | [v, u], ⟨h1, h2, _⟩ =>
    obtain ⟨a, n, c, rfl, hr, hn, hb⟩ := lr_of h1
    obtain ⟨a', n', c', rfl, hr', hn', hb'⟩ := lr_of h2
    refine (same_any a a' n c n' c' xs ys w (by omega) (by omega) hr hr').mono ?_
    rintro e w' ⟨rfl, hbb⟩
    exact ⟨_, rfl, hbb, rfl, rfl⟩

set_option maxHeartbeats 1000000 in
theorem aWithin {v : Int} {n : Nat} (hn : 1 ≤ n := by decide) (hn2 : n ≤ 1000000 := by decide) (h1 : -9223372036854775808 ≤ v) (h2 : v ≤ 9223372036854775807) : ACall Try.prog 31 [.one (.v (.int .i64 v)), .one (.v (.int .i64 (n : Int)))] (.d (.one (.v (.int .i64 (v % (n : Int)))))) := by
  refine ⟨enters Try.func31 rfl rfl, fun B w vs hB hvs => ?_⟩
  match vs, hvs with
  | [_, _], ⟨⟨rfl, _⟩, ⟨rfl, _⟩, _⟩ =>
    refine (within_any v n w hn hn2 h1 h2).mono ?_
    rintro e w' ⟨rfl, rfl⟩
    exact ⟨_, rfl, Below.refl _ _, rfl, rfl⟩

end Go.Proofs.Ytkcagkcphobmfaa
